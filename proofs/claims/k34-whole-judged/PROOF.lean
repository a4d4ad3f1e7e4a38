import PyProof.Rows.All
import Wide.All
import OpenK.AllK
import Wide.FinOn
import KE.KStateDown
import HandS.ForMost
import HandS.Property
import HandS.Defaults
import HandS.Head0
import HandS.Head1
import HandS.Head2
import HandS.HeadEnd
import HandS.HeadHook1
import HandS.HeadHook2
import HandS.HeadHook3
import HandS.Star
import HandS.Walk
import HandS.Zip
import HandS.Evl
import HandS.IsInst
import HandS.Deep
import HandS.Flow
import HandS.Style
import HandS.TupAny
import HandS.Conv
import HandS.Text
import KE.GoesMore
import KE.GoesZip
import KE.GoesEnum
import KE.KDictPairs
import KE.KOpsOwn
import HandS.SlotsOwn
import HandS.SetFor
import KE.KRevSl
import HandS.Words
import PyProof.ReprRoads
import KE.KSuper
import HandS.ClsMeth
import HandS.Nested
import PySem.Challenge.RW_carryprobe_k34_whole_judged_by_all_rows
/-! part CpHA -/
set_option Elab.async false
set_option linter.all false
set_option maxRecDepth 100000
set_option maxHeartbeats 0
namespace CPK
open PySem PySem.Spec PyProof.Rows L2
/-- a def by its address -/
structure FX where
  ad : Addr
  name : Str
  qual : Str
  st : Stmt
  dfl : List V
  kwd : List (Str × V)
  clo : List (Str × Addr) := []
def FX.val (d : FX) : He.FnW := some (d.name, d.qual, defArgs d.st, .stmts (defBody d.st), defScope d.st, mainGlobals, d.clo, builtinsNs)
def fxW (K : PySem.W.Frag) (a : Addr) : He.FnW := match K.lookup a with
  | some ⟨_, _, .func fd, _⟩ => some (fd.name, fd.qualname, fd.params, fd.body, fd.scope, fd.globals, fd.closure, fd.builtins)
  | _ => none
def fxB (K : PySem.W.Frag) (d : FX) : Bool := match K.lookup d.ad with
  | some ⟨_, _, .func fd, _⟩ => PySem.W.codeIn K fd.code d.qual && (He.dflB K fd.defaults d.dfl && He.kwdB K fd.kwdefaults d.kwd)
  | _ => false
def isStrV (r : Option (Option Value)) (z : Str) : Bool := match r with
  | some (some (.str y _)) => decide (y = z)
  | _ => false
def isIntV (r : Option (Option Value)) (i : Int) : Bool := match r with
  | some (some (.int j _)) => decide (j = i)
  | _ => false
def tupV (K : PySem.W.Frag) (a : Addr) (vs : List V) : Bool := match K.lookup a with
  | some ⟨.type c, _, .seq its _, _⟩ => decide (c = "tuple") && (decide (its.size ≤ sizeLine) && He.relAll vs its.toList)
  | _ => false
def clsB (K : PySem.W.Frag) (C : Addr) : Bool := PySem.W.plainGet K C Str.empty && (PySem.W.hasDictIn K C && (PySem.W.plainOver K C && He.eqO (PySem.W.findIn K (.ref C) "__setattr__") (some (some (.builtin "object.__setattr__")))))
def mkB (K : PySem.W.Frag) (C f : Addr) : Bool := PySem.W.makesIn K C && (He.eqO (PySem.W.findIn K (.ref C) "__init__") (some (some (.ref f))) && (PySem.W.isFn K (.ref f) && PySem.W.keepIn K (.ref C)))
def methB (K : PySem.W.Frag) (C : Addr) (m : Str) (f : Addr) : Bool := He.eqO (PySem.W.findIn K (.ref C) m) (some (some (.ref f))) && PySem.W.isFn K (.ref f)
def conV (K : PySem.W.Frag) (C : Addr) (f : Str) (i : Int) : Bool := match PySem.W.findIn K (.ref C) f with
  | some (some u) => He.relB (.int i) u && He.eqO (PySem.W.specialIn K u "__get__") (some none)
  | _ => false
def propB (K : PySem.W.Frag) (C : Addr) (f : Str) (p g : Addr) : Bool := He.eqO (PySem.W.findIn K (.ref C) f) (some (some (.ref p))) && (He.eqO (PySem.W.specialIn K (.ref p) "__get__") (some (some (.builtin "property.__get__"))) && (decide (PySem.W.takesIn K (.ref p) = some true) &&
  (match PySem.W.recIn K p "property" with
    | some (.ref g' :: _) => decide (g' = g)
    | _ => false)))
/-- the cell at c holds the class D -/
def cellB (K : PySem.W.Frag) (c D : Addr) : Bool := match K.lookup c with
  | some ⟨_, _, .cell (some (.ref d)), _⟩ => decide (d = D)
  | _ => false
/-- Faulty.__init__: its defaults at 980, a tuple of one; its code record names the main file -/
def fauB (K : PySem.W.Frag) : Bool := match K.lookup 989, K.lookup 981 with
  | some ⟨_, _, .func fd, _⟩, some ⟨_, _, .seq its _, _⟩ => decide (fd.defaults = .ref 981) && decide (its.size = 1) && (match fd.code with
    | .ref c => (match K.lookup c with
      | some ⟨_, _, .fields vs, _⟩ => (match (vs[2]? : Option Value) with
        | some (.str f _) => (PySem.Challenge.pw_carryprobe_k34_whole_judged_by_all_rows.main.file : Str) == f
        | _ => false)
      | _ => false)
    | _ => false)
  | _, _ => false
def top (i : Nat) : Stmt := PySem.Challenge.pw_carryprobe_k34_whole_judged_by_all_rows.main.body.getD i (.Pass ⟨0, 0, 0, 0⟩)
abbrev s_is_between : Stmt := top 19
def x_is_between : FX := ⟨282, "is_between", "is_between", s_is_between, [], [], []⟩
abbrev s_is_row : Stmt := top 20
def x_is_row : FX := ⟨289, "is_row", "is_row", s_is_row, [], [], []⟩
abbrev s_is_sequence : Stmt := top 21
def x_is_sequence : FX := ⟨296, "is_sequence", "is_sequence", s_is_sequence, [], [], []⟩
abbrev s_has_states : Stmt := top 27
def x_has_states : FX := ⟨302, "has_states", "has_states", s_has_states, [], [], []⟩
abbrev s_is_trial : Stmt := top 28
def x_is_trial : FX := ⟨309, "is_trial", "is_trial", s_is_trial, [], [], []⟩
abbrev s_is_ring_trial : Stmt := top 29
def x_is_ring_trial : FX := ⟨316, "is_ring_trial", "is_ring_trial", s_is_ring_trial, [], [], []⟩
abbrev s_state_at : Stmt := top 30
def x_state_at : FX := ⟨323, "state_at", "state_at", s_state_at, [], [], []⟩
abbrev s_trial_with : Stmt := top 31
def x_trial_with : FX := ⟨329, "trial_with", "trial_with", s_trial_with, [], [("zero", .str "K")], []⟩
abbrev s_carry_of : Stmt := top 32
def x_carry_of : FX := ⟨336, "carry_of", "carry_of", s_carry_of, [], [], []⟩
abbrev s_is_state : Stmt := top 33
def x_is_state : FX := ⟨343, "is_state", "is_state", s_is_state, [], [], []⟩
abbrev s_first_state : Stmt := top 42
def x_first_state : FX := ⟨400, "first_state", "first_state", s_first_state, [], [], []⟩
abbrev s_due_positions : Stmt := top 43
def x_due_positions : FX := ⟨407, "due_positions", "due_positions", s_due_positions, [], [], []⟩
abbrev s_output_positions : Stmt := top 44
def x_output_positions : FX := ⟨414, "output_positions", "output_positions", s_output_positions, [], [], []⟩
abbrev s_true_carry : Stmt := top 45
def x_true_carry : FX := ⟨421, "true_carry", "true_carry", s_true_carry, [], [], []⟩
abbrev s_zero_state : Stmt := top 47
def x_zero_state : FX := ⟨428, "zero_state", "zero_state", s_zero_state, [], [], []⟩
abbrev s_outputs_asked : Stmt := top 50
def x_outputs_asked : FX := ⟨435, "outputs_asked", "outputs_asked", s_outputs_asked, [], [], []⟩
abbrev s_options_at : Stmt := top 51
def x_options_at : FX := ⟨440, "options_at", "options_at", s_options_at, [], [], []⟩
abbrev s_options_of : Stmt := top 52
def x_options_of : FX := ⟨445, "options_of", "options_of", s_options_of, [], [], []⟩
abbrev s_leading_passes : Stmt := top 53
def x_leading_passes : FX := ⟨452, "leading_passes", "leading_passes", s_leading_passes, [], [], []⟩
abbrev s_is_refuted : Stmt := top 54
def x_is_refuted : FX := ⟨459, "is_refuted", "is_refuted", s_is_refuted, [], [], []⟩
abbrev s_refuters : Stmt := top 55
def x_refuters : FX := ⟨464, "refuters", "refuters", s_refuters, [], [], []⟩
abbrev s_row_with : Stmt := top 56
def x_row_with : FX := ⟨469, "row_with", "row_with", s_row_with, [], [], []⟩
abbrev s_parting_trial : Stmt := top 57
def x_parting_trial : FX := ⟨476, "parting_trial", "parting_trial", s_parting_trial, [], [], []⟩
abbrev s_least_bit : Stmt := top 61
def x_least_bit : FX := ⟨483, "least_bit", "least_bit", s_least_bit, [], [], []⟩
abbrev s_open_option : Stmt := top 62
def x_open_option : FX := ⟨490, "open_option", "open_option", s_open_option, [], [], []⟩
abbrev s_shortage : Stmt := top 63
def x_shortage : FX := ⟨497, "shortage", "shortage", s_shortage, [], [], []⟩
abbrev s_judge : Stmt := top 64
def x_judge : FX := ⟨503, "judge", "judge", s_judge, [], [("outputs", .non), ("ring", .bl false), ("stuck", .bl false)], []⟩
abbrev s_is_enough : Stmt := top 65
def x_is_enough : FX := ⟨511, "is_enough", "is_enough", s_is_enough, [], [("outputs", .non), ("ring", .bl false), ("stuck", .bl false)], []⟩
abbrev s_settled : Stmt := top 66
def x_settled : FX := ⟨519, "settled", "settled", s_settled, [], [("ring", .bl false), ("stuck", .bl false)], []⟩
abbrev s_first_ones : Stmt := top 68
def x_first_ones : FX := ⟨526, "first_ones", "first_ones", s_first_ones, [], [], []⟩
abbrev s_is_cell : Stmt := top 71
def x_is_cell : FX := ⟨616, "is_cell", "is_cell", s_is_cell, [], [], []⟩
abbrev s_checked_cells : Stmt := top 72
def x_checked_cells : FX := ⟨623, "checked_cells", "checked_cells", s_checked_cells, [], [], []⟩
abbrev s_checked_outputs : Stmt := top 73
def x_checked_outputs : FX := ⟨630, "checked_outputs", "checked_outputs", s_checked_outputs, [], [], []⟩
abbrev s_node_orders : Stmt := top 74
def x_node_orders : FX := ⟨635, "node_orders", "node_orders", s_node_orders, [], [], []⟩
abbrev s_node_states : Stmt := top 75
def x_node_states : FX := ⟨640, "node_states", "node_states", s_node_states, [], [], []⟩
abbrev s_serial_wiring : Stmt := top 95
def x_serial_wiring : FX := ⟨717, "serial_wiring", "serial_wiring", s_serial_wiring, [], [], []⟩
abbrev s_ring_serial_wiring : Stmt := top 96
def x_ring_serial_wiring : FX := ⟨724, "ring_serial_wiring", "ring_serial_wiring", s_ring_serial_wiring, [], [], []⟩
abbrev s_wrong_positions : Stmt := top 98
def x_wrong_positions : FX := ⟨731, "wrong_positions", "wrong_positions", s_wrong_positions, [], [], []⟩
abbrev s_checked_stuck : Stmt := top 101
def x_checked_stuck : FX := ⟨959, "checked_stuck", "checked_stuck", s_checked_stuck, [], [], []⟩
abbrev s_joined_rows : Stmt := top 102
def x_joined_rows : FX := ⟨966, "joined_rows", "joined_rows", s_joined_rows, [], [], []⟩
abbrev s_node_rows : Stmt := top 103
def x_node_rows : FX := ⟨971, "node_rows", "node_rows", s_node_rows, [], [], []⟩
abbrev s_ends_with_letter : Stmt := top 108
def x_ends_with_letter : FX := ⟨1180, "ends_with_letter", "ends_with_letter", s_ends_with_letter, [], [], []⟩
abbrev s_are_row_positions : Stmt := top 109
def x_are_row_positions : FX := ⟨1185, "are_row_positions", "are_row_positions", s_are_row_positions, [], [], []⟩
abbrev s_need_row : Stmt := top 110
def x_need_row : FX := ⟨1192, "need_row", "need_row", s_need_row, [], [], []⟩
abbrev s_chained : Stmt := top 111
def x_chained : FX := ⟨1199, "chained", "chained", s_chained, [], [], []⟩
abbrev s_network_with : Stmt := top 112
def x_network_with : FX := ⟨1207, "network_with", "network_with", s_network_with, [], [("ring", .bl false)], []⟩
abbrev s_holds_index : Stmt := top 114
def x_holds_index : FX := ⟨1214, "holds_index", "holds_index", s_holds_index, [], [], []⟩
abbrev s_holds_table : Stmt := top 115
def x_holds_table : FX := ⟨1221, "holds_table", "holds_table", s_holds_table, [], [], []⟩
abbrev s_is_letter : Stmt := top 116
def x_is_letter : FX := ⟨1228, "is_letter", "is_letter", s_is_letter, [], [], []⟩
abbrev s_is_row_of : Stmt := top 117
def x_is_row_of : FX := ⟨1233, "is_row_of", "is_row_of", s_is_row_of, [], [], []⟩
abbrev s_row_carry : Stmt := top 118
def x_row_carry : FX := ⟨1240, "row_carry", "row_carry", s_row_carry, [], [], []⟩
abbrev s_holds_short : Stmt := top 119
def x_holds_short : FX := ⟨1245, "holds_short", "holds_short", s_holds_short, [], [], []⟩
abbrev s_check_judgement : Stmt := top 120
def x_check_judgement : FX := ⟨1251, "check_judgement", "check_judgement", s_check_judgement, [], [("outputs", .non), ("ring", .bl false), ("stuck", .bl false)], []⟩
abbrev s__law_pen : Stmt := top 122
def x__law_pen : FX := ⟨1258, "_law_pen", "_law_pen", s__law_pen, [], [], []⟩
abbrev s__law_draw : Stmt := top 123
def x__law_draw : FX := ⟨1265, "_law_draw", "_law_draw", s__law_draw, [], [], []⟩
abbrev s__law_due : Stmt := top 124
def x__law_due : FX := ⟨1270, "_law_due", "_law_due", s__law_due, [], [], []⟩
abbrev s__law_sign : Stmt := top 125
def x__law_sign : FX := ⟨1277, "_law_sign", "_law_sign", s__law_sign, [], [], []⟩
abbrev s__law_seen : Stmt := top 126
def x__law_seen : FX := ⟨1284, "_law_seen", "_law_seen", s__law_seen, [], [], []⟩
abbrev s__law_ends : Stmt := top 127
def x__law_ends : FX := ⟨1291, "_law_ends", "_law_ends", s__law_ends, [], [], []⟩
abbrev s__law_put : Stmt := top 128
def x__law_put : FX := ⟨1298, "_law_put", "_law_put", s__law_put, [], [], []⟩
abbrev s__law_standard : Stmt := top 129
def x__law_standard : FX := ⟨1305, "_law_standard", "_law_standard", s__law_standard, [], [], []⟩
abbrev s__law_trial : Stmt := top 130
def x__law_trial : FX := ⟨1310, "_law_trial", "_law_trial", s__law_trial, [], [], []⟩
abbrev s__law_mode : Stmt := top 131
def x__law_mode : FX := ⟨1317, "_law_mode", "_law_mode", s__law_mode, [], [], []⟩
abbrev s__law_filled : Stmt := top 132
def x__law_filled : FX := ⟨1324, "_law_filled", "_law_filled", s__law_filled, [], [], []⟩
abbrev s__law_judge : Stmt := top 133
def x__law_judge : FX := ⟨1331, "_law_judge", "_law_judge", s__law_judge, [], [], []⟩
abbrev s__law_is_enough : Stmt := top 134
def x__law_is_enough : FX := ⟨1338, "_law_is_enough", "_law_is_enough", s__law_is_enough, [], [], []⟩
abbrev s__law_settled : Stmt := top 135
def x__law_settled : FX := ⟨1345, "_law_settled", "_law_settled", s__law_settled, [], [], []⟩
abbrev s__law_all_rows : Stmt := top 136
def x__law_all_rows : FX := ⟨1350, "_law_all_rows", "_law_all_rows", s__law_all_rows, [], [], []⟩
abbrev s__law_all_trials : Stmt := top 137
def x__law_all_trials : FX := ⟨1355, "_law_all_trials", "_law_all_trials", s__law_all_trials, [], [], []⟩
abbrev s__law_wrong_ones : Stmt := top 138
def x__law_wrong_ones : FX := ⟨1360, "_law_wrong_ones", "_law_wrong_ones", s__law_wrong_ones, [], [], []⟩
abbrev s__law_net_right : Stmt := top 139
def x__law_net_right : FX := ⟨1367, "_law_net_right", "_law_net_right", s__law_net_right, [], [], []⟩
abbrev s__law_right : Stmt := top 140
def x__law_right : FX := ⟨1372, "_law_right", "_law_right", s__law_right, [], [], []⟩
abbrev s_law : Stmt := top 141
def x_law : FX := ⟨1379, "law", "law", s_law, [], [], []⟩
abbrev s_Order_init : Stmt := inClass (top 69) 1
def x_Order_init : FX := ⟨540, "__init__", "Order.__init__", s_Order_init, [], [], []⟩
abbrev s_Order_positions : Stmt := inClass (top 69) 2
def x_Order_positions : FX := ⟨547, "positions", "Order.positions", s_Order_positions, [], [], []⟩
abbrev s_Order_add : Stmt := inClass (top 69) 9
def x_Order_add : FX := ⟨595, "__add__", "Order.__add__", s_Order_add, [], [], []⟩
abbrev s_Network_init : Stmt := inClass (top 99) 5
def x_Network_init : FX := ⟨745, "__init__", "Network.__init__", s_Network_init, [], [], []⟩
abbrev s_Network_orders : Stmt := inClass (top 99) 11
def x_Network_orders : FX := ⟨790, "orders", "Network.orders", s_Network_orders, [], [], []⟩
abbrev s_Network_wrong_outputs : Stmt := inClass (top 99) 13
def x_Network_wrong_outputs : FX := ⟨806, "wrong_outputs", "Network.wrong_outputs", s_Network_wrong_outputs, [], [], []⟩
abbrev s_Network_is_right : Stmt := inClass (top 99) 14
def x_Network_is_right : FX := ⟨814, "is_right", "Network.is_right", s_Network_is_right, [], [], []⟩
abbrev s_Network_need_trial : Stmt := inClass (top 99) 16
def x_Network_need_trial : FX := ⟨829, "need_trial", "Network.need_trial", s_Network_need_trial, [], [], []⟩
abbrev s_Network_held_states : Stmt := inClass (top 99) 19
def x_Network_held_states : FX := ⟨850, "held_states", "Network.held_states", s_Network_held_states, [], [], []⟩
abbrev s_Network_carries : Stmt := inClass (top 99) 21
def x_Network_carries : FX := ⟨862, "carries", "Network.carries", s_Network_carries, [], [], []⟩
abbrev s_Faulty_init : Stmt := inClass (top 104) 1
def x_Faulty_init : FX := ⟨989, "__init__", "Faulty.__init__", s_Faulty_init, [.ref 980], [], [("__class__", 975)]⟩
abbrev s_Faulty_rows : Stmt := inClass (top 104) 3
def x_Faulty_rows : FX := ⟨1002, "rows", "Faulty.rows", s_Faulty_rows, [], [], []⟩
abbrev s_Faulty_wrong_outputs : Stmt := inClass (top 104) 4
def x_Faulty_wrong_outputs : FX := ⟨1010, "wrong_outputs", "Faulty.wrong_outputs", s_Faulty_wrong_outputs, [], [], []⟩
abbrev s_Faulty_is_right : Stmt := inClass (top 104) 5
def x_Faulty_is_right : FX := ⟨1018, "is_right", "Faulty.is_right", s_Faulty_is_right, [], [], []⟩
abbrev s_Ring_wrong_outputs : Stmt := inClass (top 106) 3
def x_Ring_wrong_outputs : FX := ⟨1099, "wrong_outputs", "Ring.wrong_outputs", s_Ring_wrong_outputs, [], [], []⟩
abbrev s_Ring_need_trial : Stmt := inClass (top 106) 4
def x_Ring_need_trial : FX := ⟨1107, "need_trial", "Ring.need_trial", s_Ring_need_trial, [], [], []⟩
def fx0 : List FX := [x_is_between, x_is_row, x_is_sequence, x_has_states, x_is_trial, x_is_ring_trial, x_state_at, x_trial_with, x_carry_of, x_is_state, x_first_state, x_due_positions, x_output_positions, x_true_carry, x_zero_state, x_outputs_asked, x_options_at, x_options_of, x_leading_passes, x_is_refuted, x_refuters, x_row_with, x_parting_trial, x_least_bit, x_open_option, x_shortage, x_judge, x_is_enough, x_settled, x_first_ones]
def fx1 : List FX := [x_is_cell, x_checked_cells, x_checked_outputs, x_node_orders, x_node_states, x_serial_wiring, x_ring_serial_wiring, x_wrong_positions, x_checked_stuck, x_joined_rows, x_node_rows, x_ends_with_letter, x_are_row_positions, x_need_row, x_chained, x_network_with, x_holds_index, x_holds_table, x_is_letter, x_is_row_of, x_row_carry, x_holds_short, x_check_judgement, x__law_pen, x__law_draw, x__law_due, x__law_sign, x__law_seen, x__law_ends, x__law_put]
def fx2 : List FX := [x__law_standard, x__law_trial, x__law_mode, x__law_filled, x__law_judge, x__law_is_enough, x__law_settled, x__law_all_rows, x__law_all_trials, x__law_wrong_ones, x__law_net_right, x__law_right, x_law, x_Order_init, x_Order_positions, x_Order_add, x_Network_init, x_Network_orders, x_Network_wrong_outputs, x_Network_is_right, x_Network_need_trial, x_Network_held_states, x_Network_carries, x_Faulty_init, x_Faulty_rows, x_Faulty_wrong_outputs, x_Faulty_is_right, x_Ring_wrong_outputs, x_Ring_need_trial]
def fxs : List FX := fx0 ++ fx1 ++ fx2
def fa0 : List (PySem.W.Frag → Bool) := [fun K => He.eqO (PySem.W.nsIn K mainGlobals "is_between") (some (some (.ref 282))),
  fun K => He.eqO (PySem.W.nsIn K mainGlobals "is_row") (some (some (.ref 289))),
  fun K => He.eqO (PySem.W.nsIn K mainGlobals "is_sequence") (some (some (.ref 296))),
  fun K => He.eqO (PySem.W.nsIn K mainGlobals "has_states") (some (some (.ref 302))),
  fun K => He.eqO (PySem.W.nsIn K mainGlobals "is_trial") (some (some (.ref 309))),
  fun K => He.eqO (PySem.W.nsIn K mainGlobals "is_ring_trial") (some (some (.ref 316))),
  fun K => He.eqO (PySem.W.nsIn K mainGlobals "state_at") (some (some (.ref 323))),
  fun K => He.eqO (PySem.W.nsIn K mainGlobals "trial_with") (some (some (.ref 329))),
  fun K => He.eqO (PySem.W.nsIn K mainGlobals "carry_of") (some (some (.ref 336))),
  fun K => He.eqO (PySem.W.nsIn K mainGlobals "is_state") (some (some (.ref 343))),
  fun K => He.eqO (PySem.W.nsIn K mainGlobals "first_state") (some (some (.ref 400))),
  fun K => He.eqO (PySem.W.nsIn K mainGlobals "due_positions") (some (some (.ref 407))),
  fun K => He.eqO (PySem.W.nsIn K mainGlobals "output_positions") (some (some (.ref 414))),
  fun K => He.eqO (PySem.W.nsIn K mainGlobals "true_carry") (some (some (.ref 421))),
  fun K => He.eqO (PySem.W.nsIn K mainGlobals "zero_state") (some (some (.ref 428))),
  fun K => He.eqO (PySem.W.nsIn K mainGlobals "outputs_asked") (some (some (.ref 435))),
  fun K => He.eqO (PySem.W.nsIn K mainGlobals "options_at") (some (some (.ref 440))),
  fun K => He.eqO (PySem.W.nsIn K mainGlobals "options_of") (some (some (.ref 445))),
  fun K => He.eqO (PySem.W.nsIn K mainGlobals "leading_passes") (some (some (.ref 452))),
  fun K => He.eqO (PySem.W.nsIn K mainGlobals "is_refuted") (some (some (.ref 459))),
  fun K => He.eqO (PySem.W.nsIn K mainGlobals "refuters") (some (some (.ref 464))),
  fun K => He.eqO (PySem.W.nsIn K mainGlobals "row_with") (some (some (.ref 469))),
  fun K => He.eqO (PySem.W.nsIn K mainGlobals "parting_trial") (some (some (.ref 476))),
  fun K => He.eqO (PySem.W.nsIn K mainGlobals "least_bit") (some (some (.ref 483))),
  fun K => He.eqO (PySem.W.nsIn K mainGlobals "open_option") (some (some (.ref 490)))]
def fa1 : List (PySem.W.Frag → Bool) := [fun K => He.eqO (PySem.W.nsIn K mainGlobals "shortage") (some (some (.ref 497))),
  fun K => He.eqO (PySem.W.nsIn K mainGlobals "judge") (some (some (.ref 503))),
  fun K => He.eqO (PySem.W.nsIn K mainGlobals "is_enough") (some (some (.ref 511))),
  fun K => He.eqO (PySem.W.nsIn K mainGlobals "settled") (some (some (.ref 519))),
  fun K => He.eqO (PySem.W.nsIn K mainGlobals "first_ones") (some (some (.ref 526))),
  fun K => He.eqO (PySem.W.nsIn K mainGlobals "is_cell") (some (some (.ref 616))),
  fun K => He.eqO (PySem.W.nsIn K mainGlobals "checked_cells") (some (some (.ref 623))),
  fun K => He.eqO (PySem.W.nsIn K mainGlobals "checked_outputs") (some (some (.ref 630))),
  fun K => He.eqO (PySem.W.nsIn K mainGlobals "node_orders") (some (some (.ref 635))),
  fun K => He.eqO (PySem.W.nsIn K mainGlobals "node_states") (some (some (.ref 640))),
  fun K => He.eqO (PySem.W.nsIn K mainGlobals "serial_wiring") (some (some (.ref 717))),
  fun K => He.eqO (PySem.W.nsIn K mainGlobals "ring_serial_wiring") (some (some (.ref 724))),
  fun K => He.eqO (PySem.W.nsIn K mainGlobals "wrong_positions") (some (some (.ref 731))),
  fun K => He.eqO (PySem.W.nsIn K mainGlobals "checked_stuck") (some (some (.ref 959))),
  fun K => He.eqO (PySem.W.nsIn K mainGlobals "joined_rows") (some (some (.ref 966))),
  fun K => He.eqO (PySem.W.nsIn K mainGlobals "node_rows") (some (some (.ref 971))),
  fun K => He.eqO (PySem.W.nsIn K mainGlobals "ends_with_letter") (some (some (.ref 1180))),
  fun K => He.eqO (PySem.W.nsIn K mainGlobals "are_row_positions") (some (some (.ref 1185))),
  fun K => He.eqO (PySem.W.nsIn K mainGlobals "need_row") (some (some (.ref 1192))),
  fun K => He.eqO (PySem.W.nsIn K mainGlobals "chained") (some (some (.ref 1199))),
  fun K => He.eqO (PySem.W.nsIn K mainGlobals "network_with") (some (some (.ref 1207))),
  fun K => He.eqO (PySem.W.nsIn K mainGlobals "holds_index") (some (some (.ref 1214))),
  fun K => He.eqO (PySem.W.nsIn K mainGlobals "holds_table") (some (some (.ref 1221))),
  fun K => He.eqO (PySem.W.nsIn K mainGlobals "is_letter") (some (some (.ref 1228))),
  fun K => He.eqO (PySem.W.nsIn K mainGlobals "is_row_of") (some (some (.ref 1233)))]
def fa2 : List (PySem.W.Frag → Bool) := [fun K => He.eqO (PySem.W.nsIn K mainGlobals "row_carry") (some (some (.ref 1240))),
  fun K => He.eqO (PySem.W.nsIn K mainGlobals "holds_short") (some (some (.ref 1245))),
  fun K => He.eqO (PySem.W.nsIn K mainGlobals "check_judgement") (some (some (.ref 1251))),
  fun K => He.eqO (PySem.W.nsIn K mainGlobals "_law_pen") (some (some (.ref 1258))),
  fun K => He.eqO (PySem.W.nsIn K mainGlobals "_law_draw") (some (some (.ref 1265))),
  fun K => He.eqO (PySem.W.nsIn K mainGlobals "_law_due") (some (some (.ref 1270))),
  fun K => He.eqO (PySem.W.nsIn K mainGlobals "_law_sign") (some (some (.ref 1277))),
  fun K => He.eqO (PySem.W.nsIn K mainGlobals "_law_seen") (some (some (.ref 1284))),
  fun K => He.eqO (PySem.W.nsIn K mainGlobals "_law_ends") (some (some (.ref 1291))),
  fun K => He.eqO (PySem.W.nsIn K mainGlobals "_law_put") (some (some (.ref 1298))),
  fun K => He.eqO (PySem.W.nsIn K mainGlobals "_law_standard") (some (some (.ref 1305))),
  fun K => He.eqO (PySem.W.nsIn K mainGlobals "_law_trial") (some (some (.ref 1310))),
  fun K => He.eqO (PySem.W.nsIn K mainGlobals "_law_mode") (some (some (.ref 1317))),
  fun K => He.eqO (PySem.W.nsIn K mainGlobals "_law_filled") (some (some (.ref 1324))),
  fun K => He.eqO (PySem.W.nsIn K mainGlobals "_law_judge") (some (some (.ref 1331))),
  fun K => He.eqO (PySem.W.nsIn K mainGlobals "_law_is_enough") (some (some (.ref 1338))),
  fun K => He.eqO (PySem.W.nsIn K mainGlobals "_law_settled") (some (some (.ref 1345))),
  fun K => He.eqO (PySem.W.nsIn K mainGlobals "_law_all_rows") (some (some (.ref 1350))),
  fun K => He.eqO (PySem.W.nsIn K mainGlobals "_law_all_trials") (some (some (.ref 1355))),
  fun K => He.eqO (PySem.W.nsIn K mainGlobals "_law_wrong_ones") (some (some (.ref 1360))),
  fun K => He.eqO (PySem.W.nsIn K mainGlobals "_law_net_right") (some (some (.ref 1367))),
  fun K => He.eqO (PySem.W.nsIn K mainGlobals "_law_right") (some (some (.ref 1372))),
  fun K => He.eqO (PySem.W.nsIn K mainGlobals "law") (some (some (.ref 1379))),
  fun K => He.eqO (PySem.W.nsIn K mainGlobals "Order") (some (some (.ref 605))),
  fun K => He.eqO (PySem.W.nsIn K mainGlobals "Network") (some (some (.ref 948)))]
def fa3 : List (PySem.W.Frag → Bool) := [fun K => He.eqO (PySem.W.nsIn K mainGlobals "Faulty") (some (some (.ref 1083))),
  fun K => He.eqO (PySem.W.nsIn K mainGlobals "Ring") (some (some (.ref 1171))),
  fun K => He.eqO (PySem.W.nsIn K mainGlobals "STATES") (some (some (.ref 297))),
  fun K => He.eqO (PySem.W.nsIn K mainGlobals "len") (some none),
  fun K => He.eqO (PySem.W.nsIn K mainGlobals "int") (some none),
  fun K => He.eqO (PySem.W.nsIn K mainGlobals "isinstance") (some none),
  fun K => He.eqO (PySem.W.nsIn K mainGlobals "tuple") (some none),
  fun K => He.eqO (PySem.W.nsIn K mainGlobals "list") (some none),
  fun K => He.eqO (PySem.W.nsIn K mainGlobals "range") (some none),
  fun K => He.eqO (PySem.W.nsIn K mainGlobals "enumerate") (some none),
  fun K => He.eqO (PySem.W.nsIn K mainGlobals "zip") (some none),
  fun K => He.eqO (PySem.W.nsIn K mainGlobals "sum") (some none),
  fun K => He.eqO (PySem.W.nsIn K mainGlobals "all") (some none),
  fun K => He.eqO (PySem.W.nsIn K mainGlobals "abs") (some none),
  fun K => He.eqO (PySem.W.nsIn K mainGlobals "repr") (some none),
  fun K => He.eqO (PySem.W.nsIn K mainGlobals "set") (some none),
  fun K => He.eqO (PySem.W.nsIn K mainGlobals "dict") (some none),
  fun K => He.eqO (PySem.W.nsIn K mainGlobals "str") (some none),
  fun K => He.eqO (PySem.W.nsIn K mainGlobals "bool") (some none),
  fun K => He.eqO (PySem.W.nsIn K mainGlobals "super") (some none),
  fun K => isStrV (PySem.W.nsIn K mainGlobals "GENERATE") "G",
  fun K => isStrV (PySem.W.nsIn K mainGlobals "KILL") "K",
  fun K => isStrV (PySem.W.nsIn K mainGlobals "PASS") "P",
  fun K => isStrV (PySem.W.nsIn K mainGlobals "END") "end",
  fun K => isStrV (PySem.W.nsIn K mainGlobals "ENOUGH") "enough"]
def fa4 : List (PySem.W.Frag → Bool) := [fun K => isStrV (PySem.W.nsIn K mainGlobals "SHORT") "short",
  fun K => isIntV (PySem.W.nsIn K mainGlobals "MOST_BITS") 24,
  fun K => isIntV (PySem.W.nsIn K mainGlobals "MOST_CELLS") 150,
  fun K => tupV K 297 [.str "G", .str "K", .str "P"],
  fun K => clsB K 605,
  fun K => mkB K 605 540,
  fun K => He.eqO (PySem.W.findIn K (.ref 605) "entries") (some none),
  fun K => conV K 605 "GREATEST" 24,
  fun K => methB K 605 "__add__" 595,
  fun K => propB K 605 "positions" 548 547,
  fun K => clsB K 948,
  fun K => mkB K 948 745,
  fun K => He.eqO (PySem.W.findIn K (.ref 948) "bits") (some none),
  fun K => He.eqO (PySem.W.findIn K (.ref 948) "joins") (some none),
  fun K => He.eqO (PySem.W.findIn K (.ref 948) "ends") (some none),
  fun K => He.eqO (PySem.W.findIn K (.ref 948) "held") (some none),
  fun K => conV K 948 "LEAST_BITS" 1,
  fun K => conV K 948 "MOST_BITS" 24,
  fun K => conV K 948 "LOWEST" 0,
  fun K => methB K 948 "need_trial" 829,
  fun K => methB K 948 "held_states" 850,
  fun K => methB K 948 "carries" 862,
  fun K => propB K 948 "orders" 791 790,
  fun K => propB K 948 "wrong_outputs" 807 806,
  fun K => propB K 948 "is_right" 815 814]
def fa5 : List (PySem.W.Frag → Bool) := [fun K => clsB K 1083,
  fun K => mkB K 1083 989,
  fun K => He.eqO (PySem.W.findIn K (.ref 1083) "bits") (some none),
  fun K => He.eqO (PySem.W.findIn K (.ref 1083) "joins") (some none),
  fun K => He.eqO (PySem.W.findIn K (.ref 1083) "ends") (some none),
  fun K => He.eqO (PySem.W.findIn K (.ref 1083) "held") (some none),
  fun K => conV K 1083 "LEAST_BITS" 1,
  fun K => conV K 1083 "MOST_BITS" 24,
  fun K => conV K 1083 "LOWEST" 0,
  fun K => methB K 1083 "need_trial" 829,
  fun K => methB K 1083 "held_states" 850,
  fun K => methB K 1083 "carries" 862,
  fun K => propB K 1083 "rows" 1003 1002,
  fun K => propB K 1083 "wrong_outputs" 1011 1010,
  fun K => propB K 1083 "is_right" 1019 1018,
  fun K => clsB K 1171,
  fun K => mkB K 1171 745,
  fun K => He.eqO (PySem.W.findIn K (.ref 1171) "bits") (some none),
  fun K => He.eqO (PySem.W.findIn K (.ref 1171) "joins") (some none),
  fun K => He.eqO (PySem.W.findIn K (.ref 1171) "ends") (some none),
  fun K => He.eqO (PySem.W.findIn K (.ref 1171) "held") (some none),
  fun K => conV K 1171 "LEAST_BITS" 2,
  fun K => conV K 1171 "MOST_BITS" 24,
  fun K => conV K 1171 "LOWEST" 1,
  fun K => methB K 1171 "need_trial" 1107]
def fa6 : List (PySem.W.Frag → Bool) := [fun K => methB K 1171 "held_states" 850,
  fun K => methB K 1171 "carries" 862,
  fun K => propB K 1171 "orders" 791 790,
  fun K => propB K 1171 "wrong_outputs" 1100 1099,
  fun K => propB K 1171 "is_right" 815 814,
  fun K => PySem.W.selfFirst K 605,
  fun K => decide (PySem.W.mroIn K 1083 (.ref 1083) = some true),
  fun K => He.eqO (PySem.W.nsIn K cStatics "thirdparty.any") (some none),
  fun K => He.eqO (PySem.W.ks_superIn K 1083 1083 "__init__") (some (some (.ref 745))),
  fun K => decide (PySem.W.typeIn K (.ref 745) = some (.type "function")),
  fun K => PySem.W.fnIn K 745,
  fun K => (PySem.W.clsIn K 1083).isSome,
  fun K => cellB K 975 1083,
  fun K => fauB K]
def fasA : List (PySem.W.Frag → Bool) := fa0 ++ fa1 ++ fa2 ++ fa3 ++ fa4
def fasB : List (PySem.W.Frag → Bool) := fa5 ++ fa6
def fas : List (PySem.W.Frag → Bool) := fasA ++ fasB
def ads : List Addr := [2, 3, 281, 282, 288, 289, 295, 296, 297, 301, 302, 308, 309, 315, 316, 322, 323, 324, 328, 329, 335, 336, 342, 343, 399, 400, 406, 407, 413, 414, 420, 421, 427, 428, 434, 435, 439, 440, 444, 445, 451, 452, 458, 459, 463, 464, 468, 469, 475, 476, 482, 483, 489, 490, 496, 497, 498, 502, 503, 504, 510, 511, 512, 518, 519, 525, 526, 539, 540, 546, 547, 548, 594, 595, 604, 605, 615, 616, 622, 623, 629, 630, 634, 635, 639, 640, 716, 717, 723, 724, 730, 731, 744, 745, 789, 790, 791, 805, 806, 807, 813, 814, 815, 828, 829, 849, 850, 861, 862, 947, 948, 958, 959, 965, 966, 970, 971, 975, 980, 981, 988, 989, 1001, 1002, 1003, 1009, 1010, 1011, 1017, 1018, 1019, 1082, 1083, 1098, 1099, 1100, 1106, 1107, 1170, 1171, 1179, 1180, 1184, 1185, 1191, 1192, 1198, 1199, 1200, 1206, 1207, 1213, 1214, 1220, 1221, 1227, 1228, 1232, 1233, 1239, 1240, 1244, 1245, 1246, 1250, 1251, 1257, 1258, 1264, 1265, 1269, 1270, 1276, 1277, 1283, 1284, 1290, 1291, 1297, 1298, 1304, 1305, 1309, 1310, 1316, 1317, 1323, 1324, 1330, 1331, 1337, 1338, 1344, 1345, 1349, 1350, 1354, 1355, 1359, 1360, 1366, 1367, 1371, 1372, 1378, 1379]
def nm0 : List PySem.Str := ["_wall", "__name__", "ProbeError", "InvalidSize", "InvalidNumber", "InvalidTrial", "InvalidPosition", "InvalidCells", "InvalidOutputs", "InvalidStuck", "InvalidRow", "InvalidText", "AbsentError", "NoNode", "NoOutput", "NoPlace", "MOST_BITS", "MOST_CELLS", "is_between", "is_row", "is_sequence", "GENERATE", "KILL", "PASS", "STATES", "has_states", "is_trial", "is_ring_trial", "state_at", "trial_with"]
def nm1 : List PySem.Str := ["carry_of", "is_state", "worth_of", "need_numbers", "need_carry", "bit_at", "states_of", "trial_of", "ring_trial_of", "first_state", "due_positions", "output_positions", "true_carry", "zero_state", "END", "outputs_asked", "options_at", "options_of", "leading_passes", "is_refuted", "refuters", "row_with", "parting_trial", "ENOUGH", "SHORT", "least_bit", "open_option", "shortage", "judge", "is_enough"]
def nm2 : List PySem.Str := ["settled", "first_ones", "Order", "is_cell", "checked_cells", "checked_outputs", "node_orders", "node_states", "sum_of", "RING", "FAULTY", "OUTPUTS", "DIGITS", "MOST_DIGITS", "number_in", "lines_in", "head_in", "cell_in", "outputs_in", "network_parts", "ring_trials", "adder_trials", "trial_list", "standard_trials", "serial_wiring", "ring_serial_wiring", "wrong_positions", "Network", "checked_stuck", "joined_rows"]
def nm3 : List PySem.Str := ["node_rows", "Faulty", "Ring", "ends_with_letter", "are_row_positions", "need_row", "chained", "network_with", "holds_index", "holds_table", "is_letter", "is_row_of", "row_carry", "holds_short", "check_judgement", "_law_pen", "_law_draw", "_law_due", "_law_sign", "_law_seen", "_law_ends", "_law_put", "_law_standard", "_law_trial", "_law_mode", "_law_filled", "_law_judge", "_law_is_enough", "_law_settled", "_law_all_rows"]
def nm4 : List PySem.Str := ["_law_all_trials", "_law_wrong_ones", "_law_net_right", "_law_right"]
def nms : List PySem.Str := nm0 ++ nm1 ++ nm2 ++ nm3 ++ nm4
def obsX (K : PySem.W.Frag) : Bool × List He.FnW := ((fas.all fun f => f K) && fxs.all (fxB K), fxs.map fun d => fxW K d.ad)
def valX : Bool × List He.FnW := (true, fxs.map FX.val)
def SaysX (K : PySem.W.Frag) : Prop := obsX K = valX
def hk : PySem.W.Hook where
  α := Bool × List He.FnW
  obs := fun s => obsX (He.frG s.heap.get? ads)
  val := fun _ => valX
  says := fun _ h => ∃ K : PySem.W.Frag, K.In h ∧ SaysX K
  of := fun _ _ e => ⟨_, He.frG_in, e⟩
  keeps := fun _ _ _ ⟨K, hK, c⟩ k => ⟨K, PySem.W.Frag.In.keeps hK k, c⟩
def ob (s : PySem.W.SharedT) : Bool × List He.FnW := obsX (He.frG (HandSHeadRun.getT s) ads)
theorem ob_eq (s : PySem.W.SharedT) : ob s = hk.obs s.abs := by
  have e : HandSHeadRun.getT s = s.abs.heap.get? := funext (HandSHeadRun.getT_eq s)
  unfold ob
  rw [e]
  rfl
abbrev R : PySem.W.OpenRow := PySem.W.OpenLaw.row PySem.Challenge.rw_carryprobe_k34_whole_judged_by_all_rows
end CPK
/-! part CpHB -/
set_option Elab.async false
set_option linter.all false
set_option maxRecDepth 100000
set_option maxHeartbeats 0
namespace CPK
open PySem PySem.Spec PyProof.Rows L2
abbrev kOf (s : PySem.W.SharedT) : PySem.W.Frag := He.frG (HandSHeadRun.getT s) ads
theorem runc1 (w : World) (os : OsState) : (HandSHeadRun.endF (HandSHeadRun.stepQ (HandSHeadRun.denQ HandSHeadRun.tabQ) R.prog w) 14000 R.prog w os).map (fun s => (fun K => fasA.all fun f => f K) (kOf s)) = some true := by kernel_rfl
theorem runc2 (w : World) (os : OsState) : (HandSHeadRun.endF (HandSHeadRun.stepQ (HandSHeadRun.denQ HandSHeadRun.tabQ) R.prog w) 14000 R.prog w os).map (fun s => (fun K => (fasB.all fun f => f K) && fxs.all (fxB K)) (kOf s)) = some true := by kernel_rfl
theorem runa (w : World) (os : OsState) : (HandSHeadRun.endF (HandSHeadRun.stepQ (HandSHeadRun.denQ HandSHeadRun.tabQ) R.prog w) 14000 R.prog w os).map (fun s => HandSHeadRun.looksF R.prog (PySem.W.boot_heap w.params) s.abs) = some true := by kernel_rfl
theorem runb (w : World) (os : OsState) : (HandSHeadRun.endF (HandSHeadRun.stepQ (HandSHeadRun.denQ HandSHeadRun.tabQ) R.prog w) 14000 R.prog w os).map (fun s => (HandSHeadRun.seenQ (PySem.W.view R.prog [141]) nms (importedModules R.prog.main.body) (fun s => PySem.W.xlAt (PySem.W.view R.prog [141]) [] s && PySem.W.recOk R.toRowW.records s) s.abs, (fun K => fxs.map fun d => fxW K d.ad) (kOf s))) = some (PySem.W.openGood (PySem.W.view R.prog [141]) nms, fxs.map FX.val) := by kernel_rfl
theorem join4 {s a b : Type} {o : Option s} {k : s → PySem.W.Frag} {f : s → a} {g : s → b} {x : a} {y : b} (h1 : o.map (fun s => (fun K => fasA.all fun f => f K) (k s)) = some true) (h2 : o.map (fun s => (fun K => (fasB.all fun f => f K) && fxs.all (fxB K)) (k s)) = some true) (h3 : o.map f = some x) (h4 : o.map (fun s => (g s, (fun K => fxs.map fun d => fxW K d.ad) (k s))) = some (y, fxs.map FX.val)) : o.map (fun s => (f s, g s, obsX (k s))) = some (x, y, valX) := by
  cases o with
  | none => cases h3
  | some s =>
    have e1 := Option.some.inj h1
    have e2 := Option.some.inj h2
    have e3 := Option.some.inj h3
    have e4 := Option.some.inj h4
    have e5 := congrArg Prod.fst e4
    have e6 := congrArg Prod.snd e4
    have e7 : obsX (k s) = valX := by
      refine Prod.ext ?_ e6
      show ((fasA ++ fasB).all (fun f => f (k s)) && fxs.all (fxB (k s))) = true
      rw [List.all_append, Bool.and_assoc]
      exact Bool.and_eq_true_iff.mpr ⟨e1, e2⟩
    exact congrArg some (Prod.ext e3 (Prod.ext e5 e7))
theorem run (w : World) : HandSHeadRun.RunEq R (PySem.W.view R.prog [141]) hk ob 14000 nms w := fun os => join4 (k := kOf) (runc1 w os) (runc2 w os) (runa w os) (runb w os)
end CPK
/-! part CpA -/
set_option Elab.async false
set_option linter.all false
set_option maxRecDepth 100000
set_option maxHeartbeats 4000000
namespace CP
open PySem L2

/-- plain data -/
inductive D where
  | non | bool (b : Bool) | int (i : Int) | str (s : Str) | tup (xs : List D) | lst (xs : List D)
  | dct (ks : List Key) (xs : List D)
  | obj (c : Nat) (xs : List D)
  | tpf (xs : List D)
  | adr (a : Addr)

/-- the classes: where each stands, the names of its attributes in order -/
structure Wd where
  K : PySem.W.Frag
  ca : Nat → Addr
  fn : Nat → List Str

mutual
inductive Rep (W : Wd) (F : Hp) : V → D → Prop
  | non : Rep W F .non .non
  | bl (b : Bool) : Rep W F (.bl b) (.bool b)
  | int (i : Int) : Rep W F (.int i) (.int i)
  | str (x : Str) : Rep W F (.str x) (.str x)
  | tup {a : Addr} {xs : List V} {ds : List D} : SqT W.K F a xs → Reps W F xs ds → Rep W F (.ref a) (.tup ds)
  | lst {a : Addr} {xs : List V} {ds : List D} : F a = some (.lst xs) → Reps W F xs ds → Rep W F (.ref a) (.lst ds)
  | dct {a : Addr} {ks : List Key} {xs : List V} {ds : List D} : F a = some (.dK (ks.zip xs)) → ks.length = xs.length → Reps W F xs ds → Rep W F (.ref a) (.dct ks ds)
  | obj {a dx : Addr} {c : Nat} {xs : List V} {ds : List D} : F a = some (.ins (W.ca c) dx ((W.fn c).zip xs)) → (W.fn c).length = xs.length → Reps W F xs ds → Rep W F (.ref a) (.obj c ds)
  | tpf {a : Addr} {o : Obj} {xs : List V} {ds : List D} : F a = some (.frz o (.tup xs)) → o.cls = .type "tuple" → o.dict = none → Reps W F xs ds → Rep W F (.ref a) (.tpf ds)
  | adr (a : Addr) : Rep W F (.ref a) (.adr a)
inductive Reps (W : Wd) (F : Hp) : List V → List D → Prop
  | nil : Reps W F [] []
  | cons {v : V} {vs : List V} {d : D} {ds : List D} : Rep W F v d → Reps W F vs ds → Reps W F (v :: vs) (d :: ds)
end

def Ex (H H' : Hp) : Prop := ∀ a o, H a = some o → H' a = some o
theorem Ex.refl (H : Hp) : Ex H H := fun _ _ h => h
theorem Ex.trans {H H1 H2 : Hp} (a : Ex H H1) (b : Ex H1 H2) : Ex H H2 := fun x o h => b x o (a x o h)
theorem Ex.new {H : Hp} {p : Addr} {o : HO} (h : H p = none) : Ex H (upd H p o) := fun a u e => by
  rw [upd_ne (ne_of_none e h)]
  exact e
theorem Ex.back {H H' : Hp} {p : Addr} (e : Ex H H') (h : H' p = none) : H p = none := by
  cases q : H p with
  | none => rfl
  | some o =>
    have := e p o q
    rw [h] at this
    cases this
theorem ex_l {K : PySem.W.Frag} {H H' : Hp} {a : Addr} {xs : List V} (e : Ex H H') (h : SqL K H a xs) : SqL K H' a xs := by
  rcases h with (h | ⟨o, h⟩) | h
  · exact .inl (.inl (e _ _ h))
  · exact .inl (.inr ⟨o, e _ _ h⟩)
  · exact .inr h
theorem ex_t {K : PySem.W.Frag} {H H' : Hp} {a : Addr} {xs : List V} (e : Ex H H') (h : SqT K H a xs) : SqT K H' a xs := by
  rcases h with (h | ⟨o, h⟩) | h
  · exact .inl (.inl (e _ _ h))
  · exact .inl (.inr ⟨o, e _ _ h⟩)
  · exact .inr h

mutual
theorem Rep.mono {W : Wd} {F F' : Hp} (e : Ex F F') : ∀ {v : V} {d : D}, Rep W F v d → Rep W F' v d
  | _, _, .non => .non
  | _, _, .bl b => .bl b
  | _, _, .int i => .int i
  | _, _, .str x => .str x
  | _, _, .tup h r => .tup (ex_t e h) (Reps.mono e r)
  | _, _, .lst h r => .lst (e _ _ h) (Reps.mono e r)
  | _, _, .dct h l r => .dct (e _ _ h) l (Reps.mono e r)
  | _, _, .obj h l r => .obj (e _ _ h) l (Reps.mono e r)
  | _, _, .tpf h c n r => .tpf (e _ _ h) c n (Reps.mono e r)
  | _, _, .adr a => .adr a
theorem Reps.mono {W : Wd} {F F' : Hp} (e : Ex F F') : ∀ {vs : List V} {ds : List D}, Reps W F vs ds → Reps W F' vs ds
  | _, _, .nil => .nil
  | _, _, .cons h r => .cons (Rep.mono e h) (Reps.mono e r)
end
section
variable {W : Wd} {F F' : Hp}
theorem Reps.length : ∀ {vs : List V} {ds : List D}, Reps W F vs ds → vs.length = ds.length
  | _, _, .nil => rfl
  | _, _, .cons _ r => by rw [List.length_cons, List.length_cons, Reps.length r]
theorem Reps.append : ∀ {vs ws : List V} {ds es : List D}, Reps W F vs ds → Reps W F ws es → Reps W F (vs ++ ws) (ds ++ es)
  | _, _, _, _, .nil, s => s
  | _, _, _, _, .cons h r, s => .cons h (Reps.append r s)
theorem Reps.get : ∀ {vs : List V} {ds : List D} {i : Nat} {d : D}, Reps W F vs ds → ds[i]? = some d → ∃ v, vs[i]? = some v ∧ Rep W F v d
  | _, _, _, _, .nil, e => by simp at e
  | _, _, 0, _, .cons h _, e => by
    simp at e
    subst e
    exact ⟨_, rfl, h⟩
  | _, _, i + 1, _, .cons _ r, e => by
    obtain ⟨v, h1, h2⟩ := Reps.get (i := i) r (by simpa using e)
    exact ⟨v, by simpa using h1, h2⟩
theorem Reps.get' : ∀ {vs : List V} {ds : List D} {i : Nat} {v : V}, Reps W F vs ds → vs[i]? = some v → ∃ d, ds[i]? = some d ∧ Rep W F v d
  | _, _, _, _, .nil, e => by simp at e
  | _, _, 0, _, .cons h _, e => by
    simp at e
    subst e
    exact ⟨_, rfl, h⟩
  | _, _, i + 1, _, .cons _ r, e => by
    obtain ⟨v, h1, h2⟩ := Reps.get' (i := i) r (by simpa using e)
    exact ⟨v, by simpa using h1, h2⟩
theorem Reps.take : ∀ {vs : List V} {ds : List D} (n : Nat), Reps W F vs ds → Reps W F (vs.take n) (ds.take n)
  | _, _, 0, _ => .nil
  | _, _, _ + 1, .nil => .nil
  | _, _, n + 1, .cons h r => .cons h (Reps.take n r)
theorem Reps.drop : ∀ {vs : List V} {ds : List D} (n : Nat), Reps W F vs ds → Reps W F (vs.drop n) (ds.drop n)
  | _, _, 0, r => r
  | _, _, _ + 1, .nil => .nil
  | _, _, n + 1, .cons _ r => Reps.drop n r
theorem Reps.set {v : V} {d : D} (h : Rep W F v d) : ∀ {vs : List V} {ds : List D} (i : Nat), Reps W F vs ds → Reps W F (vs.set i v) (ds.set i d)
  | _, _, _, .nil => .nil
  | _, _, 0, .cons _ r => .cons h r
  | _, _, i + 1, .cons g r => .cons g (Reps.set h i r)
theorem Reps.reverse {vs : List V} {ds : List D} (h : Reps W F vs ds) : Reps W F vs.reverse ds.reverse := by
  induction vs generalizing ds with
  | nil => cases h; exact .nil
  | cons v vs ih =>
    cases h with
    | cons g r =>
      rw [List.reverse_cons, List.reverse_cons]
      exact Reps.append (ih r) (.cons g .nil)
end

/-- what may happen between: F, what is fixed, and H, what stands, grow; what stood unfixed stays unfixed -/
structure Ext (F H F' H' : Hp) : Prop where
  f : Ex F F'
  h : Ex H H'
  s : Ex F' H'
  u : ∀ a o, H a = some o → F a = none → F' a = none
theorem Ext.refl {F H : Hp} (e : Ex F H) : Ext F H F H := ⟨.refl F, .refl H, e, fun _ _ _ h => h⟩
theorem Ext.trans {F H F1 H1 F2 H2 : Hp} (a : Ext F H F1 H1) (b : Ext F1 H1 F2 H2) : Ext F H F2 H2 :=
  ⟨a.f.trans b.f, a.h.trans b.h, b.s, fun x o h n => b.u x o (a.h x o h) (a.u x o h n)⟩
/-- a new object, fixed -/
theorem Ext.new {F H : Hp} {p : Addr} {o : HO} (e : Ex F H) (h : H p = none) : Ext F H (upd F p o) (upd H p o) := by
  have hf := e.back h
  refine ⟨.new hf, .new h, fun a u q => ?_, fun a u q n => ?_⟩
  · by_cases ha : a = p
    · subst ha
      rw [upd_same] at q ⊢
      exact q
    · rw [upd_ne ha] at q ⊢
      exact e a u q
  · rw [upd_ne (ne_of_none q h)]
    exact n
/-- a new object, not fixed -/
theorem Ext.own {F H : Hp} {p : Addr} {o : HO} (e : Ex F H) (h : H p = none) : Ext F H F (upd H p o) :=
  ⟨.refl F, .new h, e.trans (.new h), fun _ _ _ n => n⟩

/-- a slot's word -/
inductive EV where
  | fr (d : D)
  | ow (ds : List D)
abbrev Env := List (Option EV)
structure EnvR (W : Wd) (H0 F H : Hp) (σ : St) (ρ : Env) : Prop where
  len : σ.length = ρ.length
  fr : ∀ (i : Nat) (d : D), ρ[i]? = some (some (.fr d)) → ∃ v, σ[i]? = some (some v) ∧ Rep W F v d
  ow : ∀ (i : Nat) (ds : List D), ρ[i]? = some (some (.ow ds)) → ∃ p xs, σ[i]? = some (some (.ref p)) ∧ H p = some (.lst xs) ∧ F p = none ∧ H0 p = none ∧ Reps W F xs ds
  ne : ∀ (i j : Nat) (ds es : List D) (p : Addr), ρ[i]? = some (some (.ow ds)) → ρ[j]? = some (some (.ow es)) → σ[i]? = some (some (.ref p)) → σ[j]? = some (some (.ref p)) → i = j
theorem EnvR.ext {W : Wd} {H0 F H F' H' : Hp} {σ : St} {ρ : Env} (r : EnvR W H0 F H σ ρ) (e : Ext F H F' H') : EnvR W H0 F' H' σ ρ :=
  ⟨r.len, fun i d q => let ⟨v, a, b⟩ := r.fr i d q; ⟨v, a, b.mono e.f⟩,
    fun i ds q => let ⟨p, xs, a, b, c, n, g⟩ := r.ow i ds q; ⟨p, xs, a, e.h _ _ b, e.u _ _ b c, n, g.mono e.f⟩, r.ne⟩

/-- an expression's meaning -/
abbrev ME := Env → Option D
def Sm (W : Wd) (t : TE) (m : ME) : Prop := ∀ (H0 F H : Hp) (σ : St) (ρ : Env) (d : D), Ex F H → EnvR W H0 F H σ ρ → m ρ = some d →
  ∀ Q : VK, (∀ v F' H', Ext F H F' H' → Rep W F' v d → Q v H') → t σ H Q
/-- .. that may be a list of one's own, to be read at once -/
inductive RepB (W : Wd) (F H : Hp) : V → D → Prop
  | fr {v : V} {d : D} : Rep W F v d → RepB W F H v d
  | ow {p : Addr} {xs : List V} {ds : List D} : H p = some (.lst xs) → Reps W F xs ds → RepB W F H (.ref p) (.lst ds)
def SmB (W : Wd) (t : TE) (m : ME) : Prop := ∀ (H0 F H : Hp) (σ : St) (ρ : Env) (d : D), Ex F H → EnvR W H0 F H σ ρ → m ρ = some d →
  ∀ Q : VK, (∀ v F' H', Ext F H F' H' → RepB W F' H' v d → Q v H') → t σ H Q
theorem Sm.b {W : Wd} {t : TE} {m : ME} (h : Sm W t m) : SmB W t m := fun H0 F H σ ρ d e r q Q k => h H0 F H σ ρ d e r q Q fun v F' H' x g => k v F' H' x (.fr g)
theorem RepB.ext {W : Wd} {F H F' H' : Hp} {v : V} {d : D} (r : RepB W F H v d) (e : Ext F H F' H') : RepB W F' H' v d := by
  cases r with
  | fr r => exact .fr (r.mono e.f)
  | ow h r => exact .ow (e.h _ _ h) (r.mono e.f)
theorem RepB.lst {W : Wd} {F H : Hp} {v : V} {ds : List D} (r : RepB W F H v (.lst ds)) (e : Ex F H) : ∃ a xs, v = .ref a ∧ H a = some (.lst xs) ∧ Reps W F xs ds := by
  cases r with
  | fr r =>
    cases r with
    | lst h r => exact ⟨_, _, rfl, e _ _ h, r⟩
  | ow h r => exact ⟨_, _, rfl, h, r⟩
theorem RepB.tup {W : Wd} {F H : Hp} {v : V} {ds : List D} (r : RepB W F H v (.tup ds)) (e : Ex F H) : ∃ a xs, v = .ref a ∧ SqT W.K H a xs ∧ Reps W F xs ds := by
  cases r with
  | fr r =>
    cases r with
    | tup h r => exact ⟨_, _, rfl, ex_t e h, r⟩
/-- a test's meaning -/
abbrev MT := Env → Option Bool
def SmT (W : Wd) (t : TT) (m : MT) : Prop := ∀ (H0 F H : Hp) (σ : St) (ρ : Env) (b : Bool), Ex F H → EnvR W H0 F H σ ρ → m ρ = some b →
  ∀ Q : Bool → Hp → Prop, (∀ F' H', Ext F H F' H' → Q b H') → t σ H Q
/-- arguments' -/
abbrev MA := Env → Option (List D)
def SmA (W : Wd) (t : TA) (m : MA) : Prop := ∀ (H0 F H : Hp) (σ : St) (ρ : Env) (ds : List D), Ex F H → EnvR W H0 F H σ ρ → m ρ = some ds →
  ∀ Q : List V → Hp → Prop, (∀ vs F' H', Ext F H F' H' → Reps W F' vs ds → Q vs H') → t σ H Q

/-! ### expressions -/
def getFr (ρ : Env) (i : Nat) : Option D := match ρ[i]? with
  | some (some (.fr d)) => some d
  | _ => none
def getOw (ρ : Env) (i : Nat) : Option D := match ρ[i]? with
  | some (some (.ow ds)) => some (.lst ds)
  | _ => none
def eVar (i : Nat) : ME := fun ρ => getFr ρ i
def eOwn (i : Nat) : ME := fun ρ => getOw ρ i
def eC (d : D) : ME := fun _ => some d
theorem getFr_eq {ρ : Env} {i : Nat} {d : D} (h : getFr ρ i = some d) : ρ[i]? = some (some (.fr d)) := by
  unfold getFr at h
  split at h
  · rename_i d' e
    cases h
    exact e
  · cases h
theorem getOw_eq {ρ : Env} {i : Nat} {d : D} (h : getOw ρ i = some d) : ∃ ds, d = .lst ds ∧ ρ[i]? = some (some (.ow ds)) := by
  unfold getOw at h
  split at h
  · rename_i d' e
    cases h
    exact ⟨_, rfl, e⟩
  · cases h
section
variable {W : Wd}
theorem sm_var {i : Nat} : Sm W (tVar i) (eVar i) := fun H0 F H σ ρ d e r q Q k => by
  obtain ⟨v, h1, h2⟩ := r.fr i d (getFr_eq q)
  exact ⟨v, h1, k v F H (.refl e) h2⟩
theorem smb_own {i : Nat} : SmB W (tVar i) (eOwn i) := fun H0 F H σ ρ d e r q Q k => by
  obtain ⟨ds, rfl, h⟩ := getOw_eq q
  obtain ⟨p, xs, h1, h2, h3, _, h4⟩ := r.ow i ds h
  exact ⟨_, h1, k _ F H (.refl e) (.ow h2 h4)⟩
/-- a constant, a global of the module -/
theorem sm_c {v : V} {d : D} (h : ∀ F, Rep W F v d) : Sm W (tC v) (eC d) := fun H0 F H σ ρ d' e r q Q k => by
  cases q
  exact k v F H (.refl e) (h F)
theorem sm_int {i : Int} : Sm W (tC (.int i)) (eC (.int i)) := sm_c fun _ => .int i
theorem sm_str {s : Str} : Sm W (tC (.str s)) (eC (.str s)) := sm_c fun _ => .str s
theorem sm_bl {b : Bool} : Sm W (tC (.bl b)) (eC (.bool b)) := sm_c fun _ => .bl b
theorem sm_non : Sm W (tC .non) (eC .non) := sm_c fun _ => .non

/-! ### two operands -/
def eBin (g : D → D → Option D) (a b : ME) : ME := fun ρ => (a ρ).bind fun x => (b ρ).bind fun y => g x y
/-- an operation by values: r does g -/
def OpS (W : Wd) (r : R2) (g : D → D → Option D) : Prop := ∀ (F H : Hp) (x y : V) (a b d : D), Ex F H → RepB W F H x a → RepB W F H y b → g a b = some d →
  ∀ Q : VK, (∀ v F' H', Ext F H F' H' → Rep W F' v d → Q v H') → r x y H Q
theorem sm_op {r : R2} {g : D → D → Option D} {ta tb : TE} {ma mb : ME} (hr : OpS W r g) (ha : SmB W ta ma) (hb : SmB W tb mb) : Sm W (tOp r ta tb) (eBin g ma mb) := fun H0 F H σ ρ d e r' q Q k => by
  unfold eBin at q
  cases h1 : ma ρ with
  | none => rw [h1] at q; cases q
  | some a =>
    cases h2 : mb ρ with
    | none => rw [h1, h2] at q; cases q
    | some b =>
      rw [h1, h2] at q
      refine ha H0 F H σ ρ a e r' h1 _ fun x F1 H1 e1 r1 => ?_
      refine hb H0 F1 H1 σ ρ b e1.s (r'.ext e1) h2 _ fun y F2 H2 e2 r2 => ?_
      refine hr F2 H2 x y a b d e2.s (r1.ext e2) r2 q _ fun v F3 H3 e3 r3 => ?_
      exact k v F3 H3 ((e1.trans e2).trans e3) r3
end
end CP
/-! part CpB -/
set_option Elab.async false
set_option linter.all false
set_option maxRecDepth 100000
set_option maxHeartbeats 4000000
namespace CP
open PySem L2
section
variable {W : Wd}
/-- the cap on lengths -/
def cap (n : Nat) : Bool := Nat.ble n 100000
theorem cap_le {n : Nat} (h : cap n = true) : n ≤ sizeLine := Nat.le_trans (Nat.le_of_ble_eq_true h) (by decide)
theorem cap_lt {n : Nat} (h : cap n = true) : n < sizeLine := Nat.lt_of_le_of_lt (Nat.le_of_ble_eq_true h) (by decide)

/-! ### numbers -/
def gI (f : Int → Int → D) : D → D → Option D
  | .int i, .int j => some (f i j)
  | _, _ => none
theorem gI_eq {f : Int → Int → D} {a b d : D} (h : gI f a b = some d) : ∃ i j, a = .int i ∧ b = .int j ∧ d = f i j := by
  unfold gI at h
  split at h
  · cases h
    exact ⟨_, _, rfl, rfl, rfl⟩
  · cases h
def gIc (c : Int → Int → Bool) (f : Int → Int → D) : D → D → Option D
  | .int i, .int j => if c i j = true then some (f i j) else none
  | _, _ => none
theorem gIc_eq {c : Int → Int → Bool} {f : Int → Int → D} {a b d : D} (h : gIc c f a b = some d) : ∃ i j, a = .int i ∧ b = .int j ∧ c i j = true ∧ d = f i j := by
  unfold gIc at h
  split at h
  · split at h
    · cases h
      exact ⟨_, _, rfl, rfl, by assumption, rfl⟩
    · cases h
  · cases h
theorem RepB.int {F H : Hp} {v : V} {i : Int} (r : RepB W F H v (.int i)) : v = .int i := by
  cases r with
  | fr r => cases r; rfl
theorem RepB.str {F H : Hp} {v : V} {i : Str} (r : RepB W F H v (.str i)) : v = .str i := by
  cases r with
  | fr r => cases r; rfl
theorem RepB.bl {F H : Hp} {v : V} {i : Bool} (r : RepB W F H v (.bool i)) : v = .bl i := by
  cases r with
  | fr r => cases r; rfl
theorem RepB.non {F H : Hp} {v : V} (r : RepB W F H v .non) : v = .non := by
  cases r with
  | fr r => cases r; rfl
theorem ops_I0 {g : Int → Int → V} {f : Int → Int → D} (hr : ∀ F i j, Rep W F (g i j) (f i j)) : OpS W (rI0 g) (gI f) := fun F H x y a b d e ra rb q Q k => by
  obtain ⟨i, j, rfl, rfl, rfl⟩ := gI_eq q
  obtain rfl := ra.int
  obtain rfl := rb.int
  exact ⟨i, j, rfl, rfl, k _ F H (.refl e) (hr F i j)⟩
theorem ops_I {C : Int → Int → Prop} {g : Int → Int → V} {c : Int → Int → Bool} {f : Int → Int → D} (hr : ∀ F i j, Rep W F (g i j) (f i j)) (hc : ∀ i j, c i j = true → C i j) : OpS W (rI C g) (gIc c f) := fun F H x y a b d e ra rb q Q k => by
  obtain ⟨i, j, rfl, rfl, h, rfl⟩ := gIc_eq q
  obtain rfl := ra.int
  obtain rfl := rb.int
  exact ⟨i, j, rfl, rfl, hc i j h, k _ F H (.refl e) (hr F i j)⟩
abbrev gAdd := gI fun i j => .int (i + j)
abbrev gSubI := gI fun i j => .int (i - j)
abbrev gLt := gI fun i j => .bool (decide (i < j))
abbrev gLe := gI fun i j => .bool (decide (i ≤ j))
abbrev gGt := gI fun i j => .bool (decide (j < i))
abbrev gGe := gI fun i j => .bool (decide (j ≤ i))
abbrev gAnd := gI fun i j => .int (Builtin.bitAnd i j)
def cPow (i j : Int) : Bool := decide (0 ≤ j) && decide (j ≤ 1000000) && Nat.blt i.natAbs (2 ^ 64)
def cShr (i j : Int) : Bool := decide (0 ≤ j)
def cMod (i j : Int) : Bool := decide (0 < j)
abbrev gShl := gIc cPow fun i j => .int (i * 2 ^ j.toNat)
abbrev gShr := gIc cShr fun i j => .int (i / 2 ^ j.toNat)
abbrev gMod := gIc cMod fun i j => .int (i % j)
theorem s_add : OpS W (rI0 fun i j => .int (i + j)) gAdd := ops_I0 fun _ _ _ => .int _
theorem s_sub : OpS W (rI0 fun i j => .int (i - j)) gSubI := ops_I0 fun _ _ _ => .int _
theorem s_lt : OpS W (rI0 fun i j => .bl (decide (i < j))) gLt := ops_I0 fun _ _ _ => .bl _
theorem s_le : OpS W (rI0 fun i j => .bl (decide (i ≤ j))) gLe := ops_I0 fun _ _ _ => .bl _
theorem s_gt : OpS W (rI0 fun i j => .bl (decide (j < i))) gGt := ops_I0 fun _ _ _ => .bl _
theorem s_ge : OpS W (rI0 fun i j => .bl (decide (j ≤ i))) gGe := ops_I0 fun _ _ _ => .bl _
theorem s_and : OpS W (rI0 fun i j => .int (Builtin.bitAnd i j)) gAnd := ops_I0 fun _ _ _ => .int _
theorem s_shl : OpS W (rI CPow fun i j => .int (i * 2 ^ j.toNat)) gShl := ops_I (fun _ _ _ => .int _) fun i j h => by
  unfold cPow at h
  simp only [Bool.and_eq_true, decide_eq_true_eq] at h
  exact ⟨h.1.1, h.1.2, Nat.le_of_ble_eq_true h.2⟩
theorem s_shr : OpS W (rI (fun _ j => 0 ≤ j) fun i j => .int (i / 2 ^ j.toNat)) gShr := ops_I (fun _ _ _ => .int _) fun i j h => of_decide_eq_true h
theorem s_mod : OpS W (rI (fun _ j => 0 < j) fun i j => .int (i % j)) gMod := ops_I (fun _ _ _ => .int _) fun i j h => of_decide_eq_true h

/-! ### texts, lists, tuples -/
def gAddS : D → D → Option D
  | .str i, .str j => if cap (i.length + j.length) = true then some (.str (i ++ j)) else none
  | _, _ => none
theorem s_addS : OpS W (fun x y H Q => ∃ i j, x = .str i ∧ y = .str j ∧ i.length + j.length ≤ sizeLine ∧ Q (.str (i ++ j)) H) gAddS := fun F H x y a b d e ra rb q Q k => by
  unfold gAddS at q
  split at q
  · split at q
    · cases q
      rename_i h
      obtain rfl := ra.str
      obtain rfl := rb.str
      exact ⟨_, _, rfl, rfl, cap_le h, k _ F H (.refl e) (.str _)⟩
    · cases q
  · cases q
def gCat : D → D → Option D
  | .lst i, .lst j => if cap (i.length + j.length) = true then some (.lst (i ++ j)) else none
  | _, _ => none
theorem s_cat : OpS W rCat gCat := fun F H x y a b d e ra rb q Q k => by
  unfold gCat at q
  split at q
  · split at q
    · cases q
      rename_i h
      obtain ⟨p, xs, rfl, hp, rp⟩ := ra.lst e
      obtain ⟨p2, ys, rfl, hp2, rp2⟩ := rb.lst e
      refine ⟨p, p2, xs, ys, rfl, rfl, hp, hp2, by rw [rp.length, rp2.length]; exact cap_le h, fun l hl => ?_⟩
      have x := Ext.new (o := .lst (xs ++ ys)) e hl
      exact k _ _ _ x (.lst upd_same ((rp.append rp2).mono x.f))
    · cases q
  · cases q
def gRep : D → D → Option D
  | .lst i, .int j => if (cap (i.length * j.toNat) && decide (-1000 ≤ j) && decide (j ≤ 1000)) = true then some (.lst (List.replicate j.toNat i).flatten) else none
  | _, _ => none
theorem reps_flat {F : Hp} {xs : List V} {ds : List D} (r : Reps W F xs ds) : ∀ n : Nat, Reps W F (List.replicate n xs).flatten (List.replicate n ds).flatten
  | 0 => .nil
  | n + 1 => by
    rw [List.replicate_succ, List.replicate_succ, List.flatten_cons, List.flatten_cons]
    exact r.append (reps_flat r n)

theorem s_rep : OpS W rRep gRep := fun F H x y a b d e ra rb q Q k => by
  cases a with
  | lst i =>
    cases b with
    | int j =>
      simp only [gRep] at q
      split at q
      · cases q
        rename_i h
        simp only [Bool.and_eq_true, decide_eq_true_eq] at h
        obtain ⟨p, xs, rfl, hp, rp⟩ := ra.lst e
        obtain rfl := rb.int
        refine ⟨p, j, xs, rfl, rfl, hp, by omega, by omega, by rw [rp.length]; exact cap_le h.1.1, fun l hl => ?_⟩
        have x := Ext.new (o := .lst (List.replicate j.toNat xs).flatten) e hl
        exact k _ _ _ x (.lst upd_same (Reps.mono x.f (reps_flat rp j.toNat)))
      · cases q
    | _ => cases q
  | _ => cases q
def gCatT : D → D → Option D
  | .tup i, .tup j => if cap (i.length + j.length) = true then some (.tup (i ++ j)) else none
  | _, _ => none
theorem s_catT : OpS W (rCatA W.K) gCatT := fun F H x y a b d e ra rb q Q k => by
  unfold gCatT at q
  split at q
  · split at q
    · cases q
      rename_i h
      cases ra with
      | fr ra =>
        cases rb with
        | fr rb =>
          cases ra with
          | @tup pa xs _ ha ra =>
            cases rb with
            | @tup pb ys _ hb rb =>
              refine ⟨pa, pb, xs, ys, rfl, rfl, ex_t e ha, ex_t e hb, by rw [ra.length, rb.length]; exact cap_le h, ?_, ?_, ?_⟩
              · rintro rfl
                cases ra
                exact k _ F H (.refl e) (.tup hb rb)
              · rintro _ rfl
                cases rb
                exact k _ F H (.refl e) (.tup ha (by rw [List.append_nil]; exact ra))
              · intro _ _ l hl
                have x := Ext.new (o := .tup (xs ++ ys)) e hl
                exact k _ _ _ x (.tup (.inl (.inl upd_same)) ((ra.append rb).mono x.f))
    · cases q
  · cases q

/-! ### == and != -/
def sc : D → Option V
  | .non => some .non
  | .bool b => some (.bl b)
  | .int i => some (.int i)
  | .str s => some (.str s)
  | _ => none
theorem sc_eq {F H : Hp} {v x : V} {d : D} (r : RepB W F H v d) (h : sc d = some x) : v = x := by
  cases d <;> simp only [sc] at h <;> cases h
  · exact r.non
  · exact r.bl
  · exact r.int
  · exact r.str
def gEq (n : Bool) (a b : D) : Option D := match sc a, sc b with
  | some x, some y => if scal x y = true then some (.bool (if n = true then !decide (x = y) else decide (x = y))) else none
  | _, _ => none
theorem gEq_eq {n : Bool} {a b d : D} (h : gEq n a b = some d) : ∃ x y, sc a = some x ∧ sc b = some y ∧ scal x y = true ∧ d = .bool (if n = true then !decide (x = y) else decide (x = y)) := by
  unfold gEq at h
  split at h
  · split at h
    · cases h
      exact ⟨_, _, by assumption, by assumption, by assumption, rfl⟩
    · cases h
  · cases h
theorem s_eq : OpS W rEq (gEq false) := fun F H x y a b d e ra rb q Q k => by
  obtain ⟨x', y', h1, h2, h3, rfl⟩ := gEq_eq q
  obtain rfl := sc_eq ra h1
  obtain rfl := sc_eq rb h2
  exact ⟨h3, k _ F H (.refl e) (.bl _)⟩
theorem s_ne : OpS W rNe (gEq true) := fun F H x y a b d e ra rb q Q k => by
  obtain ⟨x', y', h1, h2, h3, rfl⟩ := gEq_eq q
  obtain rfl := sc_eq ra h1
  obtain rfl := sc_eq rb h2
  exact ⟨h3, k _ F H (.refl e) (.bl _)⟩
def gIsN (n : Bool) : D → D → Option D
  | .non, .non => some (.bool !n)
  | _, .non => some (.bool n)
  | _, _ => none
def isNon : D → Bool
  | .non => true
  | _ => false
theorem RepB.nonB {F H : Hp} {v : V} {d : D} (r : RepB W F H v d) : decide (v = .non) = isNon d := by
  cases r with
  | fr r => cases r <;> rfl
  | ow _ _ => rfl
theorem gIsN_eq {n : Bool} {a b d : D} (h : gIsN n a b = some d) : b = .non ∧ d = .bool (if n = true then !isNon a else isNon a) := by
  cases b <;> cases a <;> simp only [gIsN] at h <;> cases h <;> cases n <;> exact ⟨rfl, rfl⟩
theorem s_isN : OpS W (fun x y H Q => y = .non ∧ Q (.bl (decide (x = .non))) H) (gIsN false) := fun F H x y a b d e ra rb q Q k => by
  obtain ⟨rfl, rfl⟩ := gIsN_eq q
  obtain rfl := rb.non
  refine ⟨rfl, ?_⟩
  rw [ra.nonB]
  exact k _ F H (.refl e) (.bl _)
theorem s_notN : OpS W (fun x y H Q => y = .non ∧ Q (.bl (!decide (x = .non))) H) (gIsN true) := fun F H x y a b d e ra rb q Q k => by
  obtain ⟨rfl, rfl⟩ := gIsN_eq q
  obtain rfl := rb.non
  refine ⟨rfl, ?_⟩
  rw [ra.nonB]
  exact k _ F H (.refl e) (.bl _)
def gIsB (n : Bool) : D → D → Option D
  | .bool a, .bool b => some (.bool (if n = true then !decide (a = b) else decide (a = b)))
  | _, _ => none
theorem s_isB : OpS W rIsB (gIsB false) := fun F H x y a b d e ra rb q Q k => by
  unfold gIsB at q
  split at q
  · cases q
    obtain rfl := ra.bl
    obtain rfl := rb.bl
    exact ⟨_, _, rfl, rfl, k _ F H (.refl e) (.bl _)⟩
  · cases q
theorem s_notB : OpS W rNotB (gIsB true) := fun F H x y a b d e ra rb q Q k => by
  unfold gIsB at q
  split at q
  · cases q
    obtain rfl := ra.bl
    obtain rfl := rb.bl
    exact ⟨_, _, rfl, rfl, k _ F H (.refl e) (.bl _)⟩
  · cases q

/-! ### data at any depth -/
mutual
def py : D → PyData
  | .non => .none
  | .bool b => .bool b
  | .int i => .int i
  | .str s => .str s
  | .tup xs => .tuple (pys xs)
  | .lst xs => .list (pys xs)
  | .dct _ _ => .dict []
  | .obj _ _ => .dict []
  | .tpf _ => .dict []
  | .adr _ => .dict []
def pys : List D → List PyData
  | [] => []
  | d :: ds => py d :: pys ds
end
theorem lay_tup {ds : List D} (h : (py (.tup ds)).canLay0 = true) : PyData.canLayAll0 (pys ds) = true := by simpa [py, PyData.canLay0] using h
theorem lay_lst {ds : List D} (h : (py (.lst ds)).canLay0 = true) : PyData.canLayAll0 (pys ds) = true := by simpa [py, PyData.canLay0] using h
theorem lay_cons {d : D} {ds : List D} (h : PyData.canLayAll0 (pys (d :: ds)) = true) : (py d).canLay0 = true ∧ PyData.canLayAll0 (pys ds) = true := by simpa [pys, PyData.canLayAll0] using h
mutual
theorem Rep.dp {F : Hp} : ∀ {v : V} {d : D}, Rep W F v d → (py d).canLay0 = true → Dp W.K F v (py d)
  | _, _, .non, _ => by simp only [py]; exact .non
  | _, _, .bl b, _ => by simp only [py]; exact .bl b
  | _, _, .int i, _ => by simp only [py]; exact .int i
  | _, _, .str x, _ => by simp only [py]; exact .str x
  | _, _, .tup h r, l => by
    have := Reps.dp r (lay_tup l)
    simp only [py]
    exact .tup h this
  | _, _, .lst h r, l => by
    have := Reps.dp r (lay_lst l)
    simp only [py]
    exact .lst (.inl (.inl h)) this
  | _, _, .dct _ _ _, l => by simp [py, PyData.canLay0] at l
  | _, _, .obj _ _ _, l => by simp [py, PyData.canLay0] at l
  | _, _, .tpf _ _ _ _, l => by simp [py, PyData.canLay0] at l
  | _, _, .adr _, l => by simp [py, PyData.canLay0] at l
theorem Reps.dp {F : Hp} : ∀ {vs : List V} {ds : List D}, Reps W F vs ds → PyData.canLayAll0 (pys ds) = true → DpAll W.K F vs (pys ds)
  | _, _, .nil, _ => by simp only [pys]; exact .nil
  | _, _, .cons h r, l => by
    have a := Rep.dp h (lay_cons l).1
    have b := Reps.dp r (lay_cons l).2
    simp only [pys]
    exact .cons a b
end
mutual
theorem Dp.mono {K : PySem.W.Frag} {F F' : Hp} (e : Ex F F') : ∀ {v : V} {d : PyData}, Dp K F v d → Dp K F' v d
  | _, _, .non => .non
  | _, _, .bl b => .bl b
  | _, _, .int i => .int i
  | _, _, .str x => .str x
  | _, _, .tup h r => .tup (ex_t e h) (DpAll.mono e r)
  | _, _, .lst h r => .lst (ex_l e h) (DpAll.mono e r)
theorem DpAll.mono {K : PySem.W.Frag} {F F' : Hp} (e : Ex F F') : ∀ {vs : List V} {ds : List PyData}, DpAll K F vs ds → DpAll K F' vs ds
  | _, _, .nil => .nil
  | _, _, .cons h r => .cons (Dp.mono e h) (DpAll.mono e r)
end
theorem RepB.dp {F H : Hp} {v : V} {d : D} (r : RepB W F H v d) (e : Ex F H) (l : (py d).canLay0 = true) : Dp W.K H v (py d) := by
  cases r with
  | fr r => exact Dp.mono e (r.dp l)
  | ow h r =>
    have := DpAll.mono e (Reps.dp r (lay_lst l))
    simp only [py]
    exact .lst (.inl (.inl h)) this
def dEq (a b : D) : Bool := PyData.eqv (py a) (py b)
def shp (d : D) : Bool := SeqAt.shaped (py d)
theorem shp_lay {d : D} (h : shp d = true) : (py d).canLay0 = true := by
  unfold shp SeqAt.shaped at h
  rw [Bool.and_eq_true] at h
  exact h.1
def gEqD (n : Bool) (a b : D) : Option D := if (shp a && shp b) = true then some (.bool (if n = true then !dEq a b else dEq a b)) else none
theorem gEqD_eq {n : Bool} {a b d : D} (h : gEqD n a b = some d) : shp a = true ∧ shp b = true ∧ d = .bool (if n = true then !dEq a b else dEq a b) := by
  unfold gEqD at h
  split at h
  · cases h
    rename_i h
    rw [Bool.and_eq_true] at h
    exact ⟨h.1, h.2, rfl⟩
  · cases h
theorem s_eqD : OpS W (rEqD W.K) (gEqD false) := fun F H x y a b d e ra rb q Q k => by
  obtain ⟨h1, h2, rfl⟩ := gEqD_eq q
  exact ⟨py a, py b, ra.dp e (shp_lay h1), rb.dp e (shp_lay h2), h1, h2, k _ F H (.refl e) (.bl _)⟩
theorem s_neD : OpS W (rNeD W.K) (gEqD true) := fun F H x y a b d e ra rb q Q k => by
  obtain ⟨h1, h2, rfl⟩ := gEqD_eq q
  exact ⟨py a, py b, ra.dp e (shp_lay h1), rb.dp e (shp_lay h2), h1, h2, k _ F H (.refl e) (.bl _)⟩
def gInD (n : Bool) : D → D → Option D
  | a, .lst ds => if (shp a && shp (.lst ds)) = true then some (.bool (if n = true then !(pys ds).any fun z => PyData.eqv z (py a) else (pys ds).any fun z => PyData.eqv z (py a))) else none
  | _, _ => none
theorem s_inD : OpS W (rInD W.K) (gInD false) := fun F H x y a b d e ra rb q Q k => by
  unfold gInD at q
  split at q
  · split at q
    · cases q
      rename_i h
      rw [Bool.and_eq_true] at h
      have h3 := rb.dp e (shp_lay h.2)
      have h4 := h.2
      unfold shp at h4
      simp only [py] at h3 h4
      exact ⟨py a, _, ra.dp e (shp_lay h.1), h3, h.1, h4, k _ F H (.refl e) (.bl _)⟩
    · cases q
  · cases q
theorem s_notInD : OpS W (rNotInD W.K) (gInD true) := fun F H x y a b d e ra rb q Q k => by
  unfold gInD at q
  split at q
  · split at q
    · cases q
      rename_i h
      rw [Bool.and_eq_true] at h
      have h3 := rb.dp e (shp_lay h.2)
      have h4 := h.2
      unfold shp at h4
      simp only [py] at h3 h4
      exact ⟨py a, _, ra.dp e (shp_lay h.1), h3, h.1, h4, k _ F H (.refl e) (.bl _)⟩
    · cases q
  · cases q

/-! ### in, not in: flat items -/
def scs : List D → Option (List V)
  | [] => some []
  | d :: ds => match sc d, scs ds with
    | some x, some xs => some (x :: xs)
    | _, _ => none
theorem scs_eq {F : Hp} : ∀ {vs xs : List V} {ds : List D}, Reps W F vs ds → scs ds = some xs → vs = xs
  | _, _, _, .nil, h => by cases h; rfl
  | _, _, _, .cons r t, h => by
    simp only [scs] at h
    split at h
    · cases h
      rename_i h1 h2
      rw [sc_eq (H := F) (.fr r) h1, scs_eq t h2]
    · cases h
theorem sc_flat {d : D} {x : V} (h : sc d = some x) : flatV x = true := by
  cases d <;> simp only [sc] at h <;> cases h <;> rfl
theorem scs_flat : ∀ {ds : List D} {xs : List V}, scs ds = some xs → xs.all flatV = true
  | [], _, h => by cases h; rfl
  | d :: ds, _, h => by
    simp only [scs] at h
    split at h
    · cases h
      rename_i h1 h2
      rw [List.all_cons, sc_flat h1, scs_flat h2]
      rfl
    · cases h
def itemsOf : D → Option (List D)
  | .lst ds => some ds
  | .tup ds => some ds
  | _ => none
def gIn (n : Bool) (a b : D) : Option D := match sc a, (itemsOf b).bind scs with
  | some x, some xs => some (.bool (if n = true then !inV x xs else inV x xs))
  | _, _ => none
theorem RepB.items {F H : Hp} {v : V} {b : D} {ds : List D} (r : RepB W F H v b) (e : Ex F H) (h : itemsOf b = some ds) : ∃ a xs, v = .ref a ∧ (SqL W.K H a xs ∨ SqT W.K H a xs) ∧ Reps W F xs ds := by
  cases b <;> simp only [itemsOf] at h <;> cases h
  · obtain ⟨a, xs, rfl, h1, h2⟩ := r.tup e
    exact ⟨a, xs, rfl, .inr h1, h2⟩
  · obtain ⟨a, xs, rfl, h1, h2⟩ := r.lst e
    exact ⟨a, xs, rfl, .inl (.inl (.inl h1)), h2⟩
theorem s_in {n : Bool} : OpS W (rIn W.K n) (gIn n) := fun F H x y a b d e ra rb q Q k => by
  unfold gIn at q
  split at q
  · cases q
    rename_i x' xs' h1 h2
    obtain ⟨ds, h3, h4⟩ := Option.bind_eq_some_iff.mp h2
    obtain ⟨p, xs, rfl, h5, h6⟩ := rb.items e h3
    obtain rfl := sc_eq ra h1
    obtain rfl := scs_eq h6 h4
    exact ⟨p, _, rfl, h5, sc_flat h1, scs_flat h4, k _ F H (.refl e) (.bl _)⟩
  · cases q

/-! ### items -/
def gIx : D → D → Option D
  | .lst ds, .int i => atI ds i
  | .tup ds, .int i => atI ds i
  | .str s, .int i => if cap s.length = true then (atI s.cps.toList i).map fun c => .str ⟨#[c]⟩ else none
  | _, _ => none
theorem atI_reps {F : Hp} {xs : List V} {ds : List D} {i : Int} {d : D} (r : Reps W F xs ds) (h : atI ds i = some d) : ∃ v, atI xs i = some v ∧ Rep W F v d := by
  unfold atI at h ⊢
  obtain ⟨j, h1, h2⟩ := Option.bind_eq_some_iff.mp h
  obtain ⟨v, h3, h4⟩ := r.get h2
  refine ⟨v, ?_, h4⟩
  rw [r.length, h1]
  exact h3
theorem s_ix : OpS W (rIx W.K) gIx := fun F H x y a b d e ra rb q Q k => by
  unfold gIx at q
  split at q
  · obtain ⟨p, xs, rfl, h1, h2⟩ := ra.lst e
    obtain rfl := rb.int
    obtain ⟨v, h3, h4⟩ := atI_reps h2 q
    exact .inl ⟨p, xs, _, v, rfl, rfl, .inl (.inl h1), h3, k _ F H (.refl e) h4⟩
  · obtain ⟨p, xs, rfl, h1, h2⟩ := ra.tup e
    obtain rfl := rb.int
    obtain ⟨v, h3, h4⟩ := atI_reps h2 q
    exact .inr (.inl ⟨p, xs, _, v, rfl, rfl, h1, h3, k _ F H (.refl e) h4⟩)
  · split at q
    · rename_i h
      obtain ⟨c, h1, rfl⟩ := Option.map_eq_some_iff.mp q
      obtain rfl := ra.str
      obtain rfl := rb.int
      exact .inr (.inr ⟨_, _, c, rfl, rfl, cap_le h, h1, k _ F H (.refl e) (.str _)⟩)
    · cases q
  · cases q
end
end CP
/-! part CpC -/
set_option Elab.async false
set_option linter.all false
set_option maxRecDepth 100000
set_option maxHeartbeats 4000000
namespace CP
open PySem L2
section
variable {W : Wd}
/-! ### tests -/
def dB : D → Option Bool
  | .bool b => some b
  | _ => none
theorem dB_eq {d : D} {b : Bool} (h : dB d = some b) : d = .bool b := by
  cases d <;> simp only [dB] at h <;> cases h
  rfl
def tOf (m : ME) : MT := fun ρ => (m ρ).bind dB
theorem Rep.blv {F : Hp} {v : V} {b : Bool} (r : Rep W F v (.bool b)) : v = .bl b := by cases r; rfl
theorem smt_B {t : TE} {m : ME} (h : Sm W t m) : SmT W (tB t) (tOf m) := fun H0 F H σ ρ b e r q Q k => by
  obtain ⟨d, h1, h2⟩ := Option.bind_eq_some_iff.mp q
  cases dB_eq h2
  refine h H0 F H σ ρ _ e r h1 _ fun v F1 H1 e1 r1 => ?_
  cases r1
  exact ⟨b, rfl, k F1 H1 e1⟩
theorem smt_T {t : TE} {m : ME} (h : Sm W t m) : SmT W (tTest t) (tOf m) := smt_B h
def mAnd (a b : MT) : MT := fun ρ => (a ρ).bind fun x => if x = true then b ρ else some false
def mOr (a b : MT) : MT := fun ρ => (a ρ).bind fun x => if x = true then some true else b ρ
def mNot (a : MT) : MT := fun ρ => (a ρ).map fun x => !x
theorem smt_and {t u : TT} {a b : MT} (ha : SmT W t a) (hb : SmT W u b) : SmT W (tAnd t u) (mAnd a b) := fun H0 F H σ ρ c e r q Q k => by
  obtain ⟨x, h1, h2⟩ := Option.bind_eq_some_iff.mp q
  refine ha H0 F H σ ρ x e r h1 _ fun F1 H1 e1 => ?_
  cases x with
  | true => exact hb H0 F1 H1 σ ρ c e1.s (r.ext e1) h2 Q fun F2 H2 e2 => k F2 H2 (e1.trans e2)
  | false =>
    cases h2
    exact k F1 H1 e1
theorem smt_or {t u : TT} {a b : MT} (ha : SmT W t a) (hb : SmT W u b) : SmT W (tOr t u) (mOr a b) := fun H0 F H σ ρ c e r q Q k => by
  obtain ⟨x, h1, h2⟩ := Option.bind_eq_some_iff.mp q
  refine ha H0 F H σ ρ x e r h1 _ fun F1 H1 e1 => ?_
  cases x with
  | false => exact hb H0 F1 H1 σ ρ c e1.s (r.ext e1) h2 Q fun F2 H2 e2 => k F2 H2 (e1.trans e2)
  | true =>
    cases h2
    exact k F1 H1 e1
theorem smt_not {t : TT} {a : MT} (ha : SmT W t a) : SmT W (tNot t) (mNot a) := fun H0 F H σ ρ c e r q Q k => by
  obtain ⟨x, h1, rfl⟩ := Option.map_eq_some_iff.mp q
  exact ha H0 F H σ ρ x e r h1 _ fun F1 H1 e1 => k F1 H1 e1
/-- a test that is a choice of tests -/
def tIfT (t u v : TT) : TT := fun σ H Q => t σ H fun c H1 => if c = true then u σ H1 Q else v σ H1 Q
theorem pt_ifExp {X : Cx} {c a b : Expr} {pos : Pos} {t u v : TT} (hc : PT X c t) (ha : PT X a u) (hb : PT X b v) : PT X (.IfExp c a b pos) (tIfT t u v) := by
  refine ⟨fun pins s σ H Q I h => ?_⟩
  refine PyProof.Rows.isTrue_IfExp (thn (hc.run pins s σ H _ I h) fun d s1 ⟨H1, I1, q1⟩ => ?_)
  cases d with
  | true => exact ha.run pins s1 σ H1 Q I1 q1
  | false => exact hb.run pins s1 σ H1 Q I1 q1
def mIfT (c a b : MT) : MT := fun ρ => (c ρ).bind fun x => if x = true then a ρ else b ρ
theorem smt_if {t u v : TT} {c a b : MT} (hc : SmT W t c) (ha : SmT W u a) (hb : SmT W v b) : SmT W (tIfT t u v) (mIfT c a b) := fun H0 F H σ ρ z e r q Q k => by
  obtain ⟨x, h1, h2⟩ := Option.bind_eq_some_iff.mp q
  refine hc H0 F H σ ρ x e r h1 _ fun F1 H1 e1 => ?_
  cases x with
  | true => exact ha H0 F1 H1 σ ρ z e1.s (r.ext e1) h2 Q fun F2 H2 e2 => k F2 H2 (e1.trans e2)
  | false => exact hb H0 F1 H1 σ ρ z e1.s (r.ext e1) h2 Q fun F2 H2 e2 => k F2 H2 (e1.trans e2)

/-! ### and, or, not, choice as values -/
def eAndV (a b : ME) : ME := fun ρ => (tOf a ρ).bind fun x => if x = true then b ρ else some (.bool false)
def eOrV (a b : ME) : ME := fun ρ => (tOf a ρ).bind fun x => if x = true then some (.bool true) else b ρ
def eNotV (a : ME) : ME := fun ρ => (tOf a ρ).map fun x => .bool !x
def eIf (c : MT) (a b : ME) : ME := fun ρ => (c ρ).bind fun x => if x = true then a ρ else b ρ
theorem sm_andV {ta tb : TE} {a b : ME} (ha : Sm W ta a) (hb : Sm W tb b) : Sm W (tAndV ta tb) (eAndV a b) := fun H0 F H σ ρ d e r q Q k => by
  obtain ⟨x, h1, h2⟩ := Option.bind_eq_some_iff.mp q
  obtain ⟨y, h3, h4⟩ := Option.bind_eq_some_iff.mp h1
  cases dB_eq h4
  refine ha H0 F H σ ρ _ e r h3 _ fun v F1 H1 e1 r1 => ?_
  cases r1
  refine ⟨x, rfl, ?_⟩
  cases x with
  | true => exact hb H0 F1 H1 σ ρ d e1.s (r.ext e1) h2 Q fun v F2 H2 e2 => k v F2 H2 (e1.trans e2)
  | false =>
    cases h2
    exact k _ F1 H1 e1 (.bl _)
theorem sm_orV {ta tb : TE} {a b : ME} (ha : Sm W ta a) (hb : Sm W tb b) : Sm W (tOrV ta tb) (eOrV a b) := fun H0 F H σ ρ d e r q Q k => by
  obtain ⟨x, h1, h2⟩ := Option.bind_eq_some_iff.mp q
  obtain ⟨y, h3, h4⟩ := Option.bind_eq_some_iff.mp h1
  cases dB_eq h4
  refine ha H0 F H σ ρ _ e r h3 _ fun v F1 H1 e1 r1 => ?_
  cases r1
  refine ⟨x, rfl, ?_⟩
  cases x with
  | false => exact hb H0 F1 H1 σ ρ d e1.s (r.ext e1) h2 Q fun v F2 H2 e2 => k v F2 H2 (e1.trans e2)
  | true =>
    cases h2
    exact k _ F1 H1 e1 (.bl _)
theorem sm_notV {ta : TE} {a : ME} (ha : Sm W ta a) : Sm W (tNotV ta) (eNotV a) := fun H0 F H σ ρ d e r q Q k => by
  obtain ⟨x, h1, rfl⟩ := Option.map_eq_some_iff.mp q
  obtain ⟨y, h3, h4⟩ := Option.bind_eq_some_iff.mp h1
  cases dB_eq h4
  refine ha H0 F H σ ρ _ e r h3 _ fun v F1 H1 e1 r1 => ?_
  cases r1
  exact ⟨x, rfl, k _ F1 H1 e1 (.bl _)⟩
theorem sm_if {t : TT} {ta tb : TE} {c : MT} {a b : ME} (hc : SmT W t c) (ha : Sm W ta a) (hb : Sm W tb b) : Sm W (tIf t ta tb) (eIf c a b) := fun H0 F H σ ρ d e r q Q k => by
  obtain ⟨x, h1, h2⟩ := Option.bind_eq_some_iff.mp q
  refine hc H0 F H σ ρ x e r h1 _ fun F1 H1 e1 => ?_
  cases x with
  | true => exact ha H0 F1 H1 σ ρ d e1.s (r.ext e1) h2 Q fun v F2 H2 e2 => k v F2 H2 (e1.trans e2)
  | false => exact hb H0 F1 H1 σ ρ d e1.s (r.ext e1) h2 Q fun v F2 H2 e2 => k v F2 H2 (e1.trans e2)
/-- a tuple or something else -/
def eOrT (a b : ME) : ME := fun ρ => (a ρ).bind fun x => match x with
  | .tup ds => if ds.isEmpty = true then b ρ else some (.tup ds)
  | _ => none
theorem sm_orT {ta tb : TE} {a b : ME} (ha : Sm W ta a) (hb : Sm W tb b) : Sm W (tOrT W.K ta tb) (eOrT a b) := fun H0 F H σ ρ d e r q Q k => by
  obtain ⟨x, h1, h2⟩ := Option.bind_eq_some_iff.mp q
  refine ha H0 F H σ ρ x e r h1 _ fun v F1 H1 e1 r1 => ?_
  cases x with
  | tup ds =>
    cases r1 with
    | @tup p xs _ hp rp =>
      refine ⟨!xs.isEmpty, .inr (.inl ⟨xs, ex_t e1.s hp, rfl⟩), ?_⟩
      cases rp with
      | nil => exact hb H0 F1 H1 σ ρ d e1.s (r.ext e1) h2 Q fun v F2 H2 e2 => k v F2 H2 (e1.trans e2)
      | cons g t =>
        cases h2
        exact k _ F1 H1 e1 (.tup hp (.cons g t))
  | _ => cases h2

/-! ### argument lists -/
def aNil : MA := fun _ => some []
def aCons (a : ME) (b : MA) : MA := fun ρ => (a ρ).bind fun x => (b ρ).map fun xs => x :: xs
def aStar (a : ME) (b : MA) : MA := fun ρ => (a ρ).bind fun x => (itemsOf x).bind fun ys => (b ρ).map fun xs => ys ++ xs
theorem sma_nil : SmA W tNil aNil := fun H0 F H σ ρ ds e r q Q k => by
  cases q
  exact k [] F H (.refl e) .nil
theorem sma_cons {te : TE} {t : TA} {a : ME} {b : MA} (ha : Sm W te a) (hb : SmA W t b) : SmA W (tCons te t) (aCons a b) := fun H0 F H σ ρ ds e r q Q k => by
  obtain ⟨x, h1, h2⟩ := Option.bind_eq_some_iff.mp q
  obtain ⟨xs, h3, rfl⟩ := Option.map_eq_some_iff.mp h2
  refine ha H0 F H σ ρ x e r h1 _ fun v F1 H1 e1 r1 => ?_
  refine hb H0 F1 H1 σ ρ xs e1.s (r.ext e1) h3 _ fun vs F2 H2 e2 r2 => ?_
  exact k _ F2 H2 (e1.trans e2) (.cons (r1.mono e2.f) r2)
theorem sma_star {te : TE} {t : TA} {a : ME} {b : MA} (ha : Sm W te a) (hb : SmA W t b) : SmA W (StX.tStar W.K te t) (aStar a b) := fun H0 F H σ ρ ds e r q Q k => by
  obtain ⟨x, h1, h2⟩ := Option.bind_eq_some_iff.mp q
  obtain ⟨ys, h3, h4⟩ := Option.bind_eq_some_iff.mp h2
  obtain ⟨xs, h5, rfl⟩ := Option.map_eq_some_iff.mp h4
  refine ha H0 F H σ ρ x e r h1 _ fun v F1 H1 e1 r1 => ?_
  obtain ⟨p, zs, rfl, h6, h7⟩ := (RepB.fr (H := H1) r1).items e1.s h3
  refine ⟨p, zs, rfl, h6.symm, ?_⟩
  refine hb H0 F1 H1 σ ρ xs e1.s (r.ext e1) h5 _ fun vs F2 H2 e2 r2 => ?_
  exact k _ F2 H2 (e1.trans e2) ((h7.mono e2.f).append r2)
def eTup (a : MA) : ME := fun ρ => (a ρ).bind fun xs => if cap xs.length = true then some (.tup xs) else none
def eLst (a : MA) : ME := fun ρ => (a ρ).bind fun xs => if cap xs.length = true then some (.lst xs) else none
theorem sm_tup {t : TA} {a : MA} (ha : SmA W t a) : Sm W (tTup t) (eTup a) := fun H0 F H σ ρ d e r q Q k => by
  obtain ⟨xs, h1, h2⟩ := Option.bind_eq_some_iff.mp q
  split at h2
  · cases h2
    rename_i hc
    refine ha H0 F H σ ρ xs e r h1 _ fun vs F1 H1 e1 r1 => ⟨by rw [r1.length]; exact cap_le hc, fun p hp => ?_⟩
    have x := Ext.new (o := .tup vs) e1.s hp
    exact k _ _ _ (e1.trans x) (.tup (.inl (.inl upd_same)) (r1.mono x.f))
  · cases h2
theorem sm_lst {t : TA} {a : MA} (ha : SmA W t a) : Sm W (tLst t) (eLst a) := fun H0 F H σ ρ d e r q Q k => by
  obtain ⟨xs, h1, h2⟩ := Option.bind_eq_some_iff.mp q
  split at h2
  · cases h2
    rename_i hc
    refine ha H0 F H σ ρ xs e r h1 _ fun vs F1 H1 e1 r1 => ⟨by rw [r1.length]; exact cap_le hc, fun p hp => ?_⟩
    have x := Ext.new (o := .lst vs) e1.s hp
    exact k _ _ _ (e1.trans x) (.lst upd_same (r1.mono x.f))
  · cases h2
/-- what makes a new list, to be one's own -/
def SmL (W : Wd) (t : TE) (m : MA) : Prop := ∀ (H0 F H : Hp) (σ : St) (ρ : Env) (ds : List D), Ex F H → EnvR W H0 F H σ ρ → m ρ = some ds →
  ∀ Q : VK, (∀ p vs F' H', Ext F H F' H' → H p = none → F' p = none → H' p = some (.lst vs) → Reps W F' vs ds → Q (.ref p) H') → t σ H Q
def aCap (a : MA) : MA := fun ρ => (a ρ).bind fun xs => if cap xs.length = true then some xs else none
theorem sml_lst {t : TA} {a : MA} (ha : SmA W t a) : SmL W (tLst t) (aCap a) := fun H0 F H σ ρ d e r q Q k => by
  obtain ⟨xs, h1, h2⟩ := Option.bind_eq_some_iff.mp q
  split at h2
  · cases h2
    rename_i hc
    refine ha H0 F H σ ρ _ e r h1 _ fun vs F1 H1 e1 r1 => ⟨by rw [r1.length]; exact cap_le hc, fun p hp => ?_⟩
    have x := Ext.own (o := .lst vs) e1.s hp
    exact k _ _ _ _ (e1.trans x) (e1.h.back hp) (e1.s.back hp) upd_same r1
  · cases h2
/-- xs + ys, to be one's own -/
def aCat (a b : ME) : MA := fun ρ => (a ρ).bind fun x => (b ρ).bind fun y => match x, y with
  | .lst i, .lst j => if cap (i.length + j.length) = true then some (i ++ j) else none
  | _, _ => none
theorem sml_cat {ta tb : TE} {a b : ME} (ha : SmB W ta a) (hb : SmB W tb b) : SmL W (tOp rCat ta tb) (aCat a b) := fun H0 F H σ ρ d e r q Q k => by
  obtain ⟨x, h1, q⟩ := Option.bind_eq_some_iff.mp q
  obtain ⟨y, h2, q⟩ := Option.bind_eq_some_iff.mp q
  split at q
  · split at q
    · rename_i hc
      cases q
      refine ha H0 F H σ ρ _ e r h1 _ fun v F1 H1 e1 r1 => ?_
      refine hb H0 F1 H1 σ ρ _ e1.s (r.ext e1) h2 _ fun u F2 H2 e2 r2 => ?_
      obtain ⟨p, xs, rfl, hp, rp⟩ := (r1.ext e2).lst e2.s
      obtain ⟨p2, ys, rfl, hp2, rp2⟩ := r2.lst e2.s
      refine ⟨p, p2, xs, ys, rfl, rfl, hp, hp2, by rw [rp.length, rp2.length]; exact cap_le hc, fun l hl => ?_⟩
      have x := Ext.own (o := .lst (xs ++ ys)) e2.s hl
      exact k _ _ _ _ ((e1.trans e2).trans x) ((e1.trans e2).h.back hl) (e2.s.back hl) upd_same (rp.append rp2)
    · cases q
  · cases q

/-! ### calls of built-ins, by values -/
inductive RepsB (W : Wd) (F H : Hp) : List V → List D → Prop
  | nil : RepsB W F H [] []
  | cons {v : V} {vs : List V} {d : D} {ds : List D} : RepB W F H v d → RepsB W F H vs ds → RepsB W F H (v :: vs) (d :: ds)
theorem RepsB.ext {F H F' H' : Hp} (e : Ext F H F' H') : ∀ {vs : List V} {ds : List D}, RepsB W F H vs ds → RepsB W F' H' vs ds
  | _, _, .nil => .nil
  | _, _, .cons h r => .cons (h.ext e) (RepsB.ext e r)
theorem Reps.bs {F H : Hp} : ∀ {vs : List V} {ds : List D}, Reps W F vs ds → RepsB W F H vs ds
  | _, _, .nil => .nil
  | _, _, .cons h r => .cons (.fr h) (Reps.bs r)
def SmAB (W : Wd) (t : TA) (m : MA) : Prop := ∀ (H0 F H : Hp) (σ : St) (ρ : Env) (ds : List D), Ex F H → EnvR W H0 F H σ ρ → m ρ = some ds →
  ∀ Q : List V → Hp → Prop, (∀ vs F' H', Ext F H F' H' → RepsB W F' H' vs ds → Q vs H') → t σ H Q
theorem SmA.b {t : TA} {m : MA} (h : SmA W t m) : SmAB W t m := fun H0 F H σ ρ ds e r q Q k => h H0 F H σ ρ ds e r q Q fun vs F' H' x g => k vs F' H' x g.bs
theorem smab_cons {te : TE} {t : TA} {a : ME} {b : MA} (ha : SmB W te a) (hb : SmAB W t b) : SmAB W (tCons te t) (aCons a b) := fun H0 F H σ ρ ds e r q Q k => by
  obtain ⟨x, h1, h2⟩ := Option.bind_eq_some_iff.mp q
  obtain ⟨xs, h3, rfl⟩ := Option.map_eq_some_iff.mp h2
  refine ha H0 F H σ ρ x e r h1 _ fun v F1 H1 e1 r1 => ?_
  refine hb H0 F1 H1 σ ρ xs e1.s (r.ext e1) h3 _ fun vs F2 H2 e2 r2 => ?_
  exact k _ F2 H2 (e1.trans e2) (.cons (r1.ext e2) r2)
def CallS (W : Wd) (r : List V → Hp → VK → Prop) (g : List D → Option D) : Prop := ∀ (F H : Hp) (vs : List V) (ds : List D) (d : D), Ex F H → RepsB W F H vs ds → g ds = some d →
  ∀ Q : VK, (∀ v F' H', Ext F H F' H' → Rep W F' v d → Q v H') → r vs H Q
def eCall (g : List D → Option D) (a : MA) : ME := fun ρ => (a ρ).bind g
theorem sm_cb {r : List V → Hp → VK → Prop} {g : List D → Option D} {t : TA} {a : MA} (hr : CallS W r g) (ha : SmAB W t a) : Sm W (tCB r t) (eCall g a) := fun H0 F H σ ρ d e r' q Q k => by
  obtain ⟨xs, h1, h2⟩ := Option.bind_eq_some_iff.mp q
  refine ha H0 F H σ ρ xs e r' h1 _ fun vs F1 H1 e1 r1 => ?_
  exact hr F1 H1 vs xs d e1.s r1 h2 Q fun v F2 H2 e2 r2 => k v F2 H2 (e1.trans e2) r2
/-- a method of a built-in type -/
def MtS (W : Wd) (T : String) (r : V → List V → Hp → VK → Prop) (g : D → List D → Option D) : Prop := ∀ (F H : Hp) (v : V) (a : D) (vs : List V) (ds : List D) (d : D), Ex F H → RepB W F H v a → RepsB W F H vs ds → g a ds = some d →
  ∀ Q : VK, (∀ v F' H', Ext F H F' H' → Rep W F' v d → Q v H') → r v vs H Q
def isTy (T : String) : D → Bool
  | .str _ => decide (T = "str")
  | .lst _ => decide (T = "list")
  | _ => false
def eMeth (T : String) (g : D → List D → Option D) (o : ME) (a : MA) : ME := fun ρ => (o ρ).bind fun x => if isTy T x = true then (a ρ).bind fun ys => g x ys else none
theorem sm_bm {T : String} {r : V → List V → Hp → VK → Prop} {g : D → List D → Option D} {to : TE} {t : TA} {o : ME} {a : MA} (hr : MtS W T r g) (ho : SmB W to o) (ha : SmAB W t a) : Sm W (tBM W.K T r to t) (eMeth T g o a) := fun H0 F H σ ρ d e r' q Q k => by
  obtain ⟨x, h1, h2⟩ := Option.bind_eq_some_iff.mp q
  split at h2
  · rename_i hT
    obtain ⟨ys, h3, h4⟩ := Option.bind_eq_some_iff.mp h2
    refine ho H0 F H σ ρ x e r' h1 _ fun v F1 H1 e1 r1 => ⟨?_, ?_⟩
    · cases x with
      | str s =>
        obtain rfl := r1.str
        exact (of_decide_eq_true hT : T = "str")
      | lst ds =>
        obtain ⟨p, xs, rfl, hp, _⟩ := r1.lst e1.s
        exact .inl ⟨of_decide_eq_true hT, xs, .inl (.inl hp)⟩
      | _ => cases hT
    · refine ha H0 F1 H1 σ ρ ys e1.s (r'.ext e1) h3 _ fun vs F2 H2 e2 r2 => ?_
      exact hr F2 H2 v x vs ys d e2.s (r1.ext e2) r2 h4 Q fun v F3 H3 e3 r3 => k v F3 H3 ((e1.trans e2).trans e3) r3
  · cases h2

/-! ### slices -/
def SmO (W : Wd) (t : TO) (m : Env → Option (Option Int)) : Prop := ∀ (H0 F H : Hp) (σ : St) (ρ : Env) (o : Option Int), Ex F H → EnvR W H0 F H σ ρ → m ρ = some o →
  ∀ Q : Option Int → Hp → Prop, (∀ F' H', Ext F H F' H' → Q o H') → t σ H Q
def oNone : Env → Option (Option Int) := fun _ => some none
def dI : D → Option Int
  | .int i => some i
  | _ => none
theorem dI_eq {d : D} {i : Int} (h : dI d = some i) : d = .int i := by
  cases d <;> simp only [dI] at h <;> cases h
  rfl
def oSome (a : ME) : Env → Option (Option Int) := fun ρ => (a ρ).bind fun d => (dI d).map some
theorem smo_none : SmO W tNoPart oNone := fun H0 F H σ ρ o e r q Q k => by
  cases q
  exact k F H (.refl e)
theorem smo_some {t : TE} {a : ME} (ha : Sm W t a) : SmO W (tPart t) (oSome a) := fun H0 F H σ ρ o e r q Q k => by
  obtain ⟨x, h1, h2⟩ := Option.bind_eq_some_iff.mp q
  obtain ⟨i, h3, rfl⟩ := Option.map_eq_some_iff.mp h2
  cases dI_eq h3
  refine ha H0 F H σ ρ _ e r h1 _ fun v F1 H1 e1 r1 => ?_
  cases r1
  exact ⟨i, rfl, k F1 H1 e1⟩
def cutD (xs : List D) (lo hi : Option Int) : List D := (xs.drop (HT.sIx xs.length 0 lo)).take (HT.sIx xs.length xs.length hi - HT.sIx xs.length 0 lo)
theorem cut_reps {F : Hp} {vs : List V} {ds : List D} (r : Reps W F vs ds) (lo hi : Option Int) : Reps W F (cutV vs lo hi) (cutD ds lo hi) := by
  unfold cutV cutD
  rw [r.length]
  exact (r.drop _).take _
def eSlT (a : ME) (l h : Env → Option (Option Int)) : ME := fun ρ => (a ρ).bind fun x => (l ρ).bind fun lo => (h ρ).bind fun hi => match x with
  | .tup ds => some (.tup (cutD ds lo hi))
  | _ => none
def eSlL (a : ME) (l h : Env → Option (Option Int)) : ME := fun ρ => (a ρ).bind fun x => (l ρ).bind fun lo => (h ρ).bind fun hi => match x with
  | .lst ds => some (.lst (cutD ds lo hi))
  | _ => none
theorem cutD_whole {ds : List D} {lo hi : Option Int} (h : HT.sIx ds.length 0 lo = 0 ∧ HT.sIx ds.length ds.length hi = ds.length) : cutD ds lo hi = ds := by
  unfold cutD
  rw [h.1, h.2]
  simp
theorem sm_slT {t : TE} {tl th : TO} {a : ME} {l h : Env → Option (Option Int)} (ha : Sm W t a) (hl : SmO W tl l) (hh : SmO W th h) : Sm W (tSl (rSlA W.K) t tl th) (eSlT a l h) := fun H0 F H σ ρ d e r q Q k => by
  obtain ⟨x, h1, q⟩ := Option.bind_eq_some_iff.mp q
  obtain ⟨lo, h2, q⟩ := Option.bind_eq_some_iff.mp q
  obtain ⟨hi, h3, q⟩ := Option.bind_eq_some_iff.mp q
  cases x with
  | tup ds =>
    cases q
    refine ha H0 F H σ ρ _ e r h1 _ fun v F1 H1 e1 r1 => ?_
    refine hl H0 F1 H1 σ ρ lo e1.s (r.ext e1) h2 _ fun F2 H2 e2 => ?_
    refine hh H0 F2 H2 σ ρ hi e2.s ((r.ext e1).ext e2) h3 _ fun F3 H3 e3 => ?_
    cases r1 with
    | @tup p xs _ hp rp =>
      have e23 := e2.trans e3
      refine ⟨p, xs, rfl, ex_t e3.s (ex_t e23.f hp), fun hw => ?_, fun hw p' hp' => ?_⟩
      · rw [rp.length] at hw
        rw [cutD_whole hw] at k
        exact k _ F3 H3 (e1.trans e23) (.tup (ex_t e23.f hp) (rp.mono e23.f))
      · have x := Ext.new (o := .tup (cutV xs lo hi)) e3.s hp'
        exact k _ _ _ ((e1.trans e23).trans x) (.tup (.inl (.inl upd_same)) (Reps.mono x.f (cut_reps (rp.mono e23.f) lo hi)))
  | _ => cases q
theorem sm_slL {t : TE} {tl th : TO} {a : ME} {l h : Env → Option (Option Int)} (ha : Sm W t a) (hl : SmO W tl l) (hh : SmO W th h) : Sm W (tSl (rSlL W.K) t tl th) (eSlL a l h) := fun H0 F H σ ρ d e r q Q k => by
  obtain ⟨x, h1, q⟩ := Option.bind_eq_some_iff.mp q
  obtain ⟨lo, h2, q⟩ := Option.bind_eq_some_iff.mp q
  obtain ⟨hi, h3, q⟩ := Option.bind_eq_some_iff.mp q
  cases x with
  | lst ds =>
    cases q
    refine ha H0 F H σ ρ _ e r h1 _ fun v F1 H1 e1 r1 => ?_
    refine hl H0 F1 H1 σ ρ lo e1.s (r.ext e1) h2 _ fun F2 H2 e2 => ?_
    refine hh H0 F2 H2 σ ρ hi e2.s ((r.ext e1).ext e2) h3 _ fun F3 H3 e3 => ?_
    cases r1 with
    | @lst p xs _ hp rp =>
      have e23 := e2.trans e3
      refine ⟨p, xs, rfl, .inl (.inl (e3.s _ _ (e23.f _ _ hp))), fun p' hp' => ?_⟩
      have x := Ext.new (o := .lst (cutV xs lo hi)) e3.s hp'
      exact k _ _ _ ((e1.trans e23).trans x) (.lst upd_same (Reps.mono x.f (cut_reps (rp.mono e23.f) lo hi)))
  | _ => cases q
end
end CP
/-! part CpD -/
set_option Elab.async false
set_option linter.all false
set_option maxRecDepth 100000
set_option maxHeartbeats 4000000
namespace CP
open PySem L2
section
variable {W : Wd}
/-! ### slots -/
def setFr (i : Nat) (d : D) (ρ : Env) : Env := ρ.set i (some (.fr d))
def setOw (i : Nat) (ds : List D) (ρ : Env) : Env := ρ.set i (some (.ow ds))
theorem set_get {α : Type} {l : List α} {i j : Nat} {a b : α} (h : (l.set i a)[j]? = some b) : (i = j ∧ b = a ∧ i < l.length) ∨ (i ≠ j ∧ l[j]? = some b) := by
  by_cases e : i = j
  · subst e
    have hl : i < l.length := by
      by_cases q : i < l.length
      · exact q
      · rw [List.getElem?_eq_none (by simpa using q)] at h
        cases h
    rw [List.getElem?_set_self hl] at h
    exact .inl ⟨rfl, (Option.some.inj h).symm, hl⟩
  · rw [List.getElem?_set_ne e] at h
    exact .inr ⟨e, h⟩
theorem EnvR.setFr {H0 F H : Hp} {σ : St} {ρ : Env} {i : Nat} {v : V} {d : D} (r : EnvR W H0 F H σ ρ) (g : Rep W F v d) : EnvR W H0 F H (σ.set i (some v)) (CP.setFr i d ρ) := by
  unfold CP.setFr
  refine ⟨by rw [List.length_set, List.length_set]; exact r.len, fun j e h => ?_, fun j ds h => ?_, fun j l ds es p h1 h2 h3 h4 => ?_⟩
  · rcases set_get h with ⟨rfl, h1, hl⟩ | ⟨ne, h1⟩
    · cases h1
      exact ⟨v, by rw [List.getElem?_set_self (by rw [r.len]; exact hl)], g⟩
    · obtain ⟨u, h2, h3⟩ := r.fr j e h1
      exact ⟨u, by rw [List.getElem?_set_ne ne]; exact h2, h3⟩
  · rcases set_get h with ⟨rfl, h1, hl⟩ | ⟨ne, h1⟩
    · cases h1
    · obtain ⟨p, xs, h2, h3⟩ := r.ow j ds h1
      exact ⟨p, xs, by rw [List.getElem?_set_ne ne]; exact h2, h3⟩
  · rcases set_get h1 with ⟨rfl, q, _⟩ | ⟨ne1, q1⟩
    · cases q
    · rcases set_get h2 with ⟨rfl, q, _⟩ | ⟨ne2, q2⟩
      · cases q
      · rw [List.getElem?_set_ne ne1] at h3
        rw [List.getElem?_set_ne ne2] at h4
        exact r.ne j l ds es p q1 q2 h3 h4
/-- a list that is none's yet becomes one's own -/
theorem EnvR.setOw {H0 F H : Hp} {σ : St} {ρ : Env} {i : Nat} {p : Addr} {xs : List V} {ds : List D} (r : EnvR W H0 F H σ ρ) (h1 : H p = some (.lst xs)) (h2 : F p = none) (h0 : H0 p = none) (g : Reps W F xs ds)
    (hn : ∀ j es, j ≠ i → ρ[j]? = some (some (.ow es)) → σ[j]? ≠ some (some (.ref p))) : EnvR W H0 F H (σ.set i (some (.ref p))) (CP.setOw i ds ρ) := by
  unfold CP.setOw
  refine ⟨by rw [List.length_set, List.length_set]; exact r.len, fun j e h => ?_, fun j es h => ?_, fun j l es fs q h3 h4 h5 h6 => ?_⟩
  · rcases set_get h with ⟨rfl, q, hl⟩ | ⟨ne, q⟩
    · cases q
    · obtain ⟨u, h2, h3⟩ := r.fr j e q
      exact ⟨u, by rw [List.getElem?_set_ne ne]; exact h2, h3⟩
  · rcases set_get h with ⟨rfl, q, hl⟩ | ⟨ne, q⟩
    · cases q
      exact ⟨p, xs, by rw [List.getElem?_set_self (by rw [r.len]; exact hl)], h1, h2, h0, g⟩
    · obtain ⟨p, xs, h2, h3⟩ := r.ow j es q
      exact ⟨p, xs, by rw [List.getElem?_set_ne ne]; exact h2, h3⟩
  · rcases set_get h3 with ⟨rfl, q1, hl1⟩ | ⟨ne1, q1⟩
    · rcases set_get h4 with ⟨rfl, q2, _⟩ | ⟨ne2, q2⟩
      · rfl
      · rw [List.getElem?_set_self (by rw [r.len]; exact hl1)] at h5
        rw [List.getElem?_set_ne ne2] at h6
        cases h5
        exact absurd h6 (hn l fs (Ne.symm ne2) q2)
    · rcases set_get h4 with ⟨rfl, q2, hl2⟩ | ⟨ne2, q2⟩
      · rw [List.getElem?_set_self (by rw [r.len]; exact hl2)] at h6
        rw [List.getElem?_set_ne ne1] at h5
        cases h6
        exact absurd h5 (hn j es (Ne.symm ne1) q1)
      · rw [List.getElem?_set_ne ne1] at h5
        rw [List.getElem?_set_ne ne2] at h6
        exact r.ne j l es fs q q1 q2 h5 h6
/-- one's own list changes -/
theorem EnvR.write {H0 F H : Hp} {σ : St} {ρ : Env} {i : Nat} {p : Addr} {xs : List V} {ds es : List D} (r : EnvR W H0 F H σ ρ) (hρ : ρ[i]? = some (some (.ow es))) (hσ : σ[i]? = some (some (.ref p))) (g : Reps W F xs ds) :
    EnvR W H0 F (upd H p (.lst xs)) σ (CP.setOw i ds ρ) := by
  obtain ⟨p', ys, h1, h2, h3, h0, h4⟩ := r.ow i es hρ
  rw [hσ] at h1
  cases h1
  unfold CP.setOw
  refine ⟨by rw [List.length_set]; exact r.len, fun j e h => ?_, fun j fs h => ?_, fun j l es' fs' q h5 h6 h7 h8 => ?_⟩
  · rcases set_get h with ⟨rfl, q, hl⟩ | ⟨ne, q⟩
    · cases q
    · exact r.fr j e q
  · rcases set_get h with ⟨rfl, q, hl⟩ | ⟨ne, q⟩
    · cases q
      exact ⟨p, xs, hσ, upd_same, h3, h0, g⟩
    · obtain ⟨p2, zs, g1, g2, g3, g0, g4⟩ := r.ow j fs q
      have hne : p2 ≠ p := fun e => by
        subst e
        exact ne (r.ne i j _ _ _ hρ q hσ g1)
      exact ⟨p2, zs, g1, by rw [upd_ne hne]; exact g2, g3, g0, g4⟩
  · have look : ∀ {j : Nat} {es' : List D}, (ρ.set i (some (EV.ow ds)))[j]? = some (some (.ow es')) → ∃ es'', ρ[j]? = some (some (.ow es'')) := fun {j es'} h => by
      rcases set_get h with ⟨rfl, q, hl⟩ | ⟨ne, q⟩
      · exact ⟨es, hρ⟩
      · exact ⟨_, q⟩
    obtain ⟨a, ha⟩ := look h5
    obtain ⟨b, hb⟩ := look h6
    exact r.ne j l a b q ha hb h7 h8
/-- forgetting -/
theorem EnvR.weak {H0 F H : Hp} {σ : St} {ρ ρ' : Env} (r : EnvR W H0 F H σ ρ) (hl : ρ'.length = ρ.length) (h : ∀ (i : Nat) (e : EV), ρ'[i]? = some (some e) → ρ[i]? = some (some e)) : EnvR W H0 F H σ ρ' :=
  ⟨r.len.trans hl.symm, fun i d q => r.fr i d (h i _ q), fun i ds q => r.ow i ds (h i _ q), fun i j ds es p a b => r.ne i j ds es p (h i _ a) (h j _ b)⟩
/-- one's own list is fixed from now on -/
def freeze (i : Nat) (ρ : Env) : Env := match ρ[i]? with
  | some (some (.ow ds)) => ρ.set i (some (.fr (.lst ds)))
  | _ => ρ
theorem EnvR.freeze {H0 F0 F H : Hp} {σ : St} {ρ : Env} (r : EnvR W H0 F H σ ρ) (e : Ext F0 H0 F H) (i : Nat) : ∃ F', Ext F0 H0 F' H ∧ Ex F F' ∧ EnvR W H0 F' H σ (CP.freeze i ρ) := by
  unfold CP.freeze
  split
  · rename_i ds h
    obtain ⟨p, xs, h1, h2, h3, h0, h4⟩ := r.ow i ds h
    have ef : Ex F (upd F p (.lst xs)) := .new h3
    refine ⟨upd F p (.lst xs), ⟨e.f.trans ef, e.h, fun a o q => ?_, fun a o q n => ?_⟩, ef, ?_⟩
    · by_cases ha : a = p
      · subst ha
        rw [upd_same] at q
        cases q
        exact h2
      · rw [upd_ne ha] at q
        exact e.s a o q
    · rw [upd_ne (ne_of_none q h0)]
      exact e.u a o q n
    · refine ⟨by rw [List.length_set]; exact r.len, fun j d q => ?_, fun j es q => ?_, fun j l es fs q g1 g2 g3 g4 => ?_⟩
      · rcases set_get q with ⟨rfl, q1, hl⟩ | ⟨ne, q1⟩
        · cases q1
          exact ⟨_, h1, .lst upd_same (h4.mono ef)⟩
        · obtain ⟨v, a, b⟩ := r.fr j d q1
          exact ⟨v, a, b.mono ef⟩
      · rcases set_get q with ⟨rfl, q1, hl⟩ | ⟨ne, q1⟩
        · cases q1
        · obtain ⟨p2, zs, g1, g2, g3, g0, g4⟩ := r.ow j es q1
          have hne : p2 ≠ p := fun e => by
            subst e
            exact ne (r.ne i j _ _ _ h q1 h1 g1)
          exact ⟨p2, zs, g1, g2, by rw [upd_ne hne]; exact g3, g0, g4.mono ef⟩
      · rcases set_get g1 with ⟨rfl, q1, hl⟩ | ⟨ne1, q1⟩
        · cases q1
        · rcases set_get g2 with ⟨rfl, q2, hl⟩ | ⟨ne2, q2⟩
          · cases q2
          · exact r.ne j l es fs q q1 q2 g3 g4
  · exact ⟨F, e, .refl F, r⟩

/-! ### statements -/
inductive Res where
  | nx (ρ : Env) | rt (d : D) | bk (ρ : Env) | ct (ρ : Env)
abbrev MS := Env → Option Res
def Goes (W : Wd) (F0 H0 : Hp) (P : St → Hp → Prop) (ρ : Env) : Prop := ∀ σ F H, Ext F0 H0 F H → EnvR W H0 F H σ ρ → P σ H
def Cont (W : Wd) (F0 H0 : Hp) (Dd : Ends) : Res → Prop
  | .nx ρ => Goes W F0 H0 Dd.nx ρ
  | .bk ρ => Goes W F0 H0 Dd.bk ρ
  | .ct ρ => Goes W F0 H0 Dd.ct ρ
  | .rt d => ∀ v F H, Ext F0 H0 F H → Rep W F v d → Dd.rt v H
def SmS (W : Wd) (t : TS) (m : MS) : Prop := ∀ (F0 H0 F H : Hp) (σ : St) (ρ : Env) (r : Res), Ext F0 H0 F H → EnvR W H0 F H σ ρ → m ρ = some r →
  ∀ Dd : Ends, Cont W F0 H0 Dd r → t Dd σ H
def sNext : MS := fun ρ => some (.nx ρ)
def sSeq (a b : MS) : MS := fun ρ => (a ρ).bind fun r => match r with
  | .nx ρ' => b ρ'
  | r => some r
theorem sms_next : SmS W tNext sNext := fun F0 H0 F H σ ρ r e g q Dd k => by
  cases q
  exact k σ F H e g
theorem sms_seq {t u : TS} {a b : MS} (ha : SmS W t a) (hb : SmS W u b) : SmS W (tSeq t u) (sSeq a b) := fun F0 H0 F H σ ρ r e g q Dd k => by
  obtain ⟨r1, h1, h2⟩ := Option.bind_eq_some_iff.mp q
  refine ha F0 H0 F H σ ρ r1 e g h1 { Dd with nx := u Dd } ?_
  cases r1 with
  | nx ρ' => exact fun σ' F' H' e' g' => hb F0 H0 F' H' σ' ρ' r e' g' h2 Dd k
  | rt d =>
    cases h2
    exact k
  | bk ρ' =>
    cases h2
    exact k
  | ct ρ' =>
    cases h2
    exact k
theorem sms_freeze {t : TS} {m : MS} (i : Nat) (h : SmS W t m) : SmS W t (fun ρ => m (freeze i ρ)) := fun F0 H0 F H σ ρ r e g q Dd k => by
  obtain ⟨F', e', _, g'⟩ := g.freeze e i
  exact h F0 H0 F' H σ _ r e' g' q Dd k
def sBreak : MS := fun ρ => some (.bk ρ)
theorem sms_break : SmS W tBreak sBreak := fun F0 H0 F H σ ρ r e g q Dd k => by
  cases q
  exact k σ F H e g
/-- what never comes -/
def sNever : MS := fun _ => none
theorem sms_never {t : TS} : SmS W t sNever := fun F0 H0 F H σ ρ r e g q => by cases q
def sRet (a : ME) : MS := fun ρ => (a ρ).map .rt
theorem sms_ret {t : TE} {a : ME} (h : Sm W t a) : SmS W (tRet t) (sRet a) := fun F0 H0 F H σ ρ r e g q Dd k => by
  obtain ⟨d, h1, rfl⟩ := Option.map_eq_some_iff.mp q
  exact h H0 F H σ ρ d e.s g h1 _ fun v F1 H1 e1 r1 => k v F1 H1 (e.trans e1) r1
def sIf (c : MT) (a b : MS) : MS := fun ρ => (c ρ).bind fun x => if x = true then a ρ else b ρ
theorem sms_if {c : TT} {t u : TS} {m : MT} {a b : MS} (hc : SmT W c m) (ha : SmS W t a) (hb : SmS W u b) : SmS W (tIfS c t u) (sIf m a b) := fun F0 H0 F H σ ρ r e g q Dd k => by
  obtain ⟨x, h1, h2⟩ := Option.bind_eq_some_iff.mp q
  refine hc H0 F H σ ρ x e.s g h1 _ fun F1 H1 e1 => ?_
  cases x with
  | true => exact ha F0 H0 F1 H1 σ ρ r (e.trans e1) (g.ext e1) h2 Dd k
  | false => exact hb F0 H0 F1 H1 σ ρ r (e.trans e1) (g.ext e1) h2 Dd k
def sDrop (a : ME) : MS := fun ρ => (a ρ).map fun _ => .nx ρ
theorem sms_drop {t : TE} {a : ME} (h : Sm W t a) : SmS W (tDrop t) (sDrop a) := fun F0 H0 F H σ ρ r e g q Dd k => by
  obtain ⟨d, h1, rfl⟩ := Option.map_eq_some_iff.mp q
  exact h H0 F H σ ρ d e.s g h1 _ fun v F1 H1 e1 r1 => k σ F1 H1 (e.trans e1) (g.ext e1)
/-! targets -/
def TgS (W : Wd) (g : TG) (js : List Nat) (f : D → Env → Option Env) : Prop := ∀ (H0 F H : Hp) (σ : St) (ρ ρ' : Env) (v : V) (d : D), Ex F H → EnvR W H0 F H σ ρ → Rep W F v d → f d ρ = some ρ' →
  ∀ Q : St → Hp → Prop, (∀ σ', EnvR W H0 F H σ' ρ' → (∀ vs : List Nat, (∀ j ∈ js, j ∈ vs) → wipe σ' vs = wipe σ vs) → Q σ' H) → g v σ H Q
def TgsS (W : Wd) (g : TGs) (js : List Nat) (f : List D → Env → Option Env) : Prop := ∀ (H0 F H : Hp) (σ : St) (ρ ρ' : Env) (vs : List V) (ds : List D), Ex F H → EnvR W H0 F H σ ρ → Reps W F vs ds → f ds ρ = some ρ' →
  ∀ Q : St → Hp → Prop, (∀ σ', EnvR W H0 F H σ' ρ' → (∀ ws : List Nat, (∀ j ∈ js, j ∈ ws) → wipe σ' ws = wipe σ ws) → Q σ' H) → g vs σ H Q
theorem wipe_set {σ : St} {i : Nat} {x : Option V} : ∀ {vs : List Nat}, i ∈ vs → wipe (σ.set i x) vs = wipe σ vs
  | [], h => nomatch h
  | v :: vs, h => by
    unfold wipe
    by_cases hi : i ∈ vs
    · rw [wipe_set hi]
    · have hv : i = v := by
        rcases List.mem_cons.mp h with h | h
        · exact h
        · exact absurd h hi
      subst hv
      have : ∀ {ws : List Nat}, i ∉ ws → wipe (σ.set i x) ws = (wipe σ ws).set i x := by
        intro ws
        induction ws with
        | nil => intro _; rfl
        | cons w ws ih =>
          intro hw
          unfold wipe
          rw [ih fun q => hw (List.mem_cons_of_mem _ q), List.set_comm]
          intro e
          exact hw (e ▸ List.mem_cons_self)
      rw [this hi, List.set_set]
theorem wipe_wipe (σ : St) : ∀ (us vs : List Nat), (∀ j ∈ us, j ∈ vs) → wipe (wipe σ us) vs = wipe σ vs
  | [], _, _ => rfl
  | u :: us, vs, h => by
    show wipe ((wipe σ us).set u none) vs = wipe σ vs
    rw [wipe_set (h u List.mem_cons_self), wipe_wipe σ us vs fun j q => h j (List.mem_cons_of_mem _ q)]
def gN (i : Nat) : D → Env → Option Env := fun d ρ => some (setFr i d ρ)
theorem tgs_name {i : Nat} : TgS W (gName i) [i] (gN i) := fun H0 F H σ ρ ρ' v d e r g q Q k => by
  cases q
  exact k _ (r.setFr g) fun vs h => wipe_set (h i List.mem_cons_self)
def gTp (f : List D → Env → Option Env) (n : Nat) : D → Env → Option Env := fun d ρ => match d with
  | .tup ds => if Nat.beq ds.length n = true then f ds ρ else none
  | _ => none
theorem tgs_tup {n : Nat} {g : TGs} {js : List Nat} {f : List D → Env → Option Env} (h : TgsS W g js f) : TgS W (gTup W.K n g) js (gTp f n) := fun H0 F H σ ρ ρ' v d e r x q Q k => by
  cases x with
  | @tup a xs ds hp rp =>
    simp only [gTp] at q
    split at q
    · rename_i hn
      exact ⟨a, xs, rfl, ex_t e hp, by rw [rp.length]; exact Nat.eq_of_beq_eq_true hn, h H0 F H σ ρ ρ' xs ds e r rp q Q k⟩
    · cases q
  | _ => cases q
def gNil0 : List D → Env → Option Env := fun ds ρ => if ds.isEmpty = true then some ρ else none
def gCons0 (f : D → Env → Option Env) (fs : List D → Env → Option Env) : List D → Env → Option Env := fun ds ρ => match ds with
  | d :: ds => (f d ρ).bind fun ρ' => fs ds ρ'
  | [] => none
theorem tgss_nil : TgsS W gNil [] gNil0 := fun H0 F H σ ρ ρ' vs ds e r x q Q k => by
  cases x with
  | nil =>
    cases q
    exact ⟨rfl, k σ r fun _ _ => rfl⟩
  | cons _ _ => cases q
theorem tgss_cons {g : TG} {gs : TGs} {j js : List Nat} {f : D → Env → Option Env} {fs : List D → Env → Option Env} (h : TgS W g j f) (hs : TgsS W gs js fs) : TgsS W (gCons g gs) (j ++ js) (gCons0 f fs) := fun H0 F H σ ρ ρ' vs ds e r x q Q k => by
  cases x with
  | nil => cases q
  | cons x1 x2 =>
    obtain ⟨ρ1, h1, h2⟩ := Option.bind_eq_some_iff.mp q
    refine ⟨_, _, rfl, h H0 F H σ ρ ρ1 _ _ e r x1 h1 _ fun σ1 r1 w1 => ?_⟩
    exact hs H0 F H σ1 ρ1 ρ' _ _ e r1 x2 h2 Q fun σ2 r2 w2 => k σ2 r2 fun vs hv =>
      (w2 vs fun l hl => hv l (List.mem_append_right _ hl)).trans (w1 vs fun l hl => hv l (List.mem_append_left _ hl))
def sAsg (a : ME) (f : D → Env → Option Env) : MS := fun ρ => (a ρ).bind fun d => (f d ρ).map .nx
theorem sms_asg {t : TE} {a : ME} {g : TG} {js : List Nat} {f : D → Env → Option Env} (h : Sm W t a) (hg : TgS W g js f) : SmS W (tAsg t g) (sAsg a f) := fun F0 H0 F H σ ρ r e g' q Dd k => by
  obtain ⟨d, h1, h2⟩ := Option.bind_eq_some_iff.mp q
  obtain ⟨ρ', h3, rfl⟩ := Option.map_eq_some_iff.mp h2
  refine h H0 F H σ ρ d e.s g' h1 _ fun v F1 H1 e1 r1 => ?_
  exact hg H0 F1 H1 σ ρ ρ' v d e1.s (g'.ext e1) r1 h3 _ fun σ' g2 _ => k σ' F1 H1 (e.trans e1) g2
/-- a name of one's own gets a new list -/
def sAsgO (i : Nat) (a : MA) : MS := fun ρ => (a ρ).map fun ds => .nx (setOw i ds ρ)
theorem sms_asgO {t : TE} {a : MA} {i : Nat} (h : SmL W t a) : SmS W (tAsg t (gName i)) (sAsgO i a) := fun F0 H0 F H σ ρ r e g q Dd k => by
  obtain ⟨ds, h1, rfl⟩ := Option.map_eq_some_iff.mp q
  refine h H0 F H σ ρ ds e.s g h1 _ fun p vs F1 H1 e1 hn hf hp rp => ?_
  refine k _ F1 H1 (e.trans e1) ((g.ext e1).setOw hp hf (e.h.back hn) rp fun j es _ hj hs => ?_)
  obtain ⟨p', xs, h2, h3, _⟩ := g.ow j es hj
  rw [h2] at hs
  cases hs
  rw [hn] at h3
  cases h3
/-- x += e, ints -/
def sAugI (i : Nat) (f : Int → Int → Int) (a : ME) : MS := fun ρ => (getFr ρ i).bind fun x => (dI x).bind fun n => (a ρ).bind fun y => (dI y).map fun m => .nx (setFr i (.int (f n m)) ρ)
theorem sms_aug {t : TE} {a : ME} {i : Nat} {f : Int → Int → Int} (h : Sm W t a) : SmS W (tAug i t (ipI f)) (sAugI i f a) := fun F0 H0 F H σ ρ r e g q Dd k => by
  obtain ⟨x, h1, q⟩ := Option.bind_eq_some_iff.mp q
  obtain ⟨n, h2, q⟩ := Option.bind_eq_some_iff.mp q
  obtain ⟨y, h3, q⟩ := Option.bind_eq_some_iff.mp q
  obtain ⟨m, h4, rfl⟩ := Option.map_eq_some_iff.mp q
  cases dI_eq h2
  cases dI_eq h4
  obtain ⟨v, g1, g2⟩ := g.fr i _ (getFr_eq h1)
  cases g2
  refine ⟨_, g1, h H0 F H σ ρ _ e.s g h3 _ fun u F1 H1 e1 r1 => ?_⟩
  cases r1
  exact ⟨n, m, rfl, rfl, k _ F1 H1 (e.trans e1) ((g.ext e1).setFr (.int _))⟩
/-- x.append(e), x one's own -/
def sApp (i : Nat) (a : ME) : MS := fun ρ => (a ρ).bind fun d => match ρ[i]? with
  | some (some (.ow ds)) => if cap ds.length = true then some (.nx (setOw i (ds ++ [d]) ρ)) else none
  | _ => none
theorem Ext.wr {F0 H0 F H : Hp} {p : Addr} {o u : HO} (e : Ext F0 H0 F H) (h0 : H0 p = none) (hf : F p = none) : Ext F0 H0 F (upd H p o) :=
  ⟨e.f, fun a x q => by rw [upd_ne (ne_of_none q h0)]; exact e.h a x q, fun a x q => by rw [upd_ne (ne_of_none q hf)]; exact e.s a x q, e.u⟩
theorem sms_app {t : TE} {a : ME} {i : Nat} (h : Sm W t a) : SmS W (tDrop (tBM W.K "list" rAppend (tVar i) (tCons t tNil))) (sApp i a) := fun F0 H0 F H σ ρ r e g q Dd k => by
  obtain ⟨d, h1, q⟩ := Option.bind_eq_some_iff.mp q
  split at q
  · rename_i ds hρ
    split at q
    · rename_i hc
      cases q
      obtain ⟨p, xs, g1, g2, g3, g0, g4⟩ := g.ow i ds hρ
      refine ⟨_, g1, .inl ⟨rfl, xs, .inl (.inl g2)⟩, ?_⟩
      refine h H0 F H σ ρ d e.s g h1 _ fun v F1 H1 e1 r1 => ?_
      refine ⟨p, xs, v, rfl, rfl, e1.h _ _ g2, by rw [g4.length]; exact cap_lt hc, ?_⟩
      have hF := e1.u _ _ g2 g3
      exact k σ F1 _ (Ext.wr (u := .lst xs) (e.trans e1) g0 hF) ((g.ext e1).write hρ g1 ((g4.mono e1.f).append (.cons r1 .nil)))
    · cases q
  · cases q
/-- x.extend(ys), x one's own -/
def sExtend (i : Nat) (a : ME) : MS := fun ρ => (a ρ).bind fun d => match d, ρ[i]? with
  | .lst es, some (some (.ow ds)) => if cap (ds.length + es.length) = true then some (.nx (setOw i (ds ++ es) ρ)) else none
  | _, _ => none
theorem sms_extend {t : TE} {a : ME} {i : Nat} (h : Sm W t a) : SmS W (tDrop (tBM W.K "list" rExtend (tVar i) (tCons t tNil))) (sExtend i a) := fun F0 H0 F H σ ρ r e g q Dd k => by
  obtain ⟨d, h1, q⟩ := Option.bind_eq_some_iff.mp q
  split at q
  · rename_i es ds hρ
    split at q
    · rename_i hc
      cases q
      obtain ⟨p, xs, g1, g2, g3, g0, g4⟩ := g.ow i ds hρ
      refine ⟨_, g1, .inl ⟨rfl, xs, .inl (.inl g2)⟩, ?_⟩
      refine h H0 F H σ ρ _ e.s g h1 _ fun v F1 H1 e1 r1 => ?_
      cases r1 with
      | @lst b zs _ hb rb =>
        refine ⟨p, b, xs, zs, rfl, rfl, e1.h _ _ g2, e1.s _ _ hb, by rw [g4.length, rb.length]; exact cap_le hc, ?_⟩
        have hF := e1.u _ _ g2 g3
        exact k σ F1 _ (Ext.wr (u := .lst xs) (e.trans e1) g0 hF) ((g.ext e1).write hρ g1 ((g4.mono e1.f).append rb))
    · cases q
  · cases q
/-- x[j] = e, x one's own -/
def sSetIx (i : Nat) (j : ME) (a : ME) : MS := fun ρ => (a ρ).bind fun d => (j ρ).bind fun x => (dI x).bind fun n => match ρ[i]? with
  | some (some (.ow ds)) => (ixN ds.length n).map fun l => .nx (setOw i (ds.set l d) ρ)
  | _ => none
theorem sms_setIx {t tj : TE} {a j : ME} {i : Nat} (h : Sm W t a) (hj : Sm W tj j) : SmS W (tAsg t (gSub (tVar i) tj rSetL)) (sSetIx i j a) := fun F0 H0 F H σ ρ r e g q Dd k => by
  obtain ⟨d, h1, q⟩ := Option.bind_eq_some_iff.mp q
  obtain ⟨x, h2, q⟩ := Option.bind_eq_some_iff.mp q
  obtain ⟨n, h3, q⟩ := Option.bind_eq_some_iff.mp q
  split at q
  · rename_i ds hρ
    obtain ⟨l, h4, rfl⟩ := Option.map_eq_some_iff.mp q
    cases dI_eq h3
    obtain ⟨p, xs, g1, g2, g3, g0, g4⟩ := g.ow i ds hρ
    refine h H0 F H σ ρ d e.s g h1 _ fun v F1 H1 e1 r1 => ?_
    refine ⟨_, g1, ?_⟩
    refine hj H0 F1 H1 σ ρ _ e1.s (g.ext e1) h2 _ fun u F2 H2 e2 r2 => ?_
    cases r2
    have e12 := e1.trans e2
    refine ⟨p, xs, n, l, rfl, rfl, e12.h _ _ g2, by rw [g4.length]; exact h4, ?_⟩
    have hF := e12.u _ _ g2 g3
    exact k σ F2 _ (Ext.wr (u := .lst xs) (e.trans e12) g0 hF) ((g.ext e12).write hρ g1 ((g4.mono e12.f).set (r1.mono e2.f) l))
  · cases q

/-! ### what is walked -/
def ItD (W : Wd) (J : It) (F1 : Hp) (ds : List D) : Prop := ∀ F' H', Ex F1 F' → Ex F' H' →
  (∀ i, i < ds.length → J.go i H') ∧ J.stop ds.length H' ∧ ∀ i x H'', i < ds.length → J.yld i H' x H'' → ∃ F'' d, Ext F' H' F'' H'' ∧ ds[i]? = some d ∧ Rep W F'' x d
def SmI (W : Wd) (wi : TI) (m : MA) : Prop := ∀ (H0 F H : Hp) (σ : St) (ρ : Env) (ds : List D), Ex F H → EnvR W H0 F H σ ρ → m ρ = some ds →
  ∀ R : It → Hp → Prop, (∀ J F1 H1, Ext F H F1 H1 → ItD W J F1 ds → R J H1) → wi σ H R
theorem Ext.same {F0 H0 F H : Hp} (e : Ext F0 H0 F H) : Ext F H0 F H := ⟨.refl F, e.h, e.s, fun _ _ _ n => n⟩
theorem Ext.via {F0 H0 F H F2 H2 : Hp} (e : Ext F0 H0 F H) (g : Ext F H0 F2 H2) : Ext F0 H0 F2 H2 := ⟨e.f.trans g.f, g.h, g.s, fun a o q n => g.u a o q (e.u a o q n)⟩
def mFor (f : D → Env → Option Env) (b : MS) : List D → Env → Option Res
  | [], ρ => some (.nx ρ)
  | d :: ds, ρ => (f d ρ).bind fun ρ1 => (b ρ1).bind fun r => match r with
    | .nx ρ2 => mFor f b ds ρ2
    | .ct ρ2 => mFor f b ds ρ2
    | .bk ρ2 => some (.nx ρ2)
    | .rt d => some (.rt d)
def sFor (m : MA) (f : D → Env → Option Env) (b : MS) : MS := fun ρ => (m ρ).bind fun ds => mFor f b ds ρ
theorem drop_some {α : Type} {l : List α} {i : Nat} {a : α} (h : l[i]? = some a) : l.drop i = a :: l.drop (i + 1) := by
  obtain ⟨hl, rfl⟩ := List.getElem?_eq_some_iff.mp h
  exact List.drop_eq_getElem_cons hl
theorem sms_for {wi : TI} {g : TG} {tb : TS} {m : MA} {js : List Nat} {f : D → Env → Option Env} {b : MS} (hi : SmI W wi m) (hg : TgS W g js f) (hb : SmS W tb b) : SmS W (tFor wi g tb) (sFor m f b) := fun F0 H0 F H σ ρ r e g' q Dd k => by
  obtain ⟨ds, h1, h2⟩ := Option.bind_eq_some_iff.mp q
  refine hi H0 F H σ ρ ds e.s g' h1 _ fun J F1 H1 e1 it => ?_
  refine ⟨fun i n σ' H' => n = ds.length - i ∧ i ≤ ds.length ∧ ∃ F' ρ', Ext F0 H0 F' H' ∧ Ex F1 F' ∧ EnvR W H0 F' H' σ' ρ' ∧ mFor f b (ds.drop i) ρ' = some r,
    ⟨ds.length, by simp, Nat.zero_le _, F1, ρ, e.trans e1, .refl F1, g'.ext e1, by rw [List.drop_zero]; exact h2⟩, ?_⟩
  rintro i n σ' H' ⟨rfl, hin, F', ρ', e2, ef, g2, h3⟩
  obtain ⟨go, stop, yl⟩ := it F' H' ef e2.s
  by_cases hlt : i < ds.length
  · have hd : ds[i]? = some ds[i] := List.getElem?_eq_getElem hlt
    rw [drop_some hd] at h3
    simp only [mFor] at h3
    obtain ⟨ρ1, h4, h5⟩ := Option.bind_eq_some_iff.mp h3
    obtain ⟨r1, h6, h7⟩ := Option.bind_eq_some_iff.mp h5
    refine .inr ⟨go i hlt, fun σ2 H2 => i + 1 ≤ ds.length ∧ ∃ F2 ρ2, Ext F0 H0 F2 H2 ∧ Ex F1 F2 ∧ EnvR W H0 F2 H2 σ2 ρ2 ∧ mFor f b (ds.drop (i + 1)) ρ2 = some r, ?_, ?_⟩
    · rintro σ2 H2 ⟨hl, z⟩
      exact ⟨ds.length - (i + 1), by omega, rfl, hl, z⟩
    · intro x H'' y
      obtain ⟨F'', d, e3, h8, r8⟩ := yl i x H'' hlt y
      rw [hd] at h8
      cases h8
      refine hg H0 F'' H'' σ' ρ' ρ1 x _ e3.s (g2.ext e3) r8 h4 _ fun σ3 g3 _ => ?_
      have ef2 := ef.trans e3.f
      have e4 := e2.trans e3
      refine hb F'' H0 F'' H'' σ3 ρ1 r1 e4.same g3 h6 _ ?_
      cases r1 with
      | nx ρ2 => exact fun σ4 F4 H4 e5 g5 => ⟨hlt, F4, ρ2, e4.via e5, ef2.trans e5.f, g5, h7⟩
      | ct ρ2 => exact fun σ4 F4 H4 e5 g5 => ⟨hlt, F4, ρ2, e4.via e5, ef2.trans e5.f, g5, h7⟩
      | bk ρ2 =>
        cases h7
        exact fun σ4 F4 H4 e5 g5 => k σ4 F4 H4 (e4.via e5) g5
      | rt d =>
        cases h7
        exact fun v F4 H4 e5 r5 => k v F4 H4 (e4.via e5) r5
  · have ei : i = ds.length := by omega
    subst ei
    rw [List.drop_length] at h3
    cases h3
    exact .inl ⟨stop, k σ' F' H' e2 g2⟩
end
end CP
/-! part CpE -/
set_option Elab.async false
set_option linter.all false
set_option maxRecDepth 100000
set_option maxHeartbeats 4000000
namespace CP
open PySem L2
section
variable {W : Wd}
theorem itd_of {J : It} {n : Nat} {G : Hp → Prop} {Y : Nat → Hp → V → Hp → Prop} {F1 : Hp} {ds : List D} (w : Walk J n G Y) (hn : ds.length = n) (hG : ∀ F' H', Ex F1 F' → Ex F' H' → G H')
    (hY : ∀ F' H' i x H'', Ex F1 F' → Ex F' H' → i < n → Y i H' x H'' → ∃ F'' d, Ext F' H' F'' H'' ∧ ds[i]? = some d ∧ Rep W F'' x d) : ItD W J F1 ds := fun F' H' e1 e2 => by
  subst hn
  have g := hG F' H' e1 e2
  exact ⟨fun i hi => w.goes i H' hi g, w.stops H' g, fun i x H'' hi y => hY F' H' i x H'' e1 e2 hi (w.yields i H' x H'' hi g y)⟩
def lstOf : D → Option (List D)
  | .lst ds => some ds
  | _ => none
def tupOf : D → Option (List D)
  | .tup ds => some ds
  | _ => none
theorem lstOf_eq {d : D} {ds : List D} (h : lstOf d = some ds) : d = .lst ds := by
  cases d <;> simp only [lstOf] at h <;> cases h
  rfl
theorem tupOf_eq {d : D} {ds : List D} (h : tupOf d = some ds) : d = .tup ds := by
  cases d <;> simp only [tupOf] at h <;> cases h
  rfl
theorem itd_list {F1 : Hp} {a : Addr} {xs : List V} {ds : List D} (h : F1 a = some (.lst xs)) (r : Reps W F1 xs ds) : ItD W (Itl W.K a) F1 ds :=
  itd_of (walk_list (xs := xs)) r.length.symm (fun F' H' e1 e2 => .inl (.inl (e2 _ _ (e1 _ _ h)))) fun F' H' i x H'' e1 e2 hi ⟨q1, q2⟩ => by
    subst q1
    obtain ⟨d, h1, h2⟩ := r.get' q2
    exact ⟨F', d, .refl e2, h1, h2.mono e1⟩
theorem itd_tup {F1 : Hp} {a : Addr} {xs : List V} {ds : List D} (h : SqT W.K F1 a xs) (r : Reps W F1 xs ds) : ItD W (Itt W.K a) F1 ds :=
  itd_of (walk_tup (xs := xs)) r.length.symm (fun F' H' e1 e2 => ex_t e2 (ex_t e1 h)) fun F' H' i x H'' e1 e2 hi ⟨q1, q2⟩ => by
    subst q1
    obtain ⟨d, h1, h2⟩ := r.get' q2
    exact ⟨F', d, .refl e2, h1, h2.mono e1⟩
def iLst (a : ME) : MA := fun ρ => (a ρ).bind lstOf
def iTp (a : ME) : MA := fun ρ => (a ρ).bind tupOf
theorem smi_list {t : TE} {a : ME} (h : Sm W t a) : SmI W (iList W.K t) (iLst a) := fun H0 F H σ ρ ds e r q R k => by
  obtain ⟨d, h1, h2⟩ := Option.bind_eq_some_iff.mp q
  cases lstOf_eq h2
  refine h H0 F H σ ρ _ e r h1 _ fun v F1 H1 e1 r1 => ?_
  cases r1 with
  | @lst p xs _ hp rp => exact ⟨p, rfl, ⟨xs, .inl (.inl (e1.s _ _ hp))⟩, k _ F1 H1 e1 (itd_list hp rp)⟩
theorem smi_tup {t : TE} {a : ME} (h : Sm W t a) : SmI W (iTup W.K t) (iTp a) := fun H0 F H σ ρ ds e r q R k => by
  obtain ⟨d, h1, h2⟩ := Option.bind_eq_some_iff.mp q
  cases tupOf_eq h2
  refine h H0 F H σ ρ _ e r h1 _ fun v F1 H1 e1 r1 => ?_
  cases r1 with
  | @tup p xs _ hp rp => exact ⟨p, rfl, ⟨xs, ex_t e1.s hp⟩, k _ F1 H1 e1 (itd_tup hp rp)⟩
/-! ranges -/
def upD (lo : Int) (n : Nat) : List D := (List.range n).map fun i : Nat => .int (lo + (i : Int))
def dnD (lo : Int) (n : Nat) : List D := (List.range n).map fun i : Nat => .int (lo + (i : Int) * -1)
theorem up_get {lo : Int} {n i : Nat} (h : i < n) : (upD lo n)[i]? = some (.int (lo + (i : Int))) := by
  unfold upD
  rw [List.getElem?_map, List.getElem?_range h]
  rfl
theorem dn_get {lo : Int} {n i : Nat} (h : i < n) : (dnD lo n)[i]? = some (.int (lo + (i : Int) * -1)) := by
  unfold dnD
  rw [List.getElem?_map, List.getElem?_range h]
  rfl
def okR (i : Int) : Bool := decide (-1000000 ≤ i) && decide (i ≤ 1000000)
theorem okR_b {i : Int} (h : okR i = true) : -1000000 ≤ i ∧ i ≤ 1000000 := by
  unfold okR at h
  simpa using h
theorem itd_up {F1 : Hp} {lo : Int} {n : Nat} : ItD W (Itr lo n) F1 (upD lo n) :=
  itd_of walk_range (by unfold upD; simp) (fun _ _ _ _ => trivial) fun F' H' i x H'' e1 e2 hi ⟨q1, q2⟩ => by
    subst q1 q2
    exact ⟨F', _, .refl e2, up_get hi, .int _⟩
theorem itd_dn {F1 : Hp} {lo : Int} {n : Nat} : ItD W (Itc lo (-1) n) F1 (dnD lo n) :=
  itd_of walk_rangeC (by unfold dnD; simp) (fun _ _ _ _ => trivial) fun F' H' i x H'' e1 e2 hi ⟨q1, q2⟩ => by
    subst q1 q2
    exact ⟨F', _, .refl e2, dn_get hi, .int _⟩
def iR1 (a : MA) : MA := fun ρ => (a ρ).bind fun ds => match ds with
  | [.int j] => if okR j = true then some (upD 0 j.toNat) else none
  | _ => none
def iR2 (a : MA) : MA := fun ρ => (a ρ).bind fun ds => match ds with
  | [.int i, .int j] => if (okR i && okR j) = true then some (upD i (j - i).toNat) else none
  | _ => none
def iR3 (a : MA) : MA := fun ρ => (a ρ).bind fun ds => match ds with
  | [.int i, .int j, .int c] => if (okR i && okR j && decide (c = -1)) = true then some (dnD i (i - j).toNat) else none
  | _ => none
theorem smi_r1 {t : TA} {a : MA} (h : SmA W t a) : SmI W (iRng1 t) (iR1 a) := fun H0 F H σ ρ ds e r q R k => by
  obtain ⟨xs, h1, h2⟩ := Option.bind_eq_some_iff.mp q
  split at h2
  · split at h2
    · rename_i hj
      cases h2
      have hb := okR_b hj
      refine h H0 F H σ ρ _ e r h1 _ fun vs F1 H1 e1 r1 => ?_
      cases r1 with
      | cons g1 g2 =>
        cases g2
        cases g1
        exact ⟨_, rfl, by omega, by omega, k _ F1 H1 e1 itd_up⟩
    · cases h2
  · cases h2
theorem smi_r2 {t : TA} {a : MA} (h : SmA W t a) : SmI W (iRng2 t) (iR2 a) := fun H0 F H σ ρ ds e r q R k => by
  obtain ⟨xs, h1, h2⟩ := Option.bind_eq_some_iff.mp q
  split at h2
  · split at h2
    · rename_i hj
      cases h2
      rw [Bool.and_eq_true] at hj
      have hb := okR_b hj.1
      have hc := okR_b hj.2
      refine h H0 F H σ ρ _ e r h1 _ fun vs F1 H1 e1 r1 => ?_
      cases r1 with
      | cons g1 g2 =>
        cases g2 with
        | cons g2 g3 =>
          cases g3
          cases g1
          cases g2
          exact ⟨_, _, rfl, ⟨by omega, by omega, by omega, by omega⟩, k _ F1 H1 e1 itd_up⟩
    · cases h2
  · cases h2
theorem smi_r3 {t : TA} {a : MA} (h : SmA W t a) : SmI W (iRng3 t) (iR3 a) := fun H0 F H σ ρ ds e r q R k => by
  obtain ⟨xs, h1, h2⟩ := Option.bind_eq_some_iff.mp q
  split at h2
  · split at h2
    · rename_i hj
      cases h2
      rw [Bool.and_eq_true, Bool.and_eq_true, decide_eq_true_eq] at hj
      have hb := okR_b hj.1.1
      have hc := okR_b hj.1.2
      obtain ⟨_, rfl⟩ := hj
      refine h H0 F H σ ρ _ e r h1 _ fun vs F1 H1 e1 r1 => ?_
      cases r1 with
      | cons g1 g2 =>
        cases g2 with
        | cons g2 g3 =>
          cases g3 with
          | cons g3 g4 =>
            cases g4
            cases g1
            cases g2
            cases g3
            exact ⟨_, _, _, _, rfl, RgC.neg (by omega) (by omega) (by omega) (by omega), k _ F1 H1 e1 itd_dn⟩
    · cases h2
  · cases h2
/-! pairs -/
def pairD (ds es : List D) : List D := (ds.zip es).map fun p => .tup [p.1, p.2]
theorem itd_pair {J : It} {n : Nat} {G : Hp → Prop} {fx fy : Nat → Option V} {F1 : Hp} {ds es : List D} (w : Walk J n G (YPair fx fy)) (hn : min ds.length es.length = n) (hG : ∀ F' H', Ex F1 F' → Ex F' H' → G H')
    (hx : ∀ i v, fx i = some v → i < n → ∃ d, ds[i]? = some d ∧ Rep W F1 v d) (hy : ∀ i v, fy i = some v → i < n → ∃ d, es[i]? = some d ∧ Rep W F1 v d) : ItD W J F1 (pairD ds es) :=
  itd_of w (by unfold pairD; rw [List.length_map, List.length_zip]; exact hn) hG fun F' H' i x H'' e1 e2 hi y => by
    obtain ⟨T, a, b, rfl, hT, rfl, h1, h2⟩ := y
    obtain ⟨d1, g1, r1⟩ := hx i a h1 hi
    obtain ⟨d2, g2, r2⟩ := hy i b h2 hi
    have z := Ext.new (o := .tup [a, b]) e2 hT
    refine ⟨_, .tup [d1, d2], z, ?_, .tup (.inl (.inl upd_same)) (.cons ((r1.mono e1).mono z.f) (.cons ((r2.mono e1).mono z.f) .nil))⟩
    unfold pairD
    rw [List.getElem?_map, (List.getElem?_zip_eq_some (z := (d1, d2))).mpr ⟨g1, g2⟩]
    rfl
def enumD (ds : List D) : List D := pairD (upD 0 ds.length) ds
def iEn (a : ME) : MA := fun ρ => (a ρ).bind fun x => (lstOf x).map enumD
def iZp (f g : D → Option (List D)) (a b : ME) : MA := fun ρ => (a ρ).bind fun x => (b ρ).bind fun y => (f x).bind fun xs => (g y).map fun ys => pairD xs ys
theorem reps_of {F1 : Hp} {xs : List V} {ds : List D} (r : Reps W F1 xs ds) {n : Nat} : ∀ (i : Nat) (v : V), xs[i]? = some v → i < n → ∃ d, ds[i]? = some d ∧ Rep W F1 v d := fun i v h _ => r.get' h
theorem up_of {F1 : Hp} {n : Nat} : ∀ (i : Nat) (v : V), (some (V.int (i : Nat)) : Option V) = some v → i < n → ∃ d, (upD 0 n)[i]? = some d ∧ Rep W F1 v d := fun i v h hi => by
  cases h
  exact ⟨_, up_get hi, by rw [Int.zero_add]; exact .int _⟩
theorem smi_enum {t : TE} {a : ME} (h : Sm W t a) : SmI W (iEnum W.K (tCons t tNil)) (iEn a) := fun H0 F H σ ρ ds e r q R k => by
  obtain ⟨d, h1, h2⟩ := Option.bind_eq_some_iff.mp q
  obtain ⟨xs, h3, rfl⟩ := Option.map_eq_some_iff.mp h2
  cases lstOf_eq h3
  refine h H0 F H σ ρ _ e r h1 _ fun v F1 H1 e1 r1 => ?_
  cases r1 with
  | @lst p ys _ hp rp =>
    refine ⟨p, ys, rfl, .inl (.inl (e1.s _ _ hp)), k _ F1 H1 e1 ?_⟩
    refine itd_pair (walk_enum (xs := ys)) ?_ (fun F' H' e1 e2 => .inl (.inl (e2 _ _ (e1 _ _ hp)))) (fun i v hv hi => up_of i v hv (by rw [← rp.length]; exact hi)) (reps_of rp)
    unfold upD
    rw [List.length_map, List.length_range, Nat.min_self]
    exact rp.length.symm
theorem smi_zipL {t u : TE} {a b : ME} (h : Sm W t a) (h' : Sm W u b) : SmI W (iZip W.K (tCons t (tCons u tNil))) (iZp lstOf lstOf a b) := fun H0 F H σ ρ ds e r q R k => by
  obtain ⟨d, h1, q⟩ := Option.bind_eq_some_iff.mp q
  obtain ⟨d', h2, q⟩ := Option.bind_eq_some_iff.mp q
  obtain ⟨xs, h3, q⟩ := Option.bind_eq_some_iff.mp q
  obtain ⟨ys, h4, rfl⟩ := Option.map_eq_some_iff.mp q
  cases lstOf_eq h3
  cases lstOf_eq h4
  refine h H0 F H σ ρ _ e r h1 _ fun v F1 H1 e1 r1 => ?_
  refine h' H0 F1 H1 σ ρ _ e1.s (r.ext e1) h2 _ fun u F2 H2 e2 r2 => ?_
  have r1' := r1.mono e2.f
  cases r1' with
  | @lst p vs _ hp rp =>
    cases r2 with
    | @lst p2 us _ hp2 rp2 =>
      refine ⟨p, p2, vs, us, rfl, .inl (.inl (e2.s _ _ hp)), .inl (.inl (e2.s _ _ hp2)), k _ F2 H2 (e1.trans e2) ?_⟩
      exact itd_pair (walk_zip (xs := vs) (ys := us) rfl) (by rw [rp.length, rp2.length]) (fun F' H' e1 e2 => ⟨.inl (.inl (e2 _ _ (e1 _ _ hp))), .inl (.inl (e2 _ _ (e1 _ _ hp2)))⟩) (reps_of rp) (reps_of rp2)
/-! a text, sign by sign -/
def signs (z : Str) : List D := z.cps.toList.map fun c => .str ⟨#[c]⟩
def iSt (a : ME) : MA := fun ρ => (a ρ).bind fun x => match x with
  | .str z => if cap z.length = true then some (signs z) else none
  | _ => none
/-! ### list comprehensions -/
def wipeE (ρ : Env) : List Nat → Env
  | [] => ρ
  | v :: vs => (wipeE ρ vs).set v none
theorem wipeE_some {ρ : Env} {i : Nat} {x : EV} : ∀ {vs : List Nat}, (wipeE ρ vs)[i]? = some (some x) → ρ[i]? = some (some x) ∧ i ∉ vs
  | [], h => ⟨h, by simp⟩
  | v :: vs, h => by
    unfold wipeE at h
    rcases set_get h with ⟨_, q, _⟩ | ⟨ne, q⟩
    · cases q
    · obtain ⟨h1, h2⟩ := wipeE_some q
      exact ⟨h1, by simp only [List.mem_cons, not_or]; exact ⟨fun e => ne e.symm, h2⟩⟩
theorem wipeE_len (ρ : Env) : ∀ vs : List Nat, (wipeE ρ vs).length = ρ.length
  | [] => rfl
  | v :: vs => by unfold wipeE; rw [List.length_set, wipeE_len ρ vs]
theorem wipe_at {σ : St} {i : Nat} {x : Option V} : ∀ {vs : List Nat}, i ∉ vs → σ[i]? = some x → (wipe σ vs)[i]? = some x
  | [], _, h => h
  | v :: vs, hn, h => by
    unfold wipe
    simp only [List.mem_cons, not_or] at hn
    rw [List.getElem?_set_ne (Ne.symm hn.1)]
    exact wipe_at hn.2 h
theorem wipe_of {σ : St} {i : Nat} {x : Option V} {vs : List Nat} (hn : i ∉ vs) (h : (wipe σ vs)[i]? = some x) : σ[i]? = some x := by
  induction vs with
  | nil => exact h
  | cons v vs ih =>
    unfold wipe at h
    simp only [List.mem_cons, not_or] at hn
    rw [List.getElem?_set_ne (Ne.symm hn.1)] at h
    exact ih hn.2 h
theorem EnvR.wipe {H0 F H : Hp} {σ : St} {ρ : Env} (r : EnvR W H0 F H σ ρ) (vs : List Nat) : EnvR W H0 F H (L2.wipe σ vs) (wipeE ρ vs) := by
  refine ⟨by rw [wipe_length, wipeE_len]; exact r.len, fun i d h => ?_, fun i ds h => ?_, fun i j ds es p h1 h2 h3 h4 => ?_⟩
  · obtain ⟨h1, h2⟩ := wipeE_some h
    obtain ⟨v, h3, h4⟩ := r.fr i d h1
    exact ⟨v, wipe_at h2 h3, h4⟩
  · obtain ⟨h1, h2⟩ := wipeE_some h
    obtain ⟨p, xs, h3, h4⟩ := r.ow i ds h1
    exact ⟨p, xs, wipe_at h2 h3, h4⟩
  · obtain ⟨a1, b1⟩ := wipeE_some h1
    obtain ⟨a2, b2⟩ := wipeE_some h2
    exact r.ne i j ds es p a1 a2 (wipe_of b1 h3) (wipe_of b2 h4)
def mComp (vs : List Nat) (f : D → Env → Option Env) (c : MT) (b : ME) (ρ : Env) : List D → Option (List D)
  | [] => some []
  | d :: ds => (f d (wipeE ρ vs)).bind fun ρ1 => (c ρ1).bind fun x => if x = true then (b ρ1).bind fun y => (mComp vs f c b ρ ds).map fun ys => y :: ys else mComp vs f c b ρ ds
theorem mComp_len {vs : List Nat} {f : D → Env → Option Env} {c : MT} {b : ME} {ρ : Env} : ∀ {ds ys : List D}, mComp vs f c b ρ ds = some ys → ys.length ≤ ds.length
  | [], _, h => by cases h; exact Nat.le_refl _
  | d :: ds, ys, h => by
    simp only [mComp] at h
    obtain ⟨ρ1, h1, h⟩ := Option.bind_eq_some_iff.mp h
    obtain ⟨x, h2, h⟩ := Option.bind_eq_some_iff.mp h
    split at h
    · obtain ⟨y, h3, h⟩ := Option.bind_eq_some_iff.mp h
      obtain ⟨zs, h4, rfl⟩ := Option.map_eq_some_iff.mp h
      have := mComp_len h4
      simp only [List.length_cons]
      omega
    · have := mComp_len h
      simp only [List.length_cons]
      omega
def aComp (vs : List Nat) (m : MA) (f : D → Env → Option Env) (c : MT) (b : ME) : MA := fun ρ => (m ρ).bind fun ds => if cap ds.length = true then mComp vs f c b ρ ds else none
theorem smt_yes : SmT W tYes fun _ => some true := fun H0 F H σ ρ b e r q Q k => by
  cases q
  exact k F H (.refl e)
/-- the heart: a comprehension makes the list, not yet fixed -/
theorem sml_lc {wi : TI} {g : TG} {tt : TT} {te : TE} {vs : List Nat} {m : MA} {js : List Nat} {f : D → Env → Option Env} {c : MT} {b : ME} (hi : SmI W wi m) (hg : TgS W g js f) (hj : ∀ j ∈ js, j ∈ vs) (hc : SmT W tt c) (hb : Sm W te b) :
    SmL W (tLc wi g tt te vs) (aComp vs m f c b) := fun H0 F H σ ρ ys e r q Q k => by
  obtain ⟨ds, h1, h2⟩ := Option.bind_eq_some_iff.mp q
  split at h2
  · rename_i hcap
    refine hi H0 F H σ ρ ds e r h1 _ fun J F1 H1 e1 it => ?_
    intro Dl hD
    refine ⟨fun i n H' => n = ds.length - i ∧ i ≤ ds.length ∧ ∃ F' acc us ws, Ext F1 H1 F' H' ∧ F' Dl = none ∧ H' Dl = some (.lst acc) ∧ Reps W F' acc us ∧ us.length ≤ i ∧ mComp vs f c b ρ (ds.drop i) = some ws ∧ ys = us ++ ws,
      ⟨ds.length, by simp, Nat.zero_le _, F1, [], [], ys, Ext.own e1.s hD, e1.s.back hD, upd_same, .nil, Nat.le_refl _, by rw [List.drop_zero]; exact h2, rfl⟩, ?_⟩
    rintro i n H' ⟨rfl, hin, F', acc, us, ws, e2, hF, hH, ra, hl, h3, rfl⟩
    obtain ⟨go, stop, yl⟩ := it F' H' e2.f e2.s
    by_cases hlt : i < ds.length
    · have hd : ds[i]? = some ds[i] := List.getElem?_eq_getElem hlt
      rw [drop_some hd] at h3
      simp only [mComp] at h3
      obtain ⟨ρ1, h4, h5⟩ := Option.bind_eq_some_iff.mp h3
      obtain ⟨x, h6, h7⟩ := Option.bind_eq_some_iff.mp h5
      refine .inr ⟨go i hlt, fun H2 => i + 1 ≤ ds.length ∧ ∃ F2 acc2 us2 ws2, Ext F1 H1 F2 H2 ∧ F2 Dl = none ∧ H2 Dl = some (.lst acc2) ∧ Reps W F2 acc2 us2 ∧ us2.length ≤ i + 1 ∧ mComp vs f c b ρ (ds.drop (i + 1)) = some ws2 ∧ us ++ ws = us2 ++ ws2, ?_, ?_⟩
      · rintro H2 ⟨hl2, z⟩
        exact ⟨ds.length - (i + 1), by omega, rfl, hl2, z⟩
      · intro v H'' y
        obtain ⟨F'', d, e3, h8, r8⟩ := yl i v H'' hlt y
        rw [hd] at h8
        cases h8
        have g1 := ((r.ext e1).ext (e2.trans e3)).wipe vs
        refine hg H0 F'' H'' (L2.wipe σ vs) (wipeE ρ vs) ρ1 v _ e3.s g1 r8 h4 _ fun σ3 g3 w3 => ⟨?_, ?_⟩
        · rw [w3 vs hj, wipe_wipe σ vs vs fun _ z => z]
        · refine hc H0 F'' H'' σ3 ρ1 x e3.s g3 h6 _ fun F4 H4 e4 => ?_
          have e34 := e3.trans e4
          have hF4 : F4 Dl = none := e34.u _ _ hH hF
          have hH4 : H4 Dl = some (.lst acc) := e34.h _ _ hH
          cases x with
          | true =>
            simp only [if_true] at h7 ⊢
            obtain ⟨y', h9, h10⟩ := Option.bind_eq_some_iff.mp h7
            obtain ⟨ws', h11, rfl⟩ := Option.map_eq_some_iff.mp h10
            refine hb H0 F4 H4 σ3 ρ1 y' e4.s (g3.ext e4) h9 _ fun u F5 H5 e5 r5 => ?_
            have e35 := e34.trans e5
            have hF5 := e35.u _ _ hH hF
            have hl' : acc.length = us.length := ra.length
            have hcap' := Nat.le_of_ble_eq_true hcap
            refine ⟨acc, e35.h _ _ hH, Nat.lt_of_lt_of_le (show acc.length < 100001 by omega) (by decide), hlt, F5, acc ++ [u], us ++ [y'], ws', ?_, hF5, upd_same, (ra.mono e35.f).append (.cons r5 .nil), by simp; omega, h11, by simp⟩
            exact Ext.wr (u := .lst acc) (e2.trans e35) hD hF5
          | false =>
            simp only [Bool.false_eq_true, if_false] at h7 ⊢
            exact ⟨hlt, F4, acc, us, ws, e2.trans e34, hF4, hH4, ra.mono e34.f, by omega, h7, rfl⟩
    · have ei : i = ds.length := by omega
      subst ei
      rw [List.drop_length] at h3
      cases h3
      rw [List.append_nil] at k
      refine .inl ⟨stop, k Dl acc F' H' (e1.trans e2) ?_ hF hH ra⟩
      exact e1.h.back hD
  · cases h2
/-- what makes a new list makes data -/
def eNew (m : MA) : ME := fun ρ => (m ρ).map .lst
theorem sm_of_l {t : TE} {m : MA} (h : SmL W t m) : Sm W t (eNew m) := fun H0 F H σ ρ d e r q Q k => by
  obtain ⟨ds, h1, rfl⟩ := Option.map_eq_some_iff.mp q
  refine h H0 F H σ ρ ds e r h1 _ fun p vs F1 H1 e1 hn hf hp rp => ?_
  have ef : Ex F1 (upd F1 p (.lst vs)) := .new hf
  refine k _ (upd F1 p (.lst vs)) H1 ⟨e1.f.trans ef, e1.h, fun a o q => ?_, fun a o q n => ?_⟩ (.lst upd_same (rp.mono ef))
  · by_cases ha : a = p
    · subst ha
      rw [upd_same] at q
      cases q
      exact hp
    · rw [upd_ne ha] at q
      exact e1.s a o q
  · rw [upd_ne (ne_of_none q hn)]
    exact e1.u a o q n
end
end CP
/-! part CpF -/
set_option Elab.async false
set_option linter.all false
set_option maxRecDepth 100000
set_option maxHeartbeats 4000000
namespace CP
open PySem PySem.Spec PyProof.Rows L2
/-! ### calls of defs: one form for all -/
abbrev SpK := List V → List V → Hp → VK → Prop
/-- at f a def that, called by positional values and keywords ks, keeps sp -/
def CallP (P : Program) (w : World) (K : PySem.W.Frag) (mg : Str → Option Value) (base : Heap) (k : Nat) (f : Addr) (ks : List Str) (sp : SpK) : Prop :=
  ∀ (A : Around) (outer : List PySem.Env) (s : Shared) (H : Hp) (us ws : List Value) (vs zs : List V) (Q : VK), Room k A → Env0 P w K mg base A outer s H → Vals vs us → Vals zs ws → ws.length = ks.length → sp vs zs H Q →
    codeAny (model P w) A (.call (.ref f) ⟨us, ks.zip ws⟩) (CR CX0 outer P w H s Q (fun _ _ _ => False)) s
def Good (P : Program) (w : World) (K : PySem.W.Frag) (mg : Str → Option Value) (base : Heap) (k : Nat) (x : Str) (ks : List Str) (sp : SpK) : Prop :=
  ∃ f, mg x = some (.ref f) ∧ PySem.W.keepIn K (.ref f) = true ∧ CallP P w K mg base k f ks sp
def tU (sp : SpK) (t tk : TA) : TE := fun σ H Q => t σ H fun vs H1 => tk σ H1 fun zs H2 => sp vs zs H2 Q
section
variable {X : Cx} {k : Nat} {x : Str} {ks : List Str} {sp : SpK} {p pos : Pos} {e : Expr} {es : List Expr} {kws : List Keyword} {t tk : TA}
theorem run_u {pins : List (Addr × Obj)} {σ : L2.St} {H : Hp} {s : Shared} {Q : VK} {us ws : List Value} {vs zs : List V} {f : Addr} (F : CallP X.prog X.w X.K X.mg X.base k f ks sp) (hr : Room k X.A) (I : Inv X pins σ H s) (r : Vals vs us) (rz : Vals zs ws) (hl : ws.length = ks.length) (h : sp vs zs H Q) :
    wpAny (model X.prog X.w) X.A (call (.ref f) us (ks.zip ws)) (EP X pins σ Q) X.xe s := by
  refine wpAny_call (codeAny_mono (F X.A X.stack s H us ws vs zs Q hr I.env0 r rz hl h) fun c s' hq => ?_)
  cases c with
  | error e => exact hq.elim
  | ok fl => cases fl with
    | ret u => exact I.after hq
    | next => exact hq.elim
    | brk => exact hq.elim
    | cont => exact hq.elim
theorem pe_u (G : Good X.prog X.w X.K X.mg X.base k x [] sp) (hr : Room k X.A) (hg : Gl X x) (ha : PA X (e :: es) t) (hd : (x == ("__debug__" : Str)) = false := by rfl)
    (he : starEach (e :: es) X.env = (false, eval e X.env) :: starEach es X.env := by rfl) (hpl : (backTo pos (starEach es X.env)).any (·.1) = false := by rfl) :
    PE X (.Call (.Name x p) (e :: es) [] pos) (tU sp t tNil) := by
  obtain ⟨f, hm, hk, F⟩ := G
  refine ⟨fun pins s σ H Q I h => wpAny_Call_Name_kw (ld_glob I hg hm ?_ hd)⟩
  exact PySem.W.callWith_K (h₀ := X.base) I.ok.mod.kin hk (thn (ha.run pos pins s σ H _ I h) fun us s1 ⟨vs, H1, I1, r, q⟩ => ⟨I1.kIn, run_u (ws := []) F hr I1 r .nil rfl q⟩) he hpl
theorem pe_u0 (G : Good X.prog X.w X.K X.mg X.base k x [] sp) (hr : Room k X.A) (hg : Gl X x) (hd : (x == ("__debug__" : Str)) = false := by rfl) : PE X (.Call (.Name x p) [] [] pos) (tU sp tNil tNil) := by
  obtain ⟨f, hm, hk, F⟩ := G
  refine ⟨fun pins s σ H Q I h => wpAny_Call_Name_kw (ld_glob I hg hm ?_ hd)⟩
  exact PySem.W.callWith_K0 I.kIn hk (run_u (us := []) (ws := []) F hr I .nil .nil rfl h)
theorem pe_uS (G : Good X.prog X.w X.K X.mg X.base k x [] sp) (hr : Room k X.A) (hg : Gl X x) (ha : PA X (e :: es) t) (hd : (x == ("__debug__" : Str)) = false := by rfl)
    (he : starEach (e :: es) X.env = (false, eval e X.env) :: starEach es X.env := by rfl) (hst : (backTo pos (starEach es X.env)).any (·.1) = true := by rfl) :
    PE X (.Call (.Name x p) (e :: es) [] pos) (tU sp t tNil) := by
  obtain ⟨f, hm, hk, F⟩ := G
  refine ⟨fun pins s σ H Q I h => wpAny_Call_Name_kw (ld_glob I hg hm ?_ hd)⟩
  exact PySem.W.callWith_S2 (h₀ := X.base) I.ok.mod.kin hk (thn (ha.run pos pins s σ H _ I h) fun us s1 ⟨vs, H1, I1, r, q⟩ => ⟨I1.kIn, run_u (ws := []) F hr I1 r .nil rfl q⟩) he hst
theorem pe_uK (G : Good X.prog X.w X.K X.mg X.base k x ks sp) (hr : Room k X.A) (hg : Gl X x) (ha : PA X (e :: es) t) (hkw : PK X kws tk) (hall : (backToKw pos (keywordEach kws X.env)).all (·.1.isSome) = true := by rfl)
    (hks : (backToKw pos (keywordEach kws X.env)).filterMap (·.1) = ks := by rfl) (hd : (x == ("__debug__" : Str)) = false := by rfl)
    (he : starEach (e :: es) X.env = (false, eval e X.env) :: starEach es X.env := by rfl) (hpl : ((backTo pos (starEach (e :: es) X.env)).any (·.1) || (backToKw pos (keywordEach kws X.env)).any (·.1.isNone)) = false := by rfl) :
    PE X (.Call (.Name x p) (e :: es) kws pos) (fun σ H Q => t σ H fun vs H1 => tk σ H1 fun zs H2 => zs.length = ks.length ∧ sp vs zs H2 Q) := by
  obtain ⟨f, hm, hk, F⟩ := G
  refine ⟨fun pins s σ H Q I h => wpAny_Call_Name_kw (ld_glob I hg hm ?_ hd)⟩
  refine PySem.W.callWith_KW (h₀ := X.base) I.ok.mod.kin hk hall (thn (ha.run pos pins s σ H _ I h) fun us s1 ⟨vs, H1, I1, r, q⟩ => ?_) hpl he
  refine thn (hkw.run pos pins s1 σ H1 _ I1 q) fun ws s2 ⟨zs, H2, I2, rz, hl, q2⟩ => ⟨I2.kIn, ?_⟩
  rw [hks]
  exact run_u F hr I2 r rz (rz.length.symm.trans hl) q2
theorem sk_call {M : Model} {A : Around} {E : Value → Shared → Prop} {s : Shared} {K : PySem.W.Frag} {f : Value} {first : List Value} {args : List (Bool × Sem Value)} {kw : List (Option Str × Sem Value)} {Q : Value → Shared → Prop} (hst : args.any (·.1) = true) (hk : PySem.W.keepIn K f = true)
    (h : wpAny M A (evalArgs f true args kw) (fun a s1 => K.In s1.heap ∧ wpAny M A (call f (first ++ a.pos) a.kw) Q E s1) E s) : wpAny M A (callWith pos f first args kw) Q E s := by
  unfold callWith
  refine wpAny_bind (wpAny_holding (wpAny_mono h (fun a t ht => wpAny_bind (wpAny_standAt ?_)) fun _ _ z => z))
  obtain ⟨c, hc, L⟩ := PySem.W.keeps_K (M := M) hk _ ht.1
  simp only [hst, Bool.true_or]
  refine wpAny_bind (L.here ?_)
  have fin : ∀ {u : Sem Value}, wpAny M A u Q E t → wpAny M A (u >>= fun r => holding [r] point >>= fun _ => pure r) Q E t := fun hu =>
    wpAny_bind (wpAny_mono hu (fun r t2 hr => wpAny_bind (wpAny_holding (wpAny_point (wpAny_pure hr)))) fun _ _ z => z)
  have mk (mk : Value) : wpAny M A (callMarked mk f (first ++ a.pos) a.kw) Q E t := by
    unfold callMarked
    exact Calls.wpAny_keep ht.2
  rcases hc with rfl | rfl | rfl
  · exact fin (mk _)
  · exact fin (wpAny_operating ht.2)
  · exact fin (wpAny_operating ht.2)
theorem pe_uSK (G : Good X.prog X.w X.K X.mg X.base k x ks sp) (hr : Room k X.A) (hg : Gl X x) (ha : PA X (e :: es) t) (hkw : PK X kws tk) (hall : (backToKw pos (keywordEach kws X.env)).all (·.1.isSome) = true := by rfl)
    (hks : (backToKw pos (keywordEach kws X.env)).filterMap (·.1) = ks := by rfl) (hd : (x == ("__debug__" : Str)) = false := by rfl)
    (he : starEach (e :: es) X.env = (false, eval e X.env) :: starEach es X.env := by rfl) (hst : (backTo pos (starEach (e :: es) X.env)).any (·.1) = true := by rfl) :
    PE X (.Call (.Name x p) (e :: es) kws pos) (fun σ H Q => t σ H fun vs H1 => tk σ H1 fun zs H2 => zs.length = ks.length ∧ sp vs zs H2 Q) := by
  obtain ⟨f, hm, hk, F⟩ := G
  refine ⟨fun pins s σ H Q I h => wpAny_Call_Name_kw (ld_glob I hg hm ?_ hd)⟩
  refine sk_call hst hk (evalArgs_kw2 hall (thn (ha.run pos pins s σ H _ I h) fun us s1 ⟨vs, H1, I1, r, q⟩ => ?_) he)
  refine thn (hkw.run pos pins s1 σ H1 _ I1 q) fun ws s2 ⟨zs, H2, I2, rz, hl, q2⟩ => ⟨I2.kIn, ?_⟩
  rw [hks]
  exact run_u F hr I2 r rz (rz.length.symm.trans hl) q2
end
/-! ### by data -/
def spD (W : Wd) (n : Nat) (m : List D → List D → Option D) : SpK := fun vs zs H Q => ∃ F ds es d, Ex F H ∧ Reps W F vs ds ∧ Reps W F zs es ∧ m ds es = some d ∧ ∀ v F2 H2, Ext F H F2 H2 → Rep W F2 v d → Q v H2
abbrev GoodD (P : Program) (w : World) (K : PySem.W.Frag) (mg : Str → Option Value) (base : Heap) (W : Wd) (k : Nat) (x : Str) (ks : List Str) (m : List D → List D → Option D) : Prop := Good P w K mg base k x ks (spD W ks.length m)
def eU (m : List D → List D → Option D) (a b : MA) : ME := fun ρ => (a ρ).bind fun ds => (b ρ).bind fun es => m ds es
theorem sm_u {W : Wd} {n : Nat} {m : List D → List D → Option D} {t tk : TA} {a b : MA} (ha : SmA W t a) (hb : SmA W tk b) : Sm W (tU (spD W n m) t tk) (eU m a b) := fun H0 F H σ ρ d e r q Q k => by
  obtain ⟨ds, h1, q⟩ := Option.bind_eq_some_iff.mp q
  obtain ⟨es, h2, q⟩ := Option.bind_eq_some_iff.mp q
  refine ha H0 F H σ ρ ds e r h1 _ fun vs F1 H1 e1 r1 => ?_
  refine hb H0 F1 H1 σ ρ es e1.s (r.ext e1) h2 _ fun zs F2 H2 e2 r2 => ?_
  exact ⟨F2, ds, es, d, e2.s, r1.mono e2.f, r2, q, fun v F3 H3 e3 r3 => k v F3 H3 ((e1.trans e2).trans e3) r3⟩
def tUK (n : Nat) (sp : SpK) (t tk : TA) : TE := fun σ H Q => t σ H fun vs H1 => tk σ H1 fun zs H2 => zs.length = n ∧ sp vs zs H2 Q
def eUK (n : Nat) (m : List D → List D → Option D) (a b : MA) : ME := fun ρ => (a ρ).bind fun ds => (b ρ).bind fun es => if es.length = n then m ds es else none
theorem sm_uK {W : Wd} {n : Nat} {m : List D → List D → Option D} {t tk : TA} {a b : MA} (ha : SmA W t a) (hb : SmA W tk b) : Sm W (tUK n (spD W n m) t tk) (eUK n m a b) := fun H0 F H σ ρ d e r q Q k => by
  obtain ⟨ds, h1, q⟩ := Option.bind_eq_some_iff.mp q
  obtain ⟨es, h2, q⟩ := Option.bind_eq_some_iff.mp q
  split at q
  · rename_i hl
    refine ha H0 F H σ ρ ds e r h1 _ fun vs F1 H1 e1 r1 => ?_
    refine hb H0 F1 H1 σ ρ es e1.s (r.ext e1) h2 _ fun zs F2 H2 e2 r2 => ⟨r2.length.trans hl, ?_⟩
    exact ⟨F2, ds, es, d, e2.s, r1.mono e2.f, r2, q, fun v F3 H3 e3 r3 => k v F3 H3 ((e1.trans e2).trans e3) r3⟩
  · cases q
/-! ### defs -/
def startE (n : Nat) (ds : List D) : Env := ds.map (fun d => some (.fr d)) ++ List.replicate (n - ds.length) none
def runB (n : Nat) (mb : MS) (ds : List D) : Option D := (mb (startE n ds)).bind fun r => match r with
  | .rt d => some d
  | .nx _ => some .non
  | _ => none
theorem startE_get {n i : Nat} {ds : List D} {e : EV} (h : (startE n ds)[i]? = some (some e)) : ∃ d, ds[i]? = some d ∧ e = .fr d := by
  unfold startE at h
  by_cases hi : i < ds.length
  · rw [List.getElem?_append_left (by rw [List.length_map]; exact hi), List.getElem?_map, List.getElem?_eq_getElem hi] at h
    cases h
    exact ⟨_, List.getElem?_eq_getElem hi, rfl⟩
  · rw [List.getElem?_append_right (by rw [List.length_map]; omega), List.getElem?_replicate] at h
    split at h
    · cases h
    · cases h
theorem envR_start {W : Wd} {F H : Hp} {N : List Str} {vs : List V} {ds : List D} (r : Reps W F vs ds) : EnvR W H F H (start N vs) (startE N.length ds) := by
  refine ⟨?_, fun i d h => ?_, fun i es h => ?_, fun i j ds es p h1 _ _ _ => ?_⟩
  · unfold L2.start startE
    simp [r.length]
  · obtain ⟨d', h1, h2⟩ := startE_get h
    cases h2
    obtain ⟨v, h3, h4⟩ := r.get h1
    refine ⟨v, ?_, h4⟩
    unfold L2.start
    have hi : i < vs.length := (List.getElem?_eq_some_iff.mp h3).1
    rw [List.getElem?_append_left (by rw [List.length_map]; exact hi), List.getElem?_map, h3]
    rfl
  · obtain ⟨_, _, h2⟩ := startE_get h
    cases h2
  · obtain ⟨_, _, h2⟩ := startE_get h1
    cases h2
/-- a def's promise, its parameters bound -/
def spO (W : Wd) (n : Nat) (m : List D → Option D) : Sp := fun vs H Q _ => ∃ F ds d, Ex F H ∧ Reps W F vs ds ∧ ds.length = n ∧ m ds = some d ∧ ∀ v F2 H2, Ext F H F2 H2 → Rep W F2 v d → Q v H2
theorem body_run {W : Wd} {F H : Hp} {N : List Str} {vs : List V} {ds : List D} {d : D} {t : TS} {mb : MS} {Q : VK} (hs : SmS W t mb) (e : Ex F H) (r : Reps W F vs ds) (q : runB N.length mb ds = some d) (k : ∀ v F2 H2, Ext F H F2 H2 → Rep W F2 v d → Q v H2) :
    t { nx := fun _ H' => Q .non H', rt := Q } (start N vs) H := by
  obtain ⟨c, h1, h2⟩ := Option.bind_eq_some_iff.mp q
  refine hs F H F H _ _ c (.refl e) (envR_start r) h1 _ ?_
  cases c with
  | nx ρ =>
    cases h2
    exact fun σ F' H' e' _ => k .non F' H' e' .non
  | rt d' =>
    cases h2
    exact fun v F' H' e' r' => k v F' H' e' r'
  | bk ρ => cases h2
  | ct ρ => cases h2
section
variable {P : Program} {w : World} {K : PySem.W.Frag} {mg : Str → Option Value} {base : Heap} {x qual : Str} {params : Arguments} {body : List Stmt} {scope : Scope} {dvs : List V} {kws : List (Str × V)} {f : Addr} {fd : FuncData} {N ps : List Str} {k : Nat} {W : Wd} {t : TS} {mb : MS}
abbrev BodyOk (P : Program) (w : World) (K : PySem.W.Frag) (mg : Str → Option Value) (base : Heap) (N : List Str) (qual : Str) (scope : Scope) (body : List Stmt) (k : Nat) (t : TS) : Prop :=
  ∀ (f : Addr) (cdv : Value) (A : Around) (outer : List PySem.Env) (s : Shared) (H : Hp) (E : XK), Room k (A.deeper (envOfC qual scope s.heap.objs.size f cdv)) → PSs (cxOf CX0 P w K mg base N qual scope f cdv A outer s H E).nox body t
theorem ok_def (F : FunD K x qual params body scope dvs kws f fd) (S : FnScope N ps scope) (hb : BodyOk P w K mg base N qual scope body k t) (hs : SmS W t mb) : FnOk P w K mg base CX0 (k + 1) f fd ps (spO W ps.length (runB N.length mb)) := by
  refine F.ok S (fun vs H Q E ⟨G, ds, d, e, r, hl, q, kk⟩ => r.length.trans hl) fun cdv A outer s H vs Q E hr ⟨G, ds, d, e, r, hl, q, kk⟩ => ⟨t, PSs.nox (hb f cdv A outer s H E hr), body_run hs e r q kk⟩
/-- called by position -/
def mP (n : Nat) (m : List D → Option D) : List D → List D → Option D := fun ds _ => if ds.length = n then m ds else none
theorem good_of {f : Addr} {m : List D → Option D} (hm : mg x = some (.ref f)) (F : FunD K x qual params body scope [] kws f fd) (ok : FnOk P w K mg base CX0 k f fd ps (spO W ps.length m)) (hb : Binds K fd ps []) : GoodD P w K mg base W k x [] (mP ps.length m) := by
  refine ⟨f, hm, F.kp, fun A outer s H us ws vs zs Q hr e0 r rz hl ⟨G, ds, es, d, e, r1, r2, q, kk⟩ => ?_⟩
  cases ws with
  | cons _ _ => cases hl
  | nil =>
    unfold mP at q
    split at q
    · rename_i hn
      have KX : K.In s.heap := e0.mod.kin.keeps fun b o e => (e0.bs b o e).1
      have b := hb s us KX (by rw [List.append_nil, ← r.length, r1.length]; exact hn)
      rw [List.append_nil] at b
      exact ok.run A outer s H ⟨us, []⟩ us vs Q _ hr e0 b r ⟨G, ds, d, e, r1, hn, q, kk⟩
    · cases q
end
end CP
/-! part CpG -/
set_option Elab.async false
set_option linter.all false
set_option maxRecDepth 100000
set_option maxHeartbeats 4000000
namespace CP
open PySem L2
section
variable {W : Wd}
/-! ### len, int -/
def lenD : D → Option Nat
  | .str s => if cap s.length = true then some s.length else none
  | .lst ds => some ds.length
  | .tup ds => some ds.length
  | _ => none
def cLen : List D → Option D
  | [d] => (lenD d).map fun n => .int (n : Nat)
  | _ => none
theorem RepsB.one {F H : Hp} {vs : List V} {d : D} (r : RepsB W F H vs [d]) : ∃ v, vs = [v] ∧ RepB W F H v d := by
  cases r with
  | cons h t =>
    cases t
    exact ⟨_, rfl, h⟩
theorem cs_len : CallS W (fun xs H Q => ∃ x n, xs = [x] ∧ LenV W.K x H n ∧ Q (.int n) H) cLen := fun F H vs ds d e r q Q k => by
  unfold cLen at q
  split at q
  · obtain ⟨v, rfl, rv⟩ := r.one
    obtain ⟨n, h1, rfl⟩ := Option.map_eq_some_iff.mp q
    refine ⟨v, n, rfl, ?_, k _ F H (.refl e) (.int _)⟩
    rename_i d0
    cases d0 with
    | str s =>
      obtain rfl := rv.str
      simp only [lenD] at h1
      split at h1
      · rename_i hc
        cases h1
        exact ⟨cap_le hc, rfl⟩
      · cases h1
    | lst ds =>
      obtain ⟨a, xs, rfl, h2, h3⟩ := rv.lst e
      cases h1
      exact .inl ⟨xs, .inl (.inl h2), h3.length.symm⟩
    | tup ds =>
      obtain ⟨a, xs, rfl, h2, h3⟩ := rv.tup e
      cases h1
      exact .inr ⟨xs, h2, h3.length.symm⟩
    | _ => cases h1
  · cases q
def cInt : List D → Option D
  | [.int i] => some (.int i)
  | [.bool b] => some (.int (if b = true then 1 else 0))
  | _ => none
theorem cs_int : CallS W (fun xs H Q => (∃ i, xs = [.int i] ∧ Q (.int i) H) ∨ ∃ k, xs = [.bl k] ∧ Q (.int (if k then 1 else 0)) H) cInt := fun F H vs ds d e r q Q k => by
  unfold cInt at q
  split at q
  · obtain ⟨v, rfl, rv⟩ := r.one
    obtain rfl := rv.int
    cases q
    exact .inl ⟨_, rfl, k _ F H (.refl e) (.int _)⟩
  · obtain ⟨v, rfl, rv⟩ := r.one
    obtain rfl := rv.bl
    cases q
    exact .inr ⟨_, rfl, k _ F H (.refl e) (.int _)⟩
  · cases q
/-! ### isinstance -/
def tyD : D → Option String
  | .non => some "NoneType"
  | .bool _ => some "bool"
  | .int _ => some "int"
  | .str _ => some "str"
  | .tup _ => some "tuple"
  | .lst _ => some "list"
  | _ => none
theorem sqt_ty {H : Hp} {K : PySem.W.Frag} {a : Addr} {xs : List V} (h : SqT K H a xs) : TyX K H (.ref a) (.type "tuple") := by
  rcases h with (h | ⟨o, h⟩) | ⟨o, its, n, h1, h2, _⟩
  · exact .base (.tup h)
  · exact .fTuple h
  · exact .kTuple h1 h2
theorem RepB.ty {F H : Hp} {v : V} {d : D} {T : String} (r : RepB W F H v d) (e : Ex F H) (h : tyD d = some T) : TyX W.K H v (.type T) := by
  cases d <;> simp only [tyD] at h <;> cases h
  · obtain rfl := r.non; exact .base .non
  · obtain rfl := r.bl; exact .base (.bl _)
  · obtain rfl := r.int; exact .base (.int _)
  · obtain rfl := r.str; exact .base (.str _)
  · obtain ⟨a, xs, rfl, h1, _⟩ := r.tup e; exact sqt_ty h1
  · obtain ⟨a, xs, rfl, h1, _⟩ := r.lst e; exact .base (.lst h1)
def tIsi (K : PySem.W.Frag) (T : String) (t : TE) : TE := tCB (rIsi K) (tCons t (tCons (tC (.ty T)) tNil))
def isiB (T U : String) : Option Bool := kitB T U
def eIsi (U : String) (a : ME) : ME := fun ρ => (a ρ).bind fun d => (tyD d).bind fun T => (kitB T U).map .bool
theorem sm_isi {U : String} {t : TE} {a : ME} (h : SmB W t a) : Sm W (tIsi W.K U t) (eIsi U a) := fun H0 F H σ ρ d e r q Q k => by
  obtain ⟨x, h1, q⟩ := Option.bind_eq_some_iff.mp q
  obtain ⟨T, h2, q⟩ := Option.bind_eq_some_iff.mp q
  obtain ⟨b, h3, rfl⟩ := Option.map_eq_some_iff.mp q
  refine h H0 F H σ ρ x e r h1 _ fun v F1 H1 e1 r1 => ?_
  exact ⟨v, .ty U, _, _, b, rfl, .ty U, r1.ty e1.s h2, kit_ty h3, k _ F1 H1 e1 (.bl _)⟩
def tIsi2 (K : PySem.W.Frag) (T U : String) (t : TE) : TE := tCB (rIsiT K) (tCons t (tCons (tTup (tCons (tC (.ty T)) (tCons (tC (.ty U)) tNil))) tNil))
def kit2 (T U1 U2 : String) : Option Bool := match kitB T U1 with
  | some true => some true
  | some false => kitB T U2
  | none => none
def eIsi2 (U1 U2 : String) (a : ME) : ME := fun ρ => (a ρ).bind fun d => (tyD d).bind fun T => (kit2 T U1 U2).map .bool
theorem sm_isi2 {U1 U2 : String} {t : TE} {a : ME} (h : Sm W t a) : Sm W (tIsi2 W.K U1 U2 t) (eIsi2 U1 U2 a) := fun H0 F H σ ρ d e r q Q k => by
  obtain ⟨x, h1, q⟩ := Option.bind_eq_some_iff.mp q
  obtain ⟨T, h2, q⟩ := Option.bind_eq_some_iff.mp q
  obtain ⟨b, h3, rfl⟩ := Option.map_eq_some_iff.mp q
  refine h H0 F H σ ρ x e r h1 _ fun v F1 H1 e1 r1 => ⟨by show (2 : Nat) ≤ _; decide, fun p hp => ?_⟩
  have z := Ext.new (o := .tup [.ty U1, .ty U2]) e1.s hp
  refine ⟨v, p, _, _, [.type U1, .type U2], b, rfl, upd_same, .cons (.ty U1) (.cons (.ty U2) .nil), RepB.ty ((RepB.fr r1).ext z) z.s h2, ?_, k _ _ _ (e1.trans z) (.bl _)⟩
  unfold kit2 at h3
  unfold PySem.W.kitAny
  split at h3
  · rename_i g
    rw [kit_ty g]
    exact h3
  · rename_i g
    rw [kit_ty g]
    unfold PySem.W.kitAny PySem.W.kitAny
    rw [kit_ty h3]
    cases b <;> rfl
  · cases h3
/-! ### tuple(x), sum, all -/
def cTuple : List D → Option D
  | [.lst ds] => some (.tup ds)
  | [.tup ds] => some (.tup ds)
  | _ => none
theorem cs_tuple : CallS W (fun xs H Q => ∃ p ys, xs = [.ref p] ∧ ((SqL W.K H p ys ∧ ∀ l, H l = none → Q (.ref l) (upd H l (.tup ys))) ∨ (SqT W.K H p ys ∧ Q (.ref p) H))) cTuple := fun F H vs ds d e r q Q k => by
  unfold cTuple at q
  split at q
  · obtain ⟨v, rfl, rv⟩ := r.one
    obtain ⟨a, xs, rfl, h1, h2⟩ := rv.lst e
    cases q
    refine ⟨a, xs, rfl, .inl ⟨.inl (.inl h1), fun l hl => ?_⟩⟩
    have z := Ext.new (o := .tup xs) e hl
    exact k _ _ _ z (.tup (.inl (.inl upd_same)) (h2.mono z.f))
  · obtain ⟨v, rfl, rv⟩ := r.one
    cases q
    cases rv with
    | fr rv =>
      cases rv with
      | @tup a xs _ h1 h2 => exact ⟨a, xs, rfl, .inr ⟨ex_t e h1, k _ F H (.refl e) (.tup h1 h2)⟩⟩
  · cases q
def intsD : List D → Option (List Int)
  | [] => some []
  | .int i :: ds => (intsD ds).map fun is => i :: is
  | _ => none
theorem intsD_eq {F : Hp} : ∀ {vs : List V} {ds : List D} {is : List Int}, Reps W F vs ds → intsD ds = some is → vs = is.map V.int
  | _, _, _, .nil, h => by cases h; rfl
  | _, _, _, .cons (d := d) g t, h => by
    cases d with
    | int i =>
      obtain ⟨js, h1, rfl⟩ := Option.map_eq_some_iff.mp h
      cases g
      rw [intsD_eq t h1]
      rfl
    | _ => cases h
def cSum : List D → Option D
  | [.lst ds] => (intsD ds).map fun is => .int is.sum
  | _ => none
theorem cs_sum : CallS W (rSum W.K) cSum := fun F H vs ds d e r q Q k => by
  unfold cSum at q
  split at q
  · obtain ⟨v, rfl, rv⟩ := r.one
    obtain ⟨a, xs, rfl, h1, h2⟩ := rv.lst e
    obtain ⟨is, h3, rfl⟩ := Option.map_eq_some_iff.mp q
    obtain rfl := intsD_eq h2 h3
    exact ⟨a, is, rfl, .inl (.inl h1), k _ F H (.refl e) (.int _)⟩
  · cases q
def boolsD : List D → Option (List Bool)
  | [] => some []
  | .bool i :: ds => (boolsD ds).map fun is => i :: is
  | _ => none
theorem boolsD_eq {F : Hp} : ∀ {vs : List V} {ds : List D} {is : List Bool}, Reps W F vs ds → boolsD ds = some is → vs = is.map V.bl
  | _, _, _, .nil, h => by cases h; rfl
  | _, _, _, .cons (d := d) g t, h => by
    cases d with
    | bool i =>
      obtain ⟨js, h1, rfl⟩ := Option.map_eq_some_iff.mp h
      cases g
      rw [boolsD_eq t h1]
      rfl
    | _ => cases h
def cAll : List D → Option D
  | [.lst ds] => (boolsD ds).map fun is => .bool (is.all id)
  | _ => none
theorem cs_all : CallS W (rAll W.K) cAll := fun F H vs ds d e r q Q k => by
  unfold cAll at q
  split at q
  · obtain ⟨v, rfl, rv⟩ := r.one
    obtain ⟨a, xs, rfl, h1, h2⟩ := rv.lst e
    obtain ⟨is, h3, rfl⟩ := Option.map_eq_some_iff.mp q
    obtain rfl := boolsD_eq h2 h3
    exact ⟨a, is, rfl, .inl (.inl h1), k _ F H (.refl e) (.bl _)⟩
  · cases q
/-! ### join, index -/
def strsD : List D → Option (List Str)
  | [] => some []
  | .str i :: ds => (strsD ds).map fun is => i :: is
  | _ => none
theorem strsD_eq {F : Hp} : ∀ {vs : List V} {ds : List D} {is : List Str}, Reps W F vs ds → strsD ds = some is → vs = is.map V.str
  | _, _, _, .nil, h => by cases h; rfl
  | _, _, _, .cons (d := d) g t, h => by
    cases d with
    | str i =>
      obtain ⟨js, h1, rfl⟩ := Option.map_eq_some_iff.mp h
      cases g
      rw [strsD_eq t h1]
      rfl
    | _ => cases h
def cJoin : D → List D → Option D
  | .str a, [.lst ds] => (strsD ds).bind fun ys => if cap ((ys.map (·.length)).sum + ys.length * a.length) = true then some (.str (Txt.join a ys)) else none
  | _, _ => none
theorem mts_join : MtS W "str" (fun x xs H Q => ∃ a p, ∃ ys : List Str, x = .str a ∧ xs = [.ref p] ∧ (SqL W.K H p (ys.map V.str) ∨ SqT W.K H p (ys.map V.str)) ∧ (ys.map (·.length)).sum + ys.length * a.length ≤ 16777216 ∧ Q (.str (Txt.join a ys)) H) cJoin := fun F H v a vs ds d e ra r q Q k => by
  unfold cJoin at q
  split at q
  · obtain ⟨u, rfl, rv⟩ := r.one
    obtain ⟨p, xs, rfl, h1, h2⟩ := rv.lst e
    obtain ⟨ys, h3, q⟩ := Option.bind_eq_some_iff.mp q
    split at q
    · rename_i hc
      cases q
      obtain rfl := strsD_eq h2 h3
      obtain rfl := ra.str
      refine ⟨_, p, ys, rfl, rfl, .inl (.inl (.inl h1)), Nat.le_trans (Nat.le_of_ble_eq_true hc) (by decide), k _ F H (.refl e) (.str _)⟩
    · cases q
  · cases q
end
end CP
/-! part CpX -/
set_option Elab.async false
set_option linter.all false
set_option maxRecDepth 100000
set_option maxHeartbeats 4000000
namespace CPX
open PySem PySem.Spec PyProof.Rows L2
/-! ### zip of a list and a tuple -/
def ItzM (K : PySem.W.Frag) (a b : Addr) : It :=
  ⟨fun i H => ∃ (xs ys : List V) (x y : V), SqL K H a xs ∧ SqT K H b ys ∧ xs[i]? = some x ∧ ys[i]? = some y,
    fun i H v H' => ∃ T x y, v = .ref T ∧ H T = none ∧ H' = upd H T (.tup [x, y]) ∧ (∀ xs, SqL K H a xs → xs[i]? = some x) ∧ ∀ ys, SqT K H b ys → ys[i]? = some y,
    fun i H => ∃ xs ys : List V, SqL K H a xs ∧ SqT K H b ys ∧ xs.length = i ∧ ys.length = i⟩
theorem turn_zipM {P : Program} {w : World} {K : PySem.W.Frag} {elts : List Expr} {kk : Nat} {tpos : Pos} {a b z TI TO i1 i2 : Addr} (D : ZipSep2 z TI TO i1 i2 [i1, a] [i2, b]) (ha : a ≠ i1) (hb : b ≠ i2) :
    Turn P w K (.Tuple elts kk tpos) (ItzM K a b) [z, TI, TO, i1, i2] z (fun i h => IsZip h z TI TO .none ∧ IsTupOf2 h TI (.ref i1) (.ref i2) ∧ (∃ x y, IsTupOf2 h TO x y) ∧ h.IsListIter i1 a i ∧ h.IsTupleIter i2 b i) where
  mem := by simp
  obj := fun i h st c hc => by
    obtain ⟨q1, q2, ⟨x, y, q3⟩, ⟨u1, e1, _, d1⟩, ⟨u2, e2, _, d2⟩⟩ := st
    simp only [List.mem_cons, List.mem_nil_iff, or_false] at hc
    rcases hc with rfl | rfl | rfl | rfl | rfl
    · exact ⟨_, q1, fun v q => nomatch q⟩
    · exact ⟨_, q2, fun v q => nomatch q⟩
    · exact ⟨_, q3, fun v q => nomatch q⟩
    · exact ⟨u1, e1, fun v q => by rw [d1] at q; cases q⟩
    · exact ⟨u2, e2, fun v q => by rw [d2] at q; cases q⟩
  keep := fun i h h' ⟨q1, q2, ⟨x, y, q3⟩, q4, q5⟩ k =>
    ⟨k z (by simp) _ q1, k TI (by simp) _ q2, ⟨x, y, k TO (by simp) _ q3⟩, q4.at fun o q => k i1 (by simp) o q, q5.at fun o q => k i2 (by simp) o q⟩
  item := by
    intro X eP ew eK hc i pins s σ H E I hf ⟨q1, q2, ⟨x0, y0, q3⟩, q4, q5⟩ ⟨xs, ys, x, y, sx, sy, hx, hy⟩
    subst eP ew eK
    obtain ⟨ux, rx, px, _⟩ := I.list sx
    obtain ⟨uy, ry, py, _⟩ := I.tuple sy
    obtain ⟨u, hu, ru⟩ := rx.get hx
    obtain ⟨v, hv, rv⟩ := ry.get hy
    have lz : z < s.heap.objs.size := Heap.lt_size q1
    have nx : i < ux.toArray.size := by have := (List.getElem?_eq_some_iff.mp hu).1; simpa using this
    have ny : i < uy.toArray.size := by have := (List.getElem?_eq_some_iff.mp hv).1; simpa using this
    have hh := (I.ok.hd hc)
    refine wpAny_pyNext_zipD2_item D (Draws.list (A := X.A.in1) hh i1 a ha ux.toArray) (Draws.tuple (A := X.A.in1) hh i2 b hb uy.toArray) q1 q2 q3 ⟨q4, px.isList⟩ ⟨q5, py⟩ nx ny fun w1 w2 h' tk g1 g2 z' TO' s1' s2' T' sz k => ?_
    have e1 : w1 = u := by have g : ux[i]? = some w1 := by simpa using g1
                           rw [hu] at g; exact (Option.some.inj g).symm
    have e2 : w2 = v := by have g : uy[i]? = some w2 := by simpa using g2
                           rw [hv] at g; exact (Option.some.inj g).symm
    subst e1 e2
    refine ⟨_, rfl, wpAny_letOwnedTupleGo_zip (s := { s with heap := h', toks := tk }) z' fun h2 z2 sb => ?_⟩
    have T2 : h2.get? s.heap.objs.size = some { cls := .type "tuple", data := .seq #[w1, w2] } := (sb.2 _ (Nat.ne_of_gt lz)).trans T'
    have new : ObjOk X.prog X.w (upd H s.heap.objs.size (.tup [x, y])) h2 s.heap.objs.size (.tup [x, y]) := ⟨by show (2 : Nat) ≤ sizeLine; decide, [w1, w2], .cons ru (.cons rv .nil), ⟨_, T2, rfl, _, rfl⟩⟩
    have I1 : Inv X pins σ (upd H s.heap.objs.size (.tup [x, y])) { s with heap := h2, toks := tk } :=
      I.turnedNew (t' := tk) (ch := [z, TI, TO, i1, i2]) (fun c o hb q => by
        simp only [List.mem_cons, List.mem_nil_iff, or_false, not_or] at hb
        exact (sb.2 c hb.1).trans (k c o hb.1 hb.2.2.1 hb.2.2.2.1 hb.2.2.2.2 q)) hf (Nat.le_refl _) new
    refine ⟨.ref s.heap.objs.size, _, I1, rfl, ⟨_, x, y, rfl, I.hok.fresh (Nat.le_refl _), rfl, fun l hl => by rw [I.list_inj hl sx]; exact hx, fun l hl => by rw [I.tuple_inj hl sy]; exact hy⟩, ⟨z2, (sb.2 _ D.TIz).trans (k _ _ D.TIz D.TITO D.TIi1 D.TIi2 q2), ⟨w1, w2, (sb.2 _ D.TOz).trans TO'⟩, ?_, ?_⟩, fun c hcm => ?_⟩
    · exact s1'.1.at fun o q => (sb.2 _ (fun e => D.zf1 (by rw [← e]; simp))).trans q
    · exact s2'.1.at fun o q => (sb.2 _ (fun e => D.zf2 (by rw [← e]; simp))).trans q
    · have hlt : c < s.heap.objs.size := by
        simp only [List.mem_cons, List.mem_nil_iff, or_false] at hcm
        rcases hcm with rfl | rfl | rfl | rfl | rfl
        · exact lz
        · exact Heap.lt_size q2
        · exact Heap.lt_size q3
        · obtain ⟨_, g, _⟩ := q4; exact Heap.lt_size g
        · obtain ⟨_, g, _⟩ := q5; exact Heap.lt_size g
      rw [upd_ne (Nat.ne_of_lt hlt)]
      exact (hf c hcm).1
  done := by
    intro X eP ew eK hc i pins s σ H E I hf ⟨q1, q2, ⟨x0, y0, q3⟩, q4, q5⟩ ⟨xs, ys, sx, sy, hx, hy⟩
    subst eP ew eK
    obtain ⟨ux, rx, px, _⟩ := I.list sx
    obtain ⟨uy, ry, py, _⟩ := I.tuple sy
    have hh := (I.ok.hd hc)
    have nx : i = ux.toArray.size := by have := rx.length; simp; omega
    have ny : i = uy.toArray.size := by have := ry.length; simp; omega
    refine wpAny_pyNext_zipD2_end D (Draws.list (A := X.A.in1) hh i1 a ha ux.toArray) (Draws.tuple (A := X.A.in1) hh i2 b hb uy.toArray) q1 q2 q3 ⟨q4, px.isList⟩ ⟨q5, py⟩ (Nat.le_of_eq nx) (Nat.le_of_eq ny) (.inl nx) fun h' tk k => ⟨rfl, ?_⟩
    exact I.turnedL (t' := tk) (ch := [z, TI, TO, i1, i2]) (fun c o hb q => by
      simp only [List.mem_cons, List.mem_nil_iff, or_false, not_or] at hb
      exact k c o hb.1 hb.2.2.1 hb.2.2.2.1 hb.2.2.2.2 q) hf
  self := fun A i s Q E st h => wpAny_pyIter_zip st.1 h
def iZipM (K : PySem.W.Frag) (ta : TA) : TI := fun σ H R => ta σ H fun vs H1 => ∃ a b xs ys, vs = [.ref a, .ref b] ∧ SqL K H1 a xs ∧ SqT K H1 b ys ∧ R (ItzM K a b) H1
theorem pi_zipM {X : Cx} {e e2 : Expr} {ta : TA} {p pos tpos : Pos} {elts : List Expr} {kk : Nat} (hg : Gl X "zip") (hm : X.mg "zip" = none) (ha : PA X [e, e2] ta)
    (hs : starEach [e, e2] X.env = (false, eval e X.env) :: starEach [e2] X.env := by rfl) (hpl : (backTo pos (starEach [e2] X.env)).any (·.1) = false := by rfl) :
    PI X (.Tuple elts kk tpos) (.Call (.Name "zip" p) [e, e2] [] pos) (iZipM X.K ta) := by
  refine ⟨fun pins s σ H R I h => Call_ (ld_blt I hg hm PyProof.Rows.boot_zip (PyProof.Rows.callWith_type1 (thn (ha.run pos pins s σ H _ I h) fun us s1 ⟨vs, H1, I1, r1, q1⟩ => ?_) hs hpl))⟩
  obtain ⟨a, b, xs, ys, rfl, sx, sy, q⟩ := q1
  obtain ⟨u, us2, rfl, r, rr⟩ : ∃ u us2, us = u :: us2 ∧ RelV (.ref a) u ∧ Vals [.ref b] us2 := by cases r1 with | cons r rr => exact ⟨_, _, rfl, r, rr⟩
  obtain ⟨v, rfl, r'⟩ : ∃ v, us2 = [v] ∧ RelV (.ref b) v := by
    cases rr with
    | cons r rr => cases rr; exact ⟨_, rfl, r⟩
  cases r
  cases r'
  obtain ⟨ux, rx, px, _⟩ := I1.list sx
  obtain ⟨uy, ry, py, _⟩ := I1.tuple sy
  have la : a < s1.heap.objs.size := px.lt
  have lb : b < s1.heap.objs.size := py.lt
  refine zip_begins2 (begins_list a ux.toArray) (begins_tuple b uy.toArray) px.isList py fun h' hz hTI hTO h1 h2 hsz hk => wpAny_pyIter_zip hz ?_
  have I2 : Inv X pins σ H1 { s1 with heap := h' } := I1.kept (t' := s1.toks) hk
  refine ⟨s1.heap.objs.size + 4, [s1.heap.objs.size + 4, s1.heap.objs.size + 2, s1.heap.objs.size + 3, s1.heap.objs.size, s1.heap.objs.size + 1], _, _, H1, rfl, I2, turn_zipM (zip_sep2 (fp1 := [a]) (fp2 := [b]) (fun c hc => by rw [List.mem_singleton.mp hc]; exact la) fun c hc => by rw [List.mem_singleton.mp hc]; exact lb) (Nat.ne_of_lt la) (Nat.ne_of_lt (Nat.lt_succ_of_lt lb)),
    ⟨hz, hTI, ⟨_, _, hTO⟩, ⟨_, h1, rfl, rfl⟩, ⟨_, h2, rfl, rfl⟩⟩, fun c hc => ?_, q⟩
  have hle : s1.heap.objs.size ≤ c := by
    simp only [List.mem_cons, List.mem_nil_iff, or_false] at hc
    rcases hc with rfl | rfl | rfl | rfl | rfl
    · exact Nat.le_add_right _ _
    · exact Nat.le_add_right _ _
    · exact Nat.le_add_right _ _
    · exact Nat.le_refl _
    · exact Nat.le_add_right _ _
  exact I1.fpOk hle (I1.hok.fresh hle)
end CPX
/-! part CpY -/
set_option Elab.async false
set_option linter.all false
set_option maxRecDepth 100000
set_option maxHeartbeats 4000000
namespace CPX
open PySem PySem.Spec PyProof.Rows L2
open Sem (wp)
open AutoSeq1 (wpAny_loadPart')
/-! ### enumerate of a tuple -/
theorem meets_enumT (a : Addr) (its : Array Value) :
    Meets (Builtin.«enumerate.__new__» ⟨[.type "enumerate", .ref a], []⟩) (fun _ R s => s.heap.IsTuple a its ∧
      R (.ok (.ret (.ref (s.heap.push { cls := .type "tuple_iterator", data := .fields #[.ref a, .int 0 0] }).objs.size)))
        { s with heap := (s.heap.push { cls := .type "tuple_iterator", data := .fields #[.ref a, .int 0 0] }).push { cls := .type "enumerate", data := .fields #[.none, .bool false, .ref s.heap.objs.size, rawInt 0, .none, .none] } }) :=
  .of_wp fun prog w A R s ⟨tp, h⟩ => by
    obtain ⟨hp, g, d, tk, os⟩ := s
    have sb := sub_enumerate
    have L : Heap.IsTuple (Shared.heap ⟨hp, g, d, tk, os⟩) a its := tp
    obtain ⟨o, ho, hc, n, hd⟩ := id tp
    wp_walk using wpAny_loadPart' ho
    refine wpAny_stack_any fun st => wpAny_pure ?_
    split
    · rename_i c _ _ _ _ _
      cases (c == Value.type "enumerate")
      · wp_walk using wpAny_loadPart' ho, wpAny_pyIter_tuple L
        exact ⟨_, rfl, h⟩
      · wp_walk using wpAny_loadPart' ho, wpAny_pyIter_tuple L
        exact ⟨_, rfl, h⟩
    · wp_walk using wpAny_loadPart' ho, wpAny_pyIter_tuple L
      exact ⟨_, rfl, h⟩
theorem call_enumT {prog : Program} {w : World} {A : Around} {E : Value → Shared → Prop} {s : Shared} {a : Addr} {its : Array Value} {Q : Value → Shared → Prop} (hL : s.heap.IsTuple a its)
    (h : ∀ h', IsEnum h' (s.heap.objs.size + 1) s.heap.objs.size 0 .none → h'.IsTupleIter s.heap.objs.size a 0 → (∀ b o, s.heap.get? b = some o → h'.get? b = some o) → Q (.ref (s.heap.objs.size + 1)) { s with heap := h' }) :
    wpAny (model prog w) A (call (.type "enumerate") [.ref a]) Q E s := by
  refine callType_new F.called_enumerate (by decide) (F.typeCall_enumerate_1 _) (F.newCall_enumerate_1 _) (fun obj => F.args_object_init_2 obj _) F.entry_enumerate_new (meets_enumT a its) ⟨hL, ?_⟩
  generalize hi : ({ cls := .type "tuple_iterator", data := .fields #[.ref a, .int 0 0] } : Obj) = ob
  have sz : (s.heap.push ob).objs.size = s.heap.objs.size + 1 := Heap.size_push ..
  have g2 := Heap.get?_push_size (s.heap.push ob) (o := { cls := .type "enumerate", data := .fields #[.none, .bool false, .ref s.heap.objs.size, rawInt 0, .none, .none] }) rfl
  have g1 : (s.heap.push ob).get? s.heap.objs.size = some ob := Heap.get?_push_size _ (by rw [← hi]; rfl)
  show _ ∧ _
  rw [sz] at g2 ⊢
  exact ⟨⟨_, g2, rfl⟩, h _ g2 ⟨_, Heap.get?_push_of_some _ g1, by rw [← hi], by rw [← hi]; rfl⟩ fun b o e => Heap.get?_push_of_some _ (Heap.get?_push_of_some _ e)⟩
def IteT (K : PySem.W.Frag) (a : Addr) : It :=
  ⟨fun i H => ∃ (xs : List V) (x : V), SqT K H a xs ∧ xs[i]? = some x, fun i H v H' => ∃ T x, v = .ref T ∧ H T = none ∧ H' = upd H T (.tup [.int (i : Nat), x]) ∧ ∀ xs, SqT K H a xs → xs[i]? = some x, fun i H => ∃ xs : List V, SqT K H a xs ∧ xs.length = i⟩
theorem turn_enumT {P : Program} {w : World} {K : PySem.W.Frag} {elts : List Expr} {kk : Nat} {tpos : Pos} (a e it : Addr) (ha : a ≠ it) (hea : e ≠ a) :
    Turn P w K (.Tuple elts kk tpos) (IteT K a) [e, it] e (fun i h => (∃ old, IsEnum h e it ((i : Nat) : Int) old) ∧ h.IsTupleIter it a i ∧ e ≠ it) where
  mem := by simp
  obj := fun i h ⟨⟨old, q1⟩, ⟨o, q2, _, qd⟩, _⟩ b hb => by
    simp only [List.mem_cons, List.mem_nil_iff, or_false] at hb
    rcases hb with rfl | rfl
    · exact ⟨_, q1, fun v q => nomatch q⟩
    · exact ⟨o, q2, fun v q => by rw [qd] at q; cases q⟩
  keep := fun i h h' ⟨⟨old, q1⟩, q2, q3⟩ k => ⟨⟨old, k e (by simp) _ q1⟩, q2.at fun o q => k it (by simp) o q, q3⟩
  item := by
    intro X eP ew eK hc i pins s σ H E I hf ⟨⟨old, q1⟩, q2, q3⟩ ⟨xs, x, sx, hx⟩
    subst eP ew eK
    obtain ⟨ux, rx, px, _⟩ := I.tuple sx
    obtain ⟨u, hu, ru⟩ := rx.get hx
    have le : e < s.heap.objs.size := Heap.lt_size q1
    have nx : i < ux.toArray.size := by have := (List.getElem?_eq_some_iff.mp hu).1; simpa using this
    refine wpAny_pyNext_enum_itemD (Draws.tuple (A := X.A.in1) (I.ok.hd hc) it a ha ux.toArray) q1 ⟨q2, px⟩ nx q3 (by simp [q3, hea]) fun w1 h' tk g1 ho s1' T' sz k => ?_
    have e1 : w1 = u := by have g : ux[i]? = some w1 := by simpa using g1
                           rw [hu] at g; exact (Option.some.inj g).symm
    subst e1
    refine ⟨_, rfl, wpAny_letOwnedTupleGo_enum (s := { s with heap := h', toks := tk + 1 }) ho fun h2 q1' sb => ?_⟩
    have T2 : h2.get? s.heap.objs.size = some { cls := .type "tuple", data := .seq #[.int i tk, w1] } := (sb.2 _ (Nat.ne_of_gt le)).trans T'
    have new : ObjOk X.prog X.w (upd H s.heap.objs.size (.tup [.int (i : Nat), x])) h2 s.heap.objs.size (.tup [.int (i : Nat), x]) := ⟨by show (2 : Nat) ≤ sizeLine; decide, [.int i tk, w1], .cons ⟨_, rfl⟩ (.cons ru .nil), ⟨_, T2, rfl, _, rfl⟩⟩
    have I1 : Inv X pins σ (upd H s.heap.objs.size (.tup [.int (i : Nat), x])) { s with heap := h2, toks := tk + 1 } :=
      I.turnedNew (t' := tk + 1) (ch := [e, it]) (fun c o hb q => by
        simp only [List.mem_cons, List.mem_nil_iff, or_false, not_or] at hb
        exact (sb.2 c hb.1).trans (k c o hb.1 hb.2 q)) hf (Nat.le_refl _) new
    refine ⟨.ref s.heap.objs.size, _, I1, rfl, ⟨_, x, rfl, I.hok.fresh (Nat.le_refl _), rfl, fun l hl => by rw [I.tuple_inj hl sx]; exact hx⟩, ⟨⟨w1, ?_⟩, s1'.1.at fun o q => (sb.2 it (Ne.symm q3)).trans q, q3⟩, fun b hb => ?_⟩
    · rw [show ((i + 1 : Nat) : Int) = (i : Int) + 1 by omega]
      exact q1'
    · have hlt : b < s.heap.objs.size := by
        simp only [List.mem_cons, List.mem_nil_iff, or_false] at hb
        rcases hb with rfl | rfl
        · exact le
        · obtain ⟨_, g, _⟩ := q2; exact Heap.lt_size g
      rw [upd_ne (Nat.ne_of_lt hlt)]
      exact (hf b hb).1
  done := by
    intro X eP ew eK hc i pins s σ H E I hf ⟨⟨old, q1⟩, q2, q3⟩ ⟨xs, sx, hx⟩
    subst eP ew eK
    obtain ⟨ux, rx, px, _⟩ := I.tuple sx
    have nx : ux.toArray.size = i := by have := rx.length; simp; omega
    obtain ⟨f0, f1, f2, f3, f4, f5⟩ := hf it (by simp)
    refine wpAny_pyNext_enum_endD (Draws.tuple (A := X.A.in1) (I.ok.hd hc) it a ha ux.toArray) q1 (by rw [nx]; exact ⟨q2, px⟩) fun h' eb => ⟨rfl, I.turned (t' := s.toks) (fun b o hb q => eb b o hb q) f0 f1 f3 f4 f5⟩
  self := fun A i s Q E ⟨⟨_, q1⟩, _⟩ h => wpAny_pyIter_enum q1 h
def iEnumT (K : PySem.W.Frag) (ta : TA) : TI := fun σ H R => ta σ H fun vs H1 => ∃ a xs, vs = [.ref a] ∧ SqT K H1 a xs ∧ R (IteT K a) H1
theorem pi_enumT {X : Cx} {e : Expr} {ta : TA} {p pos tpos : Pos} {elts : List Expr} {kk : Nat} (hg : Gl X "enumerate") (hm : X.mg "enumerate" = none) (ha : PA X [e] ta) (hs : starEach [e] X.env = [(false, eval e X.env)] := by rfl) :
    PI X (.Tuple elts kk tpos) (.Call (.Name "enumerate" p) [e] [] pos) (iEnumT X.K ta) := by
  refine ⟨fun pins s σ H R I h => Call_ (ld_blt I hg hm boot_enumerate (PyProof.Rows.callWith_type1 (thn (ha.run pos pins s σ H _ I h) fun us s1 ⟨vs, H1, I1, r1, a, xs, ex, sx, q⟩ => ?_) hs rfl))⟩
  subst ex
  obtain ⟨u, rfl, r⟩ : ∃ u, us = [u] ∧ RelV (.ref a) u := by
    cases r1 with
    | cons r rr => cases rr; exact ⟨_, rfl, r⟩
  cases r
  obtain ⟨ux, rx, px, _⟩ := I1.tuple sx
  have la : a < s1.heap.objs.size := px.lt
  refine call_enumT px fun h' he hit hk => wpAny_pyIter_enum he ?_
  have I2 : Inv X pins σ H1 { s1 with heap := h' } := I1.kept (t' := s1.toks) hk
  refine ⟨s1.heap.objs.size + 1, [s1.heap.objs.size + 1, s1.heap.objs.size], _, _, H1, rfl, I2, turn_enumT a (s1.heap.objs.size + 1) s1.heap.objs.size (Nat.ne_of_lt la) (Nat.ne_of_gt (Nat.lt_succ_of_lt la)), ⟨⟨.none, he⟩, hit, Nat.succ_ne_self _⟩, fun b hb => ?_, q⟩
  have hle : s1.heap.objs.size ≤ b := by
    simp only [List.mem_cons, List.mem_nil_iff, or_false] at hb
    rcases hb with rfl | rfl
    · exact Nat.le_add_right _ _
    · exact Nat.le_refl _
  exact I1.fpOk hle (I1.hok.fresh hle)
/-! ### ranges by a step, as a tuple, a list -/
def PRgC (X : Cx) (e : Expr) (t : L2.St → Hp → (Int → Int → Int → Nat → Hp → Prop) → Prop) : Prop :=
  ∀ (pins : List (Addr × Obj)) (s : Shared) (σ : L2.St) (H : Hp) (Q : Int → Int → Int → Nat → Hp → Prop), Inv X pins σ H s → t σ H Q →
    wpAny (model X.prog X.w) X.A (eval e X.env) (fun x s' => ∃ r a b c n t u v H', x = .ref r ∧ IsRange s'.heap r a b c t u v ∧ Inv X pins σ H' s' ∧ RgC a b c n ∧ Q a b c n H') X.xe s
def tRgC (ta : TA) : L2.St → Hp → (Int → Int → Int → Nat → Hp → Prop) → Prop := fun σ H Q => ta σ H fun vs H1 => ∃ i j c n, vs = [.int i, .int j, .int c] ∧ RgC i j c n ∧ Q i j c n H1
theorem prg_3 {X : Cx} {a b c : Expr} {ta : TA} {p pos : Pos} (hg : Gl X "range") (hm : X.mg "range" = none) (ha : PA X [a, b, c] ta) (hs : starEach [a, b, c] X.env = (false, eval a X.env) :: starEach [b, c] X.env := by rfl) (hpl : (backTo pos (starEach [b, c] X.env)).any (·.1) = false := by rfl) :
    PRgC X (.Call (.Name "range" p) [a, b, c] [] pos) (tRgC ta) := by
  intro pins s σ H Q I h
  refine Call_ (ld_blt I hg hm boot_range (PyProof.Rows.callWith_type1 (thn (ha.run pos pins s σ H _ I h) fun us s1 ⟨vs, H1, I1, r1, q⟩ => ?_) hs hpl))
  obtain ⟨i, j, k, n, rfl, ok, q⟩ := q
  have ok' := ok
  obtain ⟨c0, c1, c2, c3⟩ := ok
  cases r1 with
  | cons r r1 =>
    cases r1 with
    | cons r' r1 =>
      cases r1 with
      | cons r'' r1 =>
        cases r1
        obtain ⟨t1, rfl⟩ := r
        obtain ⟨t2, rfl⟩ := r'
        obtain ⟨t3, rfl⟩ := r''
        exact call_range_3 c0 ⟨_, i, j, k, n, _, _, _, H1, rfl, IsRange.new _ _ _ _ _ _ _, I1.kept fun b u e => Heap.get?_push_of_some _ e, ok', q⟩ (.inl (PyProof.noPylong_small c1))
def rgC (a c : Int) (n : Nat) : List V := (List.range n).map fun i : Nat => V.int (a + (i : Int) * c)
theorem vals_rgC {a c : Int} {n : Nat} {acc : Array Value} (h : ItemsOf (fun i v => ∃ t, v = .int (a + i * c) t) acc n) : Vals (rgC a c n) acc.toList := by
  have e : acc.toList.length = n := by rw [Array.length_toList]; exact h.1
  unfold rgC
  rw [← e]
  refine vals_of_get acc.toList _ fun j u hj => ?_
  obtain ⟨t, rfl⟩ := h.2 j u (by rw [← hj, Array.getElem?_toList])
  exact ⟨t, rfl⟩
def tTupRgC (te : L2.St → Hp → (Int → Int → Int → Nat → Hp → Prop) → Prop) : TE := fun σ H Q => te σ H fun a b c n H1 => n ≤ 2 ^ 24 ∧ ∀ q, H1 q = none → Q (.ref q) (upd H1 q (.tup (rgC a c n)))
def tLstRgC (te : L2.St → Hp → (Int → Int → Int → Nat → Hp → Prop) → Prop) : TE := fun σ H Q => te σ H fun a b c n H1 => n ≤ 2 ^ 24 ∧ ∀ q, H1 q = none → Q (.ref q) (upd H1 q (.lst (rgC a c n)))
theorem pe_tupRgC {X : Cx} {e : Expr} {te : L2.St → Hp → (Int → Int → Int → Nat → Hp → Prop) → Prop} {p pos : Pos} (hc : X.calm = true) (hg : Gl X "tuple") (hm : X.mg "tuple" = none) (he : PRgC X e te) (na : starEach [e] X.env = (false, eval e X.env) :: starEach [] X.env := by rfl) : PE X (.Call (.Name "tuple" p) [e] [] pos) (tTupRgC te) := by
  refine ⟨fun pins s σ H Q I h => Call_ (ld_blt I hg hm boot_tuple (PyProof.Rows.callWith_type1 (args_cons (thn (he pins s σ H _ I h) fun x s1 ⟨r, a, b, c, n, t, u, v, H1, ex, hr, I1, ⟨c0, c1, c2, c3⟩, ok, q⟩ => args_nil ?_) na) na))⟩
  subst ex
  refine call_tuple_range (n := n) (I1.ok.hd hc) hr c2 c3 ok fun h' tk acc hk hi => ?_
  have I2 : Inv X pins σ H1 { s1 with heap := h', toks := tk } := I1.kept hk
  have hz : (rgC a c n).length ≤ sizeLine := by unfold rgC; rw [List.length_map, List.length_range, sizeLine_eq]; omega
  refine ⟨.ref h'.objs.size, upd H1 h'.objs.size (.tup (rgC a c n)), I2.laid (t' := tk) (fun c o e => Heap.get?_push_of_some _ e) (Nat.le_refl _) (show ObjOk X.prog X.w _ _ _ (.tup (rgC a c n)) from ⟨hz, acc.toList, vals_rgC hi, ?_⟩), rfl, q _ (I2.hok.fresh (Nat.le_refl _))⟩
  rw [Array.toArray_toList]
  exact IsTup.new _ _
theorem pe_listRgC {X : Cx} {e : Expr} {te : L2.St → Hp → (Int → Int → Int → Nat → Hp → Prop) → Prop} {p pos : Pos} (hc : X.calm = true) (hg : Gl X "list") (hm : X.mg "list" = none) (he : PRgC X e te) (na : starEach [e] X.env = (false, eval e X.env) :: starEach [] X.env := by rfl) : PE X (.Call (.Name "list" p) [e] [] pos) (tLstRgC te) := by
  refine ⟨fun pins s σ H Q I h => Call_ (ld_blt I hg hm boot_list (PyProof.Rows.callWith_type1 (args_cons (thn (he pins s σ H _ I h) fun x s1 ⟨r, a, b, c, n, t, u, v, H1, ex, hr, I1, ⟨c0, c1, c2, c3⟩, ok, q⟩ => args_nil ?_) na) na))⟩
  subst ex
  refine call_list_range (n := n) (I1.ok.hd hc) hr c2 c3 ok fun h' tk acc ca hk he hi => ?_
  have hz : (rgC a c n).length ≤ sizeLine := by unfold rgC; rw [List.length_map, List.length_range, sizeLine_eq]; omega
  refine ⟨.ref s1.heap.objs.size, upd H1 s1.heap.objs.size (.lst (rgC a c n)), I1.laid hk (Nat.le_refl _) (show ObjOk X.prog X.w _ _ _ (.lst (rgC a c n)) from ⟨hz, acc.toList, ca, vals_rgC hi, ?_⟩), rfl, q _ (I1.hok.fresh (Nat.le_refl _))⟩
  rw [Array.toArray_toList]
  exact he
/-! ### tuples whose objects are known; dict(tuple of pairs) -/
def TupF (H : Hp) (a : Addr) (xs : List V) : Prop := ∃ o, H a = some (.frz o (.tup xs)) ∧ o.cls = .type "tuple" ∧ o.dict = none
def tUnitF : TE := fun σ H Q => ∀ p, H p = none → Q (.ref p) (upd H p (.frz ({ cls := .type "tuple", data := .seq #[] } : Obj) (.tup [])))
theorem pe_unitF {X : Cx} {x1} {pos : Pos} : PE X (.Tuple [] x1 pos) tUnitF := by
  refine ⟨fun pins s σ H Q I h => wpAny_Tuple_spliced (PyProof.Rows.args_nil ⟨by show (0 : Nat) ≤ _; exact Nat.zero_le _, ?_⟩)⟩
  have hf : H s.heap.objs.size = none := I.hok.fresh (Nat.le_refl _)
  have g := Heap.get?_push_size s.heap (o := ({ cls := .type "tuple", data := .seq ([] : List Value).toArray } : Obj)) rfl
  exact ⟨.ref s.heap.objs.size, _, I.laid (t' := s.toks) (fun b u e => Heap.get?_push_of_some _ e) (Nat.le_refl _) (show ObjOk X.prog X.w _ _ _ (.frz ({ cls := .type "tuple", data := .seq ([] : List Value).toArray } : Obj) (.tup [])) from ⟨g, Nat.zero_le _, [], .nil, ⟨_, g, rfl, _, rfl⟩⟩), rfl, h _ hf⟩
/-- tuple(a list), the object known -/
def rTupF (K : PySem.W.Frag) : List V → Hp → VK → Prop := fun xs H Q => ∃ p ys, xs = [.ref p] ∧ SqL K H p ys ∧ ∀ l o, H l = none → o.cls = .type "tuple" → o.dict = none → Q (.ref l) (upd H l (.frz o (.tup ys)))
theorem call_tupF {X : Cx} : CallR X (.type "tuple") (rTupF X.K) := by
  intro pins s σ H xs us Q I r ⟨p, ys, ex, sy, q⟩
  subst ex
  obtain ⟨u, rfl, rx⟩ := vals1 r
  cases rx
  obtain ⟨its, rv, pl, hz⟩ := I.list sy
  refine call_tuple_list pl.isList (fun h' hk => ?_) (by rw [List.size_toArray, ← rv.length]; exact hz)
  have I1 : Inv X pins σ H { s with heap := h' } := I.kept (t' := s.toks) hk
  have g := Heap.get?_push_size h' (o := ({ cls := .type "tuple", data := .seq its.toArray } : Obj)) rfl
  exact ⟨.ref h'.objs.size, _, I1.laid (t' := s.toks) (fun b o e => Heap.get?_push_of_some _ e) (Nat.le_refl _) (show ObjOk X.prog X.w _ _ _ (.frz ({ cls := .type "tuple", data := .seq its.toArray } : Obj) (.tup ys)) from ⟨g, hz, its, rv, ⟨_, g, rfl, _, rfl⟩⟩), rfl, q _ _ (I1.hok.fresh (Nat.le_refl _)) rfl rfl⟩
/-- dict(a tuple of pairs) -/
def rDictT (K : PySem.W.Frag) : List V → Hp → VK → Prop := fun xs H Q => ∃ (a : Addr) (ps : List Addr) (kvs : List (Key × V)), xs = [.ref a] ∧ TupF H a (ps.map V.ref) ∧ Paired (fun p kv => SqT K H p [kV kv.1, kv.2]) ps kvs ∧
    ∀ p, H p = none → Q (.ref p) (upd H p (.dK (mergeK [] kvs)))
theorem call_dictT {X : Cx} (hcalm : X.calm = true) : CallR X (.type "dict") (rDictT X.K) := by
  intro pins s σ H xs us Q I r ⟨a, ps, kvs, ex, ⟨ob, hq, hcl, hdn⟩, hp, q⟩
  subst ex
  obtain ⟨u, rfl, rx⟩ := vals1 r
  cases rx
  obtain ⟨e0, hz, its, rv, o', e1, _, n, hd⟩ := (show ObjOk X.prog X.w H s.heap a (.frz ob (.tup (ps.map V.ref))) from I.hok a _ hq)
  have eo : o' = ob := by rw [e0] at e1; exact (Option.some.inj e1).symm
  subst eo
  have ei := refs_at rv
  subst ei
  rw [List.length_map] at hz
  obtain ⟨prs, rel, hl, hpr⟩ := pairs_of I hp
  have tot : ∀ j : Nat, ∃ (b : Addr) (u : Value), ∀ q : Key × Value, prs[j]? = some q → ps[j]? = some b ∧ IsTup s.heap b #[u, q.2] ∧ keyIs q.1 u = true := fun j => by
    cases h : prs[j]? with
    | none => exact ⟨0, .none, fun q e => by cases e⟩
    | some q =>
      obtain ⟨b, u, g⟩ := hpr j q h
      exact ⟨b, u, fun q' e => by cases e; exact g⟩
  obtain ⟨Ts, hT⟩ := Classical.axiomOfChoice tot
  obtain ⟨Us, hU⟩ := Classical.axiomOfChoice hT
  have items : PairItems s.heap (ps.map Value.ref).toArray Ts ((List.range prs.length).map fun j => (Us j, ((prs[j]?).getD (.inl 0, .none)).2)) := by
    refine ⟨by simp [hl], fun j k v hj => ?_⟩
    have hjl : j < prs.length := by have := (List.getElem?_eq_some_iff.mp hj).1; simpa using this
    have hq' : prs[j]? = some prs[j] := List.getElem?_eq_getElem hjl
    obtain ⟨g1, g2, g3⟩ := hU j _ hq'
    rw [List.getElem?_map, List.getElem?_range hjl] at hj
    cases hj
    refine ⟨by simp [g1], .inl ?_⟩
    rw [hq']
    exact g2
  have P := PairArg.tuple (prog := X.prog) (w := X.w) a (ps.map Value.ref).toArray Ts ((List.range prs.length).map fun j => (Us j, ((prs[j]?).getD (.inl 0, .none)).2))
  refine PySem.call_dict_pairs (knd := mixKind X.prog X.w) (kvs := prs) P (I.ok.hd hcalm) ⟨⟨_, n, e0, hcl, hdn, hd⟩, items⟩ ?_ (by simpa [hl] using hz) fun h' tk hd' k => ?_
  · refine ⟨by simp, fun j key v hj => ?_⟩
    have hj' : ((List.range prs.length).map fun j => (Us j, ((prs[j]?).getD (.inl 0, .none)).2))[j]? = some (key, v) := hj
    have hjl : j < prs.length := by have := (List.getElem?_eq_some_iff.mp hj').1; simpa using this
    have hq' : prs[j]? = some prs[j] := List.getElem?_eq_getElem hjl
    obtain ⟨g1, g2, g3⟩ := hU j _ hq'
    rw [List.getElem?_map, List.getElem?_range hjl] at hj'
    simp only [Option.map_some, hq', Option.getD_some, Option.some.injEq, Prod.mk.injEq] at hj'
    obtain ⟨rfl, rfl⟩ := hj'
    exact ⟨prs[j].1, hq', g3⟩
  · have hm : (s.heap.objs.size == sysModules) = false := beq_eq_false_iff_ne.mpr (Nat.ne_of_gt I.big)
    have hlen : (mergeK [] kvs).length ≤ sizeLine := by
      refine Nat.le_trans (length_mergeK kvs []) ?_
      rw [List.length_nil, Nat.zero_add, rel.length, hl]
      exact hz
    exact ⟨.ref s.heap.objs.size, upd H s.heap.objs.size (.dK (mergeK [] kvs)), I.laid (t' := tk) (fun b o e => k b o (by simp) e) (Nat.le_refl _) (show ObjOk X.prog X.w _ _ _ (.dK (mergeK [] kvs)) from ⟨hlen, hm, merged [] prs, KV.merge rel .nil, hd'⟩), rfl, q _ (I.hok.fresh (Nat.le_refl _))⟩
end CPX
/-! part CpZ -/
set_option Elab.async false
set_option linter.all false
set_option maxRecDepth 100000
set_option maxHeartbeats 4000000
namespace CPX
open PySem PySem.Spec PyProof.Rows L2
/-! ### x op y, two instances of one class with a def for op -/
section
open PySem.W
theorem own_bin {prog : Program} {w : World} {A : Around} {E : Value → Shared → Prop} {s : Shared} {K : Frag} {x y C f : Addr} {ox oy : Obj} {od od2 : Option Obj} {op : Operator} {Q : Value → Shared → Prop} (X : K.In s.heap) (I : InstAt s.heap x ox C od) (J : InstAt s.heap y oy C od2) (hc : selfFirst K C = true)
    (hs : findIn K (.ref C) (PySem.dunder op.info.2) = some (some (.ref f))) (hf : isFn K (.ref f) = true) (h : wpAny (model prog w) A (call (.ref f) [.ref x, .ref y]) (PySem.W.CmpBack Q) E s) : wpAny (model prog w) A (binaryOp op (.ref x) (.ref y)) Q E s := by
  obtain ⟨cd, rest, hcd, hm⟩ := ksp_first hc
  rcases hi : op.info with ⟨sym, nm'⟩
  rw [hi] at hs
  dsimp only at hs
  have one := ksp_try X I hs hf h
  obtain ⟨hh, g, d, tt, os⟩ := s
  have L1 : Looks (model prog w) hh (typeOf (.ref x)) (.ref C) := I.type
  have L2 : Looks (model prog w) hh (typeOf (.ref y)) (.ref C) := J.type
  have L3 : Looks (model prog w) hh (fillsNumberSlot (.ref C) nm') true := fills_K X hcd hm hs
  have he : (Value.ref C == Value.ref C) = true := by simp
  simp only [binaryOp, hi]
  refine wpAny_holding (wpAny_bind ?_)
  unfold binaryOp1
  refine wpAny_bind (L1.at (wpAny_bind (L2.at (wpAny_bind (L3.at ?_)))))
  simp only [he, if_true]
  ksp_lk
  refine wpAny_mono one (fun r s' hr' => ?_) fun _ _ e => e
  obtain ⟨v, rfl, hq⟩ := hr'
  ksp_lk
  exact hq
end
def rOwnOp (C : Addr) (sp : Sp) (E : XK) : R2 := fun x y H Q => ∃ a dx fs b dy gs, x = .ref a ∧ y = .ref b ∧ H a = some (.ins C dx fs) ∧ H b = some (.ins C dy gs) ∧ sp [x, y] H Q E
theorem op_own {X : Cx} {CX : CXT} {n : Nat} {C g : Addr} {sp : Sp} {E : XK} {op : Operator} (hc : PySem.W.selfFirst X.K C = true) (hs : PySem.W.findIn X.K (.ref C) (PySem.dunder op.info.2) = some (some (.ref g))) (hf : PySem.W.isFn X.K (.ref g) = true) (F : FnR X.prog X.w X.K X.mg X.base CX n g sp)
    (hr : Room n X.A) (hx : Passes CX X E) : OpR X (binaryOp op) (rOwnOp C sp E) := by
  intro pins s σ H x y v u Q I rx ry ⟨a, dx, fs, b, dy, gs, ex, ey, ha, hb, q⟩
  subst ex ey
  cases rx
  cases ry
  obtain ⟨mA, O, _⟩ := ins_get I.hok ha
  obtain ⟨od, J, _⟩ := O.look
  obtain ⟨mA2, O2, _⟩ := ins_get I.hok hb
  obtain ⟨od2, J2, _⟩ := O2.look
  refine own_bin I.kIn J J2 hc hs hf (wpAny_mono (wpAny_call (run_fnR (us := [.ref a, .ref b]) (vs := [.ref a, .ref b]) F hr hx I (.cons rfl (.cons rfl .nil)) q)) (fun w' s' z => ?_) fun _ _ z => z)
  obtain ⟨z', H', I', rz, qz⟩ := z
  exact SlX.cmpback rz ⟨z', H', I', rz, qz⟩
end CPX
/-! part CpW -/
set_option Elab.async false
set_option linter.all false
set_option maxRecDepth 100000
set_option maxHeartbeats 4000000
namespace CPX
open PySem PySem.Spec PyProof.Rows L2
theorem nodup_le {α : Type} [DecidableEq α] : ∀ (l m : List α), l.Nodup → (∀ x ∈ l, x ∈ m) → l.length ≤ m.length
  | [], m, _, _ => Nat.zero_le _
  | a :: l, m, hn, h => by
    rw [List.nodup_cons] at hn
    have ha : a ∈ m := h a (List.mem_cons_self ..)
    have hl := nodup_le l (m.erase a) hn.2 fun x hx => (List.mem_erase_of_ne (fun (e : x = a) => hn.1 (by rw [← e]; exact hx))).mpr (h x (List.mem_cons_of_mem _ hx))
    have := List.length_erase_of_mem ha
    have hp := List.length_pos_of_mem ha
    rw [List.length_cons]
    omega
/-! ### len(set(a tuple of different ints)) -/
def tLenSetT (K : PySem.W.Frag) (ta : TE) : TE := fun σ H Q => ta σ H fun x H1 => ∃ (l : Addr) (ns : List Int), x = .ref l ∧ SqT K H1 l (ns.map V.int) ∧ ns.Nodup ∧ ns.length ≤ 1000 ∧ Q (.int (ns.length : Nat)) H1
theorem pe_lenSetT {X : Cx} {a : Expr} {ta : TE} {p p2 q pos : Pos} (hg : Gl X "len") (hm : X.mg "len" = none) (hg2 : Gl X "set") (hm2 : X.mg "set" = none) (ha : PE X a ta) (hc : X.calm = true := by rfl)
    (na : starEach [a] X.env = (false, eval a X.env) :: starEach [] X.env := by rfl) : PE X (.Call (.Name "len" p) [.Call (.Name "set" p2) [a] [] q] [] pos) (tLenSetT X.K ta) := by
  refine ⟨fun pins s σ H Q I h => Call_ (ld_blt I hg hm boot_len (PyProof.Rows.callWith_builtin1 (PyProof.Rows.args_cons (Call_ (ld_blt I hg2 hm2 boot_set (PyProof.Rows.callWith_type1 (PyProof.Rows.args_cons (thn (ha.run pins s σ H _ I h) fun v s1 ⟨x, H1, I1, r1, q1⟩ => PyProof.Rows.args_nil ?_) na) na rfl))) rfl) rfl rfl))⟩
  obtain ⟨l, ns, rfl, hq, hnd, hl, q1⟩ := q1
  cases r1
  obtain ⟨its, r, pl, hz⟩ := I1.tuple hq
  refine call_set_tupI ns (I1.ok.hd hc) pl (by simpa using RZ.intsAre_vals r) (by unfold scanBound; omega) fun h' tk c hS hcn hk => ?_
  refine PyProof.Rows.args_nil ?_
  obtain ⟨o, es, ep, t, ho, hex, hd, _, hkn, hkS, _, hf, hn, _⟩ := hS
  have hcl : c = ns.length := by
    have h1 := nodup_le ns (es.toList.map keyOf) hnd fun x hx => (hkS x).mp (by simpa using hx)
    have h2 : (es.toList.map keyOf).length = c := by rw [List.length_map]; exact hn
    rw [h2] at h1
    exact Nat.le_antisymm hcn h1
  subst hcl
  have I2 : Inv X pins σ H1 { s1 with heap := h', toks := tk } := I1.kept hk
  exact call_len_set ho hex hd hf (by rw [hn]; omega) ⟨.int ns.length, H1, I2.tok _, ⟨_, by rw [hn]⟩, q1⟩
end CPX
/-! part CpV -/
set_option Elab.async false
set_option linter.all false
set_option maxRecDepth 100000
set_option maxHeartbeats 4000000
namespace CPX
open PySem PySem.Spec PyProof.Rows L2
/-! ### t[::-1], t a tuple -/
section
variable {prog : Program} {w : World} {A : Around} {E : Value → Shared → Prop} {s : Shared}
theorem places_back (n : Nat) : Builtin.Slice.slicePlaces ((n : Int) - 1) (-1) (-1) = n := by
  unfold Builtin.Slice.slicePlaces
  rw [if_neg (by decide)]
  by_cases h : (n : Int) - 1 > -1
  · rw [if_pos h, show (-(-1) : Int) = 1 by decide, Int.ediv_one]
    omega
  · rw [if_neg h]
    omega
theorem applied_back {sl : Addr} {vs : Value} {n : Nat} {Q : Int × Int × Nat → Shared → Prop} (hs : s.heap.IsSliceOf sl .none .none vs) (ps : IsPart vs (some (-1)))
    (h : Q ((n : Int) - 1, -1, n) s) : wpAny (model prog w) A (Builtin.Slice.sliceApplied (.ref sl) (pure (n : Int))) Q E s := by
  obtain ⟨ob, g, gc, gd⟩ := id hs
  unfold Builtin.Slice.sliceApplied Builtin.Slice.sliceFields
  refine wpAny_bind (wpAny_bind (wpAny_field g gd (x := .none) rfl (wpAny_bind (wpAny_field g gd (x := .none) rfl (wpAny_bind (wpAny_field g gd (x := vs) rfl (wpAny_pure ?_)))))))
  refine wpAny_bind (HT.slicePart_ ps ?_)
  show wpAny _ _ (if ((-1 : Int) == 0) = true then _ else _) _ _ s
  rw [if_neg (by decide)]
  refine wpAny_bind (HT.slicePart_ .none (wpAny_bind (HT.slicePart_ .none (wpAny_bind (wpAny_pure ?_)))))
  show wpAny _ _ (pure ((n : Int) - 1, (-1 : Int), Builtin.Slice.slicePlaces ((n : Int) - 1) (-1) (-1))) _ _ s
  rw [places_back]
  exact wpAny_pure h
theorem fm_congr {α β : Type} {f g : α → Option β} : ∀ {l : List α}, (∀ x ∈ l, f x = g x) → l.filterMap f = l.filterMap g
  | [], _ => rfl
  | a :: l, h => by rw [List.filterMap_cons, List.filterMap_cons, h a (List.mem_cons_self ..), fm_congr fun x hx => h x (List.mem_cons_of_mem _ hx)]
theorem pick_back (xs : Array Value) : ((List.range xs.size).filterMap fun (m : Nat) => xs[(((xs.size : Int) - 1) + (m : Int) * (-1)).toNat]?).toArray = xs.toList.reverse.toArray := by
  have e : (List.range xs.size).filterMap (fun (m : Nat) => xs[(((xs.size : Int) - 1) + (m : Int) * (-1)).toNat]?) = ((List.range xs.size).map fun k => xs.size - 1 - k).filterMap (xs[·]?) := by
    rw [List.filterMap_map]
    refine fm_congr fun m hm => ?_
    have := List.mem_range.mp hm
    have e2 : (((xs.size : Int) - 1) + (m : Int) * (-1)).toNat = xs.size - 1 - m := by omega
    rw [e2]
    rfl
  rw [e, PySem.W.krv_range, List.filterMap_reverse, PySem.W.krv_all]
theorem getItem_tuple_back {t sl : Addr} {items : Array Value} {vs : Value} {Q : Value → Shared → Prop} (ht : IsTup s.heap t items) (hs : s.heap.IsSliceOf sl .none .none vs) (ps : IsPart vs (some (-1)))
    (h : Q (.ref s.heap.objs.size) { s with heap := s.heap.push { cls := .type "tuple", data := .seq items.toList.reverse.toArray } }) (hz : items.size ≤ sizeLine) : wpAny (model prog w) A (getItem (.ref t) (.ref sl)) Q E s := by
  have ok : sizeOk (.seq items.toList.reverse.toArray) := by
    show items.toList.reverse.toArray.size ≤ sizeLine
    simpa using hz
  obtain ⟨ob, g, gc, gd⟩ := id hs
  have hT : s.TypeIs (.ref sl) "slice" := ⟨ob, g, gc⟩
  unfold getItem
  try with_reducible refine wpAny_holding ?_
  first | refine wpAny_bind (wpAny_pure ?_) | skip
  refine wpAny_bind (wpAny_sequenceKey ht.typeIs (by decide) (wpAny_bind (wpAny_callSpecial?_slot (name := Str.ofString "__getitem__") ht.typeIs PyProof.Rows.slot_tuple_getitem
    (wpAny_call_entry PyProof.Rows.slot_tuple_getitem ht.typeIs entry_tuple_getitem ?_ (args_tuple_getitem _ _)))))
  show wpAny _ _ (Builtin.Tuple.tupleItemsOf (.ref t) >>= _) _ _ s
  refine wpAny_bind (PyProof.Rows.tupleItemsOf_ ht (wpAny_bind (wpAny_typeOf hT ?_)))
  rw [if_pos (by decide)]
  refine wpAny_bind (applied_back hs ps ?_)
  show wpAny _ _ (if (((items.size : Int) - 1 == 0) && ((-1 : Int) == 1) && (items.size == items.size)) = true then _ else _) _ _ s
  rw [if_neg (by simp), pick_back]
  first
    | exact wpAny_bind (m := Builtin.Tuple.tupleExact _) (wpAny_newObj_type (wpAny_pure ⟨_, rfl, wpAny_pure h⟩) ok)
    | exact wpAny_bind (wpAny_bind (m := Builtin.Tuple.tupleExact _) (wpAny_newObj_type (wpAny_pure (wpAny_pure ⟨_, rfl, wpAny_pure h⟩)) ok))
    | exact wpAny_bind (wpAny_bind (m := Builtin.Tuple.tupleExact _) (wpAny_newObj_type (wpAny_pure ⟨_, rfl, wpAny_pure h⟩) ok))
end
def tRevT (K : PySem.W.Frag) (te : TE) : TE := fun σ H Q => te σ H fun x H1 => ∃ a xs, x = .ref a ∧ SqT K H1 a xs ∧ ∀ p, H1 p = none → Q (.ref p) (upd H1 p (.tup xs.reverse))
theorem pe_revT {X : Cx} {e : Expr} {te : TE} {k : Nat} {p1 p2 p3 pos : Pos} (he : PE X e te) : PE X (.Subscript e (.Slice none none (some (.UnaryOp .USub (.Constant (.int 1) k p1) p2)) p3) pos) (tRevT X.K te) := by
  refine ⟨fun pins s σ H Q I h => Subscript_ (thn (he.run pins s σ H _ I h) fun v s1 ⟨x, H1, I1, r1, a, xs, ex, hx, q⟩ => ?_)⟩
  subst ex
  cases r1
  have st : PO X (some (.UnaryOp .USub (.Constant (.int 1) k p1) p2)) (tPart (tUn (rU fun i => .int (-i)) (tC (.int 1)))) := po_some (pe_un un_neg pe_int)
  refine wpAny_Slice ?_
  rw [evalPart_none]
  refine wpAny_pure (wpAny_pure ?_)
  refine thn (st.run pins s1 σ H1 (fun o H4 => o = some (-1) ∧ H4 = H1) I1 ⟨1, rfl, -1, rfl, rfl, rfl⟩) fun vs s4 ⟨o, H4, I4, ps, eo, e4⟩ => ?_
  subst eo e4
  have I5 : Inv X pins σ H4 { s4 with heap := s4.heap.push { cls := .type "slice", data := .fields #[.none, .none, vs] } } := I4.kept (t' := s4.toks) fun b ob q => Heap.get?_push_of_some _ q
  obtain ⟨its, r, ht, hz⟩ := I5.tuple hx
  have hl := r.length
  show wpAny (model X.prog X.w) X.A (subscriptTail e (.Slice none none (some (.UnaryOp .USub (.Constant (.int 1) k p1) p2)) p3) (.ref a) (.ref s4.heap.objs.size)) (EP X pins σ Q) X.xe { s4 with heap := s4.heap.push { cls := .type "slice", data := .fields #[.none, .none, vs] } }
  refine tail_any (ops := [.ref a, .ref s4.heap.objs.size]) ht.typeIs PyProof.Rows.slot_tuple_getitem.lookup ?_ (by with_unfolding_all rfl)
  refine getItem_tuple_back ht (Heap.IsSliceOf.new _ .none .none vs) ps ?_ (by rw [List.size_toArray]; omega)
  refine ⟨.ref _, _, I5.laid (t' := s4.toks) (o := .tup xs.reverse) (fun b ob q => Heap.get?_push_of_some _ q) (Nat.le_refl _) ?_, rfl, q _ (I5.hok.fresh (Nat.le_refl _))⟩
  refine ⟨by rw [List.length_reverse]; exact hz, its.reverse, r.reverse, ?_⟩
  exact ⟨_, Heap.get?_push_size _ rfl, rfl, _, rfl⟩
end CPX
/-! part CpH -/
set_option Elab.async false
set_option linter.all false
set_option maxRecDepth 100000
set_option maxHeartbeats 4000000
namespace CP
open PySem L2
section
variable {W : Wd}
/-! ### what is walked, further -/
theorem walk_enumT {K : PySem.W.Frag} {a : Addr} {xs : List V} : Walk (CPX.IteT K a) xs.length (fun H => SqT K H a xs) (YPair (fun i => some (.int (i : Nat))) (fun i => xs[i]?)) :=
  ⟨fun i H hi g => ⟨xs, xs[i], g, List.getElem?_eq_getElem hi⟩, fun H g => ⟨xs, g, rfl⟩, fun i H x H' hi g ⟨T, y, a1, a2, a3, a4⟩ => ⟨T, _, y, a1, a2, a3, rfl, a4 xs g⟩⟩
theorem walk_zipT {K : PySem.W.Frag} {a b : Addr} {xs ys : List V} (h : xs.length = ys.length) : Walk (RZ.ItzT K a b) xs.length (fun H => SqT K H a xs ∧ SqT K H b ys) (YPair (fun i => xs[i]?) (fun i => ys[i]?)) :=
  ⟨fun i H hi g => ⟨xs, ys, xs[i], ys[i]'(h ▸ hi), g.1, g.2, List.getElem?_eq_getElem hi, List.getElem?_eq_getElem _⟩, fun H g => ⟨xs, ys, g.1, g.2, .inl (Nat.le_refl _)⟩, fun i H v H' hi g ⟨T, x, y, a1, a2, a3, a4, a5⟩ => ⟨T, x, y, a1, a2, a3, a4 xs g.1, a5 ys g.2⟩⟩
theorem walk_zipM {K : PySem.W.Frag} {a b : Addr} {xs ys : List V} (h : xs.length = ys.length) : Walk (CPX.ItzM K a b) xs.length (fun H => SqL K H a xs ∧ SqT K H b ys) (YPair (fun i => xs[i]?) (fun i => ys[i]?)) :=
  ⟨fun i H hi g => ⟨xs, ys, xs[i], ys[i]'(h ▸ hi), g.1, g.2, List.getElem?_eq_getElem hi, List.getElem?_eq_getElem _⟩, fun H g => ⟨xs, ys, g.1, g.2, rfl, h.symm⟩, fun i H v H' hi g ⟨T, x, y, a1, a2, a3, a4, a5⟩ => ⟨T, x, y, a1, a2, a3, a4 xs g.1, a5 ys g.2⟩⟩
def iEnT (a : ME) : MA := fun ρ => (a ρ).bind fun x => (tupOf x).map enumD
theorem smi_enumT {t : TE} {a : ME} (h : Sm W t a) : SmI W (CPX.iEnumT W.K (tCons t tNil)) (iEnT a) := fun H0 F H σ ρ ds e r q R k => by
  obtain ⟨d, h1, h2⟩ := Option.bind_eq_some_iff.mp q
  obtain ⟨xs, h3, rfl⟩ := Option.map_eq_some_iff.mp h2
  cases tupOf_eq h3
  refine h H0 F H σ ρ _ e r h1 _ fun v F1 H1 e1 r1 => ?_
  cases r1 with
  | @tup p ys _ hp rp =>
    refine ⟨p, ys, rfl, ex_t e1.s hp, k _ F1 H1 e1 ?_⟩
    refine itd_pair (walk_enumT (xs := ys)) ?_ (fun F' H' e1 e2 => ex_t e2 (ex_t e1 hp)) (fun i v hv hi => up_of i v hv (by rw [← rp.length]; exact hi)) (reps_of rp)
    unfold upD
    rw [List.length_map, List.length_range, Nat.min_self]
    exact rp.length.symm
def iZpE (f g : D → Option (List D)) (a b : ME) : MA := fun ρ => (a ρ).bind fun x => (b ρ).bind fun y => (f x).bind fun xs => (g y).bind fun ys => if xs.length = ys.length then some (pairD xs ys) else none
theorem smi_zipT {t u : TE} {a b : ME} (h : Sm W t a) (h' : Sm W u b) : SmI W (RZ.iZipA W.K (tCons t (tCons u tNil))) (iZpE tupOf tupOf a b) := fun H0 F H σ ρ ds e r q R k => by
  obtain ⟨d, h1, q⟩ := Option.bind_eq_some_iff.mp q
  obtain ⟨d', h2, q⟩ := Option.bind_eq_some_iff.mp q
  obtain ⟨xs, h3, q⟩ := Option.bind_eq_some_iff.mp q
  obtain ⟨ys, h4, q⟩ := Option.bind_eq_some_iff.mp q
  split at q
  · rename_i hl
    cases q
    cases tupOf_eq h3
    cases tupOf_eq h4
    refine h H0 F H σ ρ _ e r h1 _ fun v F1 H1 e1 r1 => ?_
    refine h' H0 F1 H1 σ ρ _ e1.s (r.ext e1) h2 _ fun u F2 H2 e2 r2 => ?_
    have r1' := r1.mono e2.f
    cases r1' with
    | @tup p vs _ hp rp =>
      cases r2 with
      | @tup p2 us _ hp2 rp2 =>
        refine ⟨p, p2, vs, us, rfl, .inr ⟨ex_t e2.s hp, ex_t e2.s hp2, k _ F2 H2 (e1.trans e2) ?_⟩⟩
        exact itd_pair (walk_zipT (xs := vs) (ys := us) (by rw [rp.length, rp2.length]; exact hl)) (by rw [rp.length, hl, Nat.min_self]) (fun F' H' e1 e2 => ⟨ex_t e2 (ex_t e1 hp), ex_t e2 (ex_t e1 hp2)⟩) (reps_of rp) (reps_of rp2)
  · cases q
theorem smi_zipM {t u : TE} {a b : ME} (h : Sm W t a) (h' : Sm W u b) : SmI W (CPX.iZipM W.K (tCons t (tCons u tNil))) (iZpE lstOf tupOf a b) := fun H0 F H σ ρ ds e r q R k => by
  obtain ⟨d, h1, q⟩ := Option.bind_eq_some_iff.mp q
  obtain ⟨d', h2, q⟩ := Option.bind_eq_some_iff.mp q
  obtain ⟨xs, h3, q⟩ := Option.bind_eq_some_iff.mp q
  obtain ⟨ys, h4, q⟩ := Option.bind_eq_some_iff.mp q
  split at q
  · rename_i hl
    cases q
    cases lstOf_eq h3
    cases tupOf_eq h4
    refine h H0 F H σ ρ _ e r h1 _ fun v F1 H1 e1 r1 => ?_
    refine h' H0 F1 H1 σ ρ _ e1.s (r.ext e1) h2 _ fun u F2 H2 e2 r2 => ?_
    have r1' := r1.mono e2.f
    cases r1' with
    | @lst p vs _ hp rp =>
      cases r2 with
      | @tup p2 us _ hp2 rp2 =>
        refine ⟨p, p2, vs, us, rfl, .inl (.inl (e2.s _ _ hp)), ex_t e2.s hp2, k _ F2 H2 (e1.trans e2) ?_⟩
        exact itd_pair (walk_zipM (xs := vs) (ys := us) (by rw [rp.length, rp2.length]; exact hl)) (by rw [rp.length, hl, Nat.min_self]) (fun F' H' e1 e2 => ⟨.inl (.inl (e2 _ _ (e1 _ _ hp))), ex_t e2 (ex_t e1 hp2)⟩) (reps_of rp) (reps_of rp2)
  · cases q
theorem signs_get {z : Str} {i : Nat} {c : Nat} (h : z.cps[i]? = some c) : (signs z)[i]? = some (.str ⟨#[c]⟩) := by
  unfold signs
  rw [List.getElem?_map, Array.getElem?_toList, h]
  rfl
theorem smi_str {t : TE} {a : ME} (h : Sm W t a) : SmI W (iStr t) (iSt a) := fun H0 F H σ ρ ds e r q R k => by
  obtain ⟨d, h1, q⟩ := Option.bind_eq_some_iff.mp q
  split at q
  · split at q
    · cases q
      refine h H0 F H σ ρ _ e r h1 _ fun v F1 H1 e1 r1 => ?_
      cases r1
      refine ⟨_, rfl, k _ F1 H1 e1 ?_⟩
      refine itd_of walk_str (by unfold signs; simp) (fun _ _ _ _ => trivial) fun F' H' i x H'' e1 e2 hi ⟨q1, c, q2, q3⟩ => ?_
      subst q1 q3
      exact ⟨F', _, .refl e2, signs_get q2, .str _⟩
    · cases q
  · cases q
/-! ### ranges as tuples and lists -/
theorem reps_rg {F : Hp} {a b : Int} : Reps W F (rgV a b) (upD a (b - a).toNat) := by
  unfold rgV upD
  generalize (b - a).toNat = n
  suffices ∀ l : List Nat, Reps W F (l.map fun i => V.int (a + (i : Nat))) (l.map fun i : Nat => .int (a + (i : Int))) from this _
  intro l
  induction l with
  | nil => exact .nil
  | cons i l ih => exact .cons (.int _) ih
theorem reps_rgC {F : Hp} {a c : Int} {n : Nat} : Reps W F (CPX.rgC a c n) ((List.range n).map fun i : Nat => .int (a + (i : Int) * c)) := by
  unfold CPX.rgC
  suffices ∀ l : List Nat, Reps W F (l.map fun i : Nat => V.int (a + (i : Int) * c)) (l.map fun i : Nat => .int (a + (i : Int) * c)) from this _
  intro l
  induction l with
  | nil => exact .nil
  | cons i l ih => exact .cons (.int _) ih
def okN (n : Nat) : Bool := Nat.ble n 100000
def eRg2 (f : List D → D) (a b : ME) : ME := fun ρ => (a ρ).bind fun x => (b ρ).bind fun y => match x, y with
  | .int i, .int j => if (okR i && okR j && okN (j - i).toNat) = true then some (f (upD i (j - i).toNat)) else none
  | _, _ => none
theorem okN_b {n : Nat} (h : okN n = true) : n ≤ 100000 := Nat.le_of_ble_eq_true h
theorem sm_tupRg2 {ta tb : TE} {a b : ME} (ha : Sm W ta a) (hb : Sm W tb b) : Sm W (tTupRg (tRg2 ta tb)) (eRg2 .tup a b) := fun H0 F H σ ρ d e r q Q k => by
  obtain ⟨x, h1, qa⟩ := Option.bind_eq_some_iff.mp q
  obtain ⟨y, h2, qb⟩ := Option.bind_eq_some_iff.mp qa
  clear q qa
  split at qb
  · rename_i i j
    split at qb
    · rename_i hh
      cases qb
      simp only [Bool.and_eq_true] at hh
      have b1 := okR_b hh.1.1
      have b2 := okR_b hh.1.2
      have b3 := okN_b hh.2
      refine ha H0 F H σ ρ _ e r h1 _ fun v F1 H1 e1 r1 => ?_
      refine hb H0 F1 H1 σ ρ _ e1.s (r.ext e1) h2 _ fun u F2 H2 e2 r2 => ?_
      cases r1
      cases r2
      refine ⟨_, _, rfl, rfl, ⟨by omega, by omega, by omega, by omega, by omega⟩, fun l hl => ?_⟩
      have z := Ext.new (o := .tup (rgV i j)) e2.s hl
      exact k _ _ _ ((e1.trans e2).trans z) (.tup (.inl (.inl upd_same)) reps_rg)
    · cases qb
  · cases qb
theorem sm_lstRg2 {ta tb : TE} {a b : ME} (ha : Sm W ta a) (hb : Sm W tb b) : Sm W (tLstRg (tRg2 ta tb)) (eRg2 .lst a b) := fun H0 F H σ ρ d e r q Q k => by
  obtain ⟨x, h1, qa⟩ := Option.bind_eq_some_iff.mp q
  obtain ⟨y, h2, qb⟩ := Option.bind_eq_some_iff.mp qa
  clear q qa
  split at qb
  · rename_i i j
    split at qb
    · rename_i hh
      cases qb
      simp only [Bool.and_eq_true] at hh
      have b1 := okR_b hh.1.1
      have b2 := okR_b hh.1.2
      have b3 := okN_b hh.2
      refine ha H0 F H σ ρ _ e r h1 _ fun v F1 H1 e1 r1 => ?_
      refine hb H0 F1 H1 σ ρ _ e1.s (r.ext e1) h2 _ fun u F2 H2 e2 r2 => ?_
      cases r1
      cases r2
      refine ⟨_, _, rfl, rfl, ⟨by omega, by omega, by omega, by omega, by omega⟩, fun l hl => ?_⟩
      have z := Ext.new (o := .lst (rgV i j)) e2.s hl
      exact k _ _ _ ((e1.trans e2).trans z) (.lst upd_same reps_rg)
    · cases qb
  · cases qb
def eRg3 (f : List D → D) (a : MA) : ME := fun ρ => (a ρ).bind fun ds => match ds with
  | [.int i, .int j, .int c] => if (okR i && okR j && decide (c = -1) && okN (i - j).toNat) = true then some (f (dnD i (i - j).toNat)) else none
  | _ => none
theorem sm_tupRg3 {t : TA} {a : MA} (h : SmA W t a) : Sm W (CPX.tTupRgC (CPX.tRgC t)) (eRg3 .tup a) := fun H0 F H σ ρ d e r q Q k => by
  obtain ⟨xs, h1, q⟩ := Option.bind_eq_some_iff.mp q
  split at q
  · rename_i i j c
    split at q
    · rename_i hh
      cases q
      simp only [Bool.and_eq_true, decide_eq_true_eq] at hh
      have b1 := okR_b hh.1.1.1
      have b2 := okR_b hh.1.1.2
      have b3 := okN_b hh.2
      obtain ⟨⟨_, rfl⟩, _⟩ := hh
      refine h H0 F H σ ρ _ e r h1 _ fun vs F1 H1 e1 r1 => ?_
      cases r1 with
      | cons g1 g2 =>
        cases g2 with
        | cons g2 g3 =>
          cases g3 with
          | cons g3 g4 =>
            cases g4
            cases g1
            cases g2
            cases g3
            refine ⟨_, _, _, _, rfl, RgC.neg (by omega) (by omega) (by omega) (by omega), by omega, fun l hl => ?_⟩
            have z := Ext.new (o := .tup (CPX.rgC i (-1) (i - j).toNat)) e1.s hl
            exact k _ _ _ (e1.trans z) (.tup (.inl (.inl upd_same)) reps_rgC)
    · cases q
  · cases q
theorem sm_lstRg3 {t : TA} {a : MA} (h : SmA W t a) : Sm W (CPX.tLstRgC (CPX.tRgC t)) (eRg3 .lst a) := fun H0 F H σ ρ d e r q Q k => by
  obtain ⟨xs, h1, q⟩ := Option.bind_eq_some_iff.mp q
  split at q
  · rename_i i j c
    split at q
    · rename_i hh
      cases q
      simp only [Bool.and_eq_true, decide_eq_true_eq] at hh
      have b1 := okR_b hh.1.1.1
      have b2 := okR_b hh.1.1.2
      have b3 := okN_b hh.2
      obtain ⟨⟨_, rfl⟩, _⟩ := hh
      refine h H0 F H σ ρ _ e r h1 _ fun vs F1 H1 e1 r1 => ?_
      cases r1 with
      | cons g1 g2 =>
        cases g2 with
        | cons g2 g3 =>
          cases g3 with
          | cons g3 g4 =>
            cases g4
            cases g1
            cases g2
            cases g3
            refine ⟨_, _, _, _, rfl, RgC.neg (by omega) (by omega) (by omega) (by omega), by omega, fun l hl => ?_⟩
            have z := Ext.new (o := .lst (CPX.rgC i (-1) (i - j).toNat)) e1.s hl
            exact k _ _ _ (e1.trans z) (.lst upd_same reps_rgC)
    · cases q
  · cases q
/-! ### a <= b <= c -/
def eChain (g g' : D → D → Option D) (a b c : ME) : ME := fun ρ => (a ρ).bind fun x => (b ρ).bind fun y => (g x y).bind fun z => (dB z).bind fun k => if k = true then (c ρ).bind fun w => g' y w else some (.bool false)
theorem sm_chain {r r' : R2} {g g' : D → D → Option D} {ta tb tc : TE} {a b c : ME} (h : OpS W r g) (h' : OpS W r' g') (ha : Sm W ta a) (hb : Sm W tb b) (hc : Sm W tc c) : Sm W (tChain r r' ta tb tc) (eChain g g' a b c) := fun H0 F H σ ρ d e r q Q k => by
  obtain ⟨x, h1, qa⟩ := Option.bind_eq_some_iff.mp q
  obtain ⟨y, h2, qb⟩ := Option.bind_eq_some_iff.mp qa
  obtain ⟨z, h3, qc⟩ := Option.bind_eq_some_iff.mp qb
  obtain ⟨kk, h4, qd⟩ := Option.bind_eq_some_iff.mp qc
  clear qa qb qc q
  cases dB_eq h4
  refine ha H0 F H σ ρ _ e r h1 _ fun v F1 H1 e1 r1 => ?_
  refine hb H0 F1 H1 σ ρ _ e1.s (r.ext e1) h2 _ fun u F2 H2 e2 r2 => ?_
  refine h F2 H2 v u x y _ e2.s (.fr (r1.mono e2.f)) (.fr r2) h3 _ fun z F3 H3 e3 r3 => ?_
  cases r3
  refine ⟨kk, rfl, ?_⟩
  cases kk with
  | true =>
    rw [if_pos rfl] at qd
    obtain ⟨w, h5, h6⟩ := Option.bind_eq_some_iff.mp qd
    refine hc H0 F3 H3 σ ρ _ e3.s (((r.ext e1).ext e2).ext e3) h5 _ fun w' F4 H4 e4 r4 => ?_
    exact h' F4 H4 u w' y w d e4.s (.fr ((r2.mono e3.f).mono e4.f)) (.fr r4) h6 Q fun v F5 H5 e5 r5 => k v F5 H5 ((((e1.trans e2).trans e3).trans e4).trans e5) r5
  | false =>
    cases qd
    exact k _ F3 H3 ((e1.trans e2).trans e3) (.bl _)
/-! ### dicts -/
def keyD : D → Option Key
  | .int i => some (.inl i)
  | .str s => some (.inr s)
  | _ => none
theorem keyD_eq {F H : Hp} {v : V} {d : D} {k : Key} (r : RepB W F H v d) (h : keyD d = some k) : v = kV k := by
  cases d <;> simp only [keyD] at h <;> cases h
  · exact r.int
  · exact r.str
def valD : List Key → List D → Key → Option D
  | k :: ks, d :: ds, x => if k = x then some d else valD ks ds x
  | _, _, _ => none
theorem valD_rep {F : Hp} {x : Key} : ∀ {ks : List Key} {vs : List V} {ds : List D}, ks.length = vs.length → Reps W F vs ds → (∀ d, valD ks ds x = some d → ∃ v, valV (ks.zip vs) x = some v ∧ Rep W F v d) ∧ (valD ks ds x = none → valV (ks.zip vs) x = none)
  | [], [], [], _, .nil => ⟨fun d h => (by cases h), fun _ => rfl⟩
  | k :: ks, v :: vs, d :: ds, hl, .cons g t => by
    have ih := valD_rep (x := x) (ks := ks) (vs := vs) (ds := ds) (by simpa using hl) t
    unfold valD valV
    rw [List.zip_cons_cons, List.find?_cons]
    by_cases hk : k = x
    · subst hk
      simp only [decide_true, if_true]
      exact ⟨fun d' h => (by cases h; exact ⟨v, rfl, g⟩), fun h => (by cases h)⟩
    · simp only [hk, decide_false, if_false]
      exact ih
  | [], _ :: _, _, h, _ => by simp at h
  | _ :: _, [], _, h, _ => by simp at h
  | [], [], _ :: _, _, h => by cases h
  | _ :: _, _ :: _, [], _, h => by cases h
def eDGet2 (a b c : ME) : ME := fun ρ => (a ρ).bind fun x => (b ρ).bind fun y => (c ρ).bind fun z => (keyD y).bind fun k => match x with
  | .dct ks ds => some ((valD ks ds k).getD z)
  | _ => none
theorem sm_dget2 {td ty tx : TE} {a b c : ME} (ha : Sm W td a) (hb : Sm W ty b) (hc : Sm W tx c) : Sm W (tDGet2 td ty tx) (eDGet2 a b c) := fun H0 F H σ ρ d e r q Q k => by
  obtain ⟨x, h1, qa⟩ := Option.bind_eq_some_iff.mp q
  obtain ⟨y, h2, qb⟩ := Option.bind_eq_some_iff.mp qa
  obtain ⟨z, h3, qc⟩ := Option.bind_eq_some_iff.mp qb
  obtain ⟨kk, h4, qd⟩ := Option.bind_eq_some_iff.mp qc
  clear qa qb qc q
  cases x with
  | dct ks0 ds0 =>
    cases qd
    refine ha H0 F H σ ρ _ e r h1 _ fun v F1 H1 e1 r1 => ?_
    cases r1 with
    | @dct p _ xs _ hp hl rp =>
      refine ⟨p, rfl, .inl ⟨_, .inl (e1.s _ _ hp)⟩, ?_⟩
      refine hb H0 F1 H1 σ ρ _ e1.s (r.ext e1) h2 _ fun u F2 H2 e2 r2 => ?_
      refine hc H0 F2 H2 σ ρ _ e2.s ((r.ext e1).ext e2) h3 _ fun u' F3 H3 e3 r3 => ?_
      obtain rfl := keyD_eq (H := H2) (.fr r2) h4
      have e23 := e2.trans e3
      refine ⟨_, DGet.k (k := kk) (e23.h _ _ (e1.s _ _ hp)), ?_⟩
      have g := valD_rep (x := kk) hl (rp.mono e23.f)
      cases hv : valD ks0 ds0 kk with
      | none =>
        rw [g.2 hv]
        rw [hv] at k
        exact k _ F3 H3 (e1.trans e23) r3
      | some d' =>
        obtain ⟨v, gv, gr⟩ := g.1 d' hv
        rw [gv]
        rw [hv] at k
        exact k _ F3 H3 (e1.trans e23) gr
  | _ => cases qd
def eDIn (b a : ME) : ME := fun ρ => (b ρ).bind fun y => (a ρ).bind fun x => (keyD y).bind fun k => match x with
  | .dct ks ds => some (.bool (valD ks ds k).isSome)
  | _ => none
theorem sm_din {td ty : TE} {a b : ME} (ha : Sm W td a) (hb : Sm W ty b) : Sm W (tDIn ty td) (eDIn b a) := fun H0 F H σ ρ d e r q Q k => by
  obtain ⟨y, h2, qa⟩ := Option.bind_eq_some_iff.mp q
  obtain ⟨x, h1, qb⟩ := Option.bind_eq_some_iff.mp qa
  obtain ⟨kk, h4, qd⟩ := Option.bind_eq_some_iff.mp qb
  clear qa qb q
  cases x with
  | dct ks0 ds0 =>
    cases qd
    refine hb H0 F H σ ρ _ e r h2 _ fun u F1 H1 e1 r1 => ?_
    refine ha H0 F1 H1 σ ρ _ e1.s (r.ext e1) h1 _ fun v F2 H2 e2 r2 => ?_
    obtain rfl := keyD_eq (H := H1) (.fr r1) h4
    cases r2 with
    | @dct p _ xs _ hp hl rp =>
      refine ⟨p, _, rfl, DGet.k (k := kk) (e2.s _ _ hp), ?_⟩
      have g := valD_rep (x := kk) hl rp
      have ee : (valV (ks0.zip xs) kk).isSome = (valD ks0 ds0 kk).isSome := by
        cases hv : valD ks0 ds0 kk with
        | none => rw [g.2 hv]; rfl
        | some d' => obtain ⟨v, gv, _⟩ := g.1 d' hv; rw [gv]; rfl
      rw [ee]
      exact k _ F2 H2 (e1.trans e2) (.bl _)
  | _ => cases qd
def eDGet (a b : ME) : ME := fun ρ => (a ρ).bind fun x => (b ρ).bind fun y => (keyD y).bind fun k => match x with
  | .dct ks ds => valD ks ds k
  | _ => none
theorem sm_dget {td ty : TE} {a b : ME} (ha : Sm W td a) (hb : Sm W ty b) : Sm W (tDGet td ty) (eDGet a b) := fun H0 F H σ ρ d e r q Q k => by
  obtain ⟨x, h1, q⟩ := Option.bind_eq_some_iff.mp q
  obtain ⟨y, h2, q⟩ := Option.bind_eq_some_iff.mp q
  obtain ⟨kk, h4, q⟩ := Option.bind_eq_some_iff.mp q
  split at q
  · refine ha H0 F H σ ρ _ e r h1 _ fun v F1 H1 e1 r1 => ?_
    refine hb H0 F1 H1 σ ρ _ e1.s (r.ext e1) h2 _ fun u F2 H2 e2 r2 => ?_
    obtain rfl := keyD_eq (H := H2) (.fr r2) h4
    cases r1 with
    | @dct p _ xs _ hp hl rp =>
      obtain ⟨v, gv, gr⟩ := (valD_rep (x := kk) hl (rp.mono e2.f)).1 d q
      exact ⟨p, v, rfl, by rw [← gv]; exact DGet.k (k := kk) (e2.h _ _ (e1.s _ _ hp)), k v F2 H2 (e1.trans e2) gr⟩
  · cases q
def pairsD : List D → Option (List Key × List D)
  | [] => some ([], [])
  | .tup [x, y] :: ds => (keyD x).bind fun k => (pairsD ds).map fun p => (k :: p.1, y :: p.2)
  | _ => none
theorem mergeK_nodup : ∀ (more acc : List (Key × V)), ((acc ++ more).map (·.1)).Nodup → mergeK acc more = acc ++ more
  | [], acc, _ => by rw [List.append_nil]; rfl
  | p :: r, acc, h => by
    have e : putK acc p.1 p.2 = acc ++ [p] := by
      unfold putK
      have hn : ¬ (acc.any fun kv => decide (kv.1 = p.1)) = true := by
        rw [List.any_eq_true]
        rintro ⟨q, hq, hk⟩
        have hk := of_decide_eq_true hk
        rw [List.map_append, List.nodup_append] at h
        exact h.2.2 q.1 (List.mem_map_of_mem hq) p.1 (by simp) hk
      rw [if_neg hn]
    show mergeK (putK acc p.1 p.2) r = _
    rw [e, mergeK_nodup r (acc ++ [p]) (by simpa using h)]
    simp
theorem pairsD_rep {F H : Hp} (e : Ex F H) : ∀ {vs : List V} {ds : List D} {ks : List Key} {es : List D}, Reps W F vs ds → pairsD ds = some (ks, es) → ∃ (ps : List Addr) (xs : List V), vs = ps.map V.ref ∧ ks.length = xs.length ∧ Reps W F xs es ∧ Paired (fun p (kv : Key × V) => SqT W.K H p [kV kv.1, kv.2]) ps (ks.zip xs)
  | _, _, _, _, .nil, h => by cases h; exact ⟨[], [], rfl, rfl, .nil, .nil⟩
  | _, d :: ds, ks, es, .cons g t, h => by
    unfold pairsD at h
    split at h
    · rename_i heq
      cases heq
    · rename_i x y ds' heq
      cases heq
      obtain ⟨k, h1, h⟩ := Option.bind_eq_some_iff.mp h
      obtain ⟨⟨ks', es'⟩, h2, h3⟩ := Option.map_eq_some_iff.mp h
      cases h3
      obtain ⟨ps, xs, rfl, hl, rx, pp⟩ := pairsD_rep e t h2
      cases g with
      | @tup p ws _ hp rp =>
        cases rp with
        | cons g1 rp =>
          cases rp with
          | cons g2 rp =>
            cases rp
            obtain rfl := keyD_eq (H := H) (.fr g1) h1
            exact ⟨p :: ps, _ :: xs, rfl, by simp [hl], .cons g2 rx, .cons (ex_t e hp) pp⟩
    · cases h
def cDict : List D → Option D
  | [.tpf ds] => (pairsD ds).bind fun p => if p.1.Nodup then some (.dct p.1 p.2) else none
  | _ => none
theorem cs_dict : CallS W (CPX.rDictT W.K) cDict := fun F H vs ds d e r q Q k => by
  unfold cDict at q
  split at q
  · obtain ⟨v, rfl, rv⟩ := r.one
    obtain ⟨⟨ks, es⟩, h1, q⟩ := Option.bind_eq_some_iff.mp q
    split at q
    · rename_i hn
      cases q
      cases rv with
      | fr rv =>
        cases rv with
        | @tpf a o xs _ h2 h3 h4 h5 =>
          obtain ⟨ps, ys, rfl, hl, rx, pp⟩ := pairsD_rep e h5 h1
          refine ⟨a, ps, ks.zip ys, rfl, ⟨o, e _ _ h2, h3, h4⟩, pp, fun p hp => ?_⟩
          rw [mergeK_nodup (ks.zip ys) [] (by rw [List.nil_append, List.map_fst_zip (Nat.le_of_eq hl)]; exact hn), List.nil_append]
          have z := Ext.new (o := .dK (ks.zip ys)) e hp
          exact k _ _ _ z (.dct upd_same hl (rx.mono z.f))
    · cases q
  · cases q
/-- tuple(a list), to be a dict's pairs later -/
def cTupF : List D → Option D
  | [.lst ds] => some (.tpf ds)
  | _ => none
theorem cs_tupF : CallS W (CPX.rTupF W.K) cTupF := fun F H vs ds d e r q Q k => by
  unfold cTupF at q
  split at q
  · obtain ⟨v, rfl, rv⟩ := r.one
    obtain ⟨a, xs, rfl, h1, h2⟩ := rv.lst e
    cases q
    refine ⟨a, xs, rfl, .inl (.inl h1), fun l o hl hc hd => ?_⟩
    have z := Ext.new (o := .frz o (.tup xs)) e hl
    exact k _ _ _ z (.tpf upd_same hc hd (h2.mono z.f))
  · cases q
/-! ### objects -/
structure FldOk (W : Wd) (c : Nat) (f : Str) (i : Nat) : Prop where
  cl : Cls W.K (W.ca c)
  no : NoAttr W.K (W.ca c) f
  at_ : (W.fn c)[i]? = some f
  fst : ∀ j, j < i → (W.fn c)[j]? ≠ some f
theorem lookup_zip {f : Str} : ∀ {ns : List Str} {xs : List V} {i : Nat} {v : V}, ns[i]? = some f → (∀ j, j < i → ns[j]? ≠ some f) → xs[i]? = some v → List.lookup f (ns.zip xs) = some v
  | [], _, _, _, h, _, _ => by simp at h
  | _ :: _, [], _, _, _, _, h => by simp at h
  | n :: ns, x :: xs, 0, v, h, _, hv => by
    simp at h hv
    subst h hv
    rw [List.zip_cons_cons, List.lookup_cons, beq_self_eq_true]
  | n :: ns, x :: xs, i + 1, v, h, hf, hv => by
    have hn : n ≠ f := fun e => hf 0 (Nat.succ_pos _) (by simp [e])
    rw [List.zip_cons_cons, List.lookup_cons, beq_eq_false_iff_ne.mpr (Ne.symm hn)]
    exact lookup_zip (i := i) (by simpa using h) (fun j hj => by have := hf (j + 1) (Nat.succ_lt_succ hj); simpa using this) (by simpa using hv)
/-- o.f, o an instance of a class for which ix tells f's place -/
def eFld (ix : Nat → Option Nat) (a : ME) : ME := fun ρ => (a ρ).bind fun x => match x with
  | .obj c ds => (ix c).bind fun i => ds[i]?
  | _ => none
theorem sm_fld {t : TE} {a : ME} {f : Str} {ix : Nat → Option Nat} (hf : ∀ c i, ix c = some i → FldOk W c f i) (h : Sm W t a) : Sm W (tFld W.K t f) (eFld ix a) := fun H0 F H σ ρ d e r q Q k => by
  obtain ⟨x, h1, q⟩ := Option.bind_eq_some_iff.mp q
  split at q
  · rename_i c ds
    obtain ⟨i, h2, h3⟩ := Option.bind_eq_some_iff.mp q
    have g := hf c i h2
    refine h H0 F H σ ρ _ e r h1 _ fun v F1 H1 e1 r1 => ?_
    cases r1 with
    | @obj p dx _ xs _ hp hl rp =>
      obtain ⟨v, h4, h5⟩ := rp.get h3
      exact ⟨p, _, dx, _, v, rfl, e1.s _ _ hp, g.cl, g.no, lookup_zip g.at_ g.fst h4, k v F1 H1 e1 h5⟩
  · cases q
/-- o.f, a property -/
def eProp (c : Nat) (m : List D → Option D) (a : ME) : ME := fun ρ => (a ρ).bind fun x => match x with
  | .obj c' ds => if c' = c then m [.obj c' ds] else none
  | _ => none
theorem sm_prop {t : TE} {a : ME} {c : Nat} {m : List D → Option D} (h : Sm W t a) : Sm W (tProp (W.ca c) (spO W 1 m) [] (fun _ _ _ => False) t) (eProp c m a) := fun H0 F H σ ρ d e r q Q k => by
  obtain ⟨x, h1, q2⟩ := Option.bind_eq_some_iff.mp q
  cases x with
  | obj c' ds =>
    simp only at q2
    by_cases hc : c' = c
    · subst hc
      rw [if_pos rfl] at q2
      refine h H0 F H σ ρ _ e r h1 _ fun v F1 H1 e1 r1 => ?_
      have r1' := r1
      cases r1' with
      | @obj p dx _ xs _ hp hl rp =>
        exact ⟨p, dx, _, rfl, e1.s _ _ hp, F1, _, d, e1.s, .cons r1 .nil, rfl, q2, fun v F2 H2 e2 r2 => k v F2 H2 (e1.trans e2) r2⟩
    · rw [if_neg hc] at q2
      cases q2
  | _ => cases q2
/-- o.m(..) -/
def eOM (c : Nat) (n : Nat) (m : List D → Option D) (a : ME) (b : MA) : ME := fun ρ => (a ρ).bind fun x => (b ρ).bind fun ys => match x with
  | .obj c' ds => if c' = c ∧ ys.length + 1 = n then m (.obj c' ds :: ys) else none
  | _ => none
theorem sm_om {t : TE} {ta : TA} {a : ME} {b : MA} {c n : Nat} {f : Str} {m : List D → Option D} (hn : (W.fn c).contains f = false) (h : Sm W t a) (hb : SmA W ta b) : Sm W (tMeth (W.ca c) f (spO W n m) [] (fun _ _ _ => False) t ta) (eOM c n m a b) := fun H0 F H σ ρ d e r q Q k => by
  obtain ⟨x, h1, q1⟩ := Option.bind_eq_some_iff.mp q
  obtain ⟨ys, h2, q2⟩ := Option.bind_eq_some_iff.mp q1
  clear q1 q
  cases x with
  | obj c' ds =>
    simp only at q2
    by_cases hc : c' = c ∧ ys.length + 1 = n
    · rw [if_pos hc] at q2
      obtain ⟨rfl, hc⟩ := hc
      refine h H0 F H σ ρ _ e r h1 _ fun v F1 H1 e1 r1 => ?_
      have r1' := r1
      cases r1' with
      | @obj p dx _ xs _ hp hl rp =>
        refine ⟨p, dx, _, rfl, e1.s _ _ hp, ?_, ?_⟩
        · rw [List.lookup_eq_none_iff]
          intro q hq
          have := (List.of_mem_zip hq).1
          rw [List.contains_eq_any_beq, List.any_eq_false] at hn
          have := hn _ this
          simpa using this
        · refine hb H0 F1 H1 σ ρ _ e1.s (r.ext e1) h2 _ fun vs F2 H2 e2 r2 => ?_
          exact ⟨F2, _, d, e2.s, .cons (r1.mono e2.f) (by rw [List.append_nil]; exact r2), hc, q2, fun v F3 H3 e3 r3 => k v F3 H3 ((e1.trans e2).trans e3) r3⟩
    · rw [if_neg hc] at q2
      cases q2
  | _ => cases q2
end
end CP
/-! part CpS -/
set_option Elab.async false
set_option linter.all false
set_option maxRecDepth 100000
set_option maxHeartbeats 4000000
namespace CPH
open PySem PySem.Spec PyProof.Rows L2
def top (i : Nat) : Stmt := PySem.Challenge.pw_carryprobe_k34_whole_judged_by_all_rows.main.body.getD i (.Pass ⟨0, 0, 0, 0⟩)
abbrev s_is_between : Stmt := top 19
abbrev s_is_row : Stmt := top 20
abbrev s_is_sequence : Stmt := top 21
abbrev s_has_states : Stmt := top 27
abbrev s_is_trial : Stmt := top 28
abbrev s_is_ring_trial : Stmt := top 29
abbrev s_state_at : Stmt := top 30
abbrev s_trial_with : Stmt := top 31
abbrev s_carry_of : Stmt := top 32
abbrev s_is_state : Stmt := top 33
abbrev s_first_state : Stmt := top 42
abbrev s_due_positions : Stmt := top 43
abbrev s_output_positions : Stmt := top 44
abbrev s_true_carry : Stmt := top 45
abbrev s_zero_state : Stmt := top 47
abbrev s_outputs_asked : Stmt := top 50
abbrev s_options_at : Stmt := top 51
abbrev s_options_of : Stmt := top 52
abbrev s_leading_passes : Stmt := top 53
abbrev s_is_refuted : Stmt := top 54
abbrev s_refuters : Stmt := top 55
abbrev s_row_with : Stmt := top 56
abbrev s_parting_trial : Stmt := top 57
abbrev s_least_bit : Stmt := top 61
abbrev s_open_option : Stmt := top 62
abbrev s_shortage : Stmt := top 63
abbrev s_judge : Stmt := top 64
abbrev s_is_enough : Stmt := top 65
abbrev s_settled : Stmt := top 66
abbrev s_first_ones : Stmt := top 68
abbrev s_is_cell : Stmt := top 71
abbrev s_checked_cells : Stmt := top 72
abbrev s_checked_outputs : Stmt := top 73
abbrev s_node_orders : Stmt := top 74
abbrev s_node_states : Stmt := top 75
abbrev s_serial_wiring : Stmt := top 95
abbrev s_ring_serial_wiring : Stmt := top 96
abbrev s_wrong_positions : Stmt := top 98
abbrev s_checked_stuck : Stmt := top 101
abbrev s_joined_rows : Stmt := top 102
abbrev s_node_rows : Stmt := top 103
abbrev s_ends_with_letter : Stmt := top 108
abbrev s_are_row_positions : Stmt := top 109
abbrev s_need_row : Stmt := top 110
abbrev s_chained : Stmt := top 111
abbrev s_network_with : Stmt := top 112
abbrev s_holds_index : Stmt := top 114
abbrev s_holds_table : Stmt := top 115
abbrev s_is_letter : Stmt := top 116
abbrev s_is_row_of : Stmt := top 117
abbrev s_row_carry : Stmt := top 118
abbrev s_holds_short : Stmt := top 119
abbrev s_check_judgement : Stmt := top 120
abbrev s__law_pen : Stmt := top 122
abbrev s__law_draw : Stmt := top 123
abbrev s__law_due : Stmt := top 124
abbrev s__law_sign : Stmt := top 125
abbrev s__law_seen : Stmt := top 126
abbrev s__law_ends : Stmt := top 127
abbrev s__law_put : Stmt := top 128
abbrev s__law_standard : Stmt := top 129
abbrev s__law_trial : Stmt := top 130
abbrev s__law_mode : Stmt := top 131
abbrev s__law_filled : Stmt := top 132
abbrev s__law_judge : Stmt := top 133
abbrev s__law_is_enough : Stmt := top 134
abbrev s__law_settled : Stmt := top 135
abbrev s__law_all_rows : Stmt := top 136
abbrev s__law_all_trials : Stmt := top 137
abbrev s__law_wrong_ones : Stmt := top 138
abbrev s__law_net_right : Stmt := top 139
abbrev s__law_right : Stmt := top 140
abbrev s_law : Stmt := top 141
abbrev s_Order_init : Stmt := inClass (top 69) 1
abbrev s_Order_positions : Stmt := inClass (top 69) 2
abbrev s_Order_add : Stmt := inClass (top 69) 9
abbrev s_Network_init : Stmt := inClass (top 99) 5
abbrev s_Network_orders : Stmt := inClass (top 99) 11
abbrev s_Network_wrong_outputs : Stmt := inClass (top 99) 13
abbrev s_Network_is_right : Stmt := inClass (top 99) 14
abbrev s_Network_need_trial : Stmt := inClass (top 99) 16
abbrev s_Network_held_states : Stmt := inClass (top 99) 19
abbrev s_Network_carries : Stmt := inClass (top 99) 21
abbrev s_Faulty_init : Stmt := inClass (top 104) 1
abbrev s_Faulty_rows : Stmt := inClass (top 104) 3
abbrev s_Faulty_wrong_outputs : Stmt := inClass (top 104) 4
abbrev s_Faulty_is_right : Stmt := inClass (top 104) 5
abbrev s_Ring_wrong_outputs : Stmt := inClass (top 106) 3
abbrev s_Ring_need_trial : Stmt := inClass (top 106) 4
def GlobV (mg : Str → Option Value) (x : Str) (v : V) : Prop := ∃ u, mg x = some u ∧ RelV v u
structure Txt (K : PySem.W.Frag) (mg : Str → Option Value) : Prop where
  f_is_between : ∃ f fd, mg "is_between" = some (.ref f) ∧ FunD K "is_between" "is_between" (defArgs s_is_between) (defBody s_is_between) (defScope s_is_between) [] [] f fd
  f_is_row : ∃ f fd, mg "is_row" = some (.ref f) ∧ FunD K "is_row" "is_row" (defArgs s_is_row) (defBody s_is_row) (defScope s_is_row) [] [] f fd
  f_is_sequence : ∃ f fd, mg "is_sequence" = some (.ref f) ∧ FunD K "is_sequence" "is_sequence" (defArgs s_is_sequence) (defBody s_is_sequence) (defScope s_is_sequence) [] [] f fd
  f_has_states : ∃ f fd, mg "has_states" = some (.ref f) ∧ FunD K "has_states" "has_states" (defArgs s_has_states) (defBody s_has_states) (defScope s_has_states) [] [] f fd
  f_is_trial : ∃ f fd, mg "is_trial" = some (.ref f) ∧ FunD K "is_trial" "is_trial" (defArgs s_is_trial) (defBody s_is_trial) (defScope s_is_trial) [] [] f fd
  f_is_ring_trial : ∃ f fd, mg "is_ring_trial" = some (.ref f) ∧ FunD K "is_ring_trial" "is_ring_trial" (defArgs s_is_ring_trial) (defBody s_is_ring_trial) (defScope s_is_ring_trial) [] [] f fd
  f_state_at : ∃ f fd, mg "state_at" = some (.ref f) ∧ FunD K "state_at" "state_at" (defArgs s_state_at) (defBody s_state_at) (defScope s_state_at) [] [] f fd
  f_trial_with : ∃ f fd, mg "trial_with" = some (.ref f) ∧ FunD K "trial_with" "trial_with" (defArgs s_trial_with) (defBody s_trial_with) (defScope s_trial_with) [] [("zero", .str "K")] f fd
  f_carry_of : ∃ f fd, mg "carry_of" = some (.ref f) ∧ FunD K "carry_of" "carry_of" (defArgs s_carry_of) (defBody s_carry_of) (defScope s_carry_of) [] [] f fd
  f_is_state : ∃ f fd, mg "is_state" = some (.ref f) ∧ FunD K "is_state" "is_state" (defArgs s_is_state) (defBody s_is_state) (defScope s_is_state) [] [] f fd
  f_first_state : ∃ f fd, mg "first_state" = some (.ref f) ∧ FunD K "first_state" "first_state" (defArgs s_first_state) (defBody s_first_state) (defScope s_first_state) [] [] f fd
  f_due_positions : ∃ f fd, mg "due_positions" = some (.ref f) ∧ FunD K "due_positions" "due_positions" (defArgs s_due_positions) (defBody s_due_positions) (defScope s_due_positions) [] [] f fd
  f_output_positions : ∃ f fd, mg "output_positions" = some (.ref f) ∧ FunD K "output_positions" "output_positions" (defArgs s_output_positions) (defBody s_output_positions) (defScope s_output_positions) [] [] f fd
  f_true_carry : ∃ f fd, mg "true_carry" = some (.ref f) ∧ FunD K "true_carry" "true_carry" (defArgs s_true_carry) (defBody s_true_carry) (defScope s_true_carry) [] [] f fd
  f_zero_state : ∃ f fd, mg "zero_state" = some (.ref f) ∧ FunD K "zero_state" "zero_state" (defArgs s_zero_state) (defBody s_zero_state) (defScope s_zero_state) [] [] f fd
  f_outputs_asked : ∃ f fd, mg "outputs_asked" = some (.ref f) ∧ FunD K "outputs_asked" "outputs_asked" (defArgs s_outputs_asked) (defBody s_outputs_asked) (defScope s_outputs_asked) [] [] f fd
  f_options_at : ∃ f fd, mg "options_at" = some (.ref f) ∧ FunD K "options_at" "options_at" (defArgs s_options_at) (defBody s_options_at) (defScope s_options_at) [] [] f fd
  f_options_of : ∃ f fd, mg "options_of" = some (.ref f) ∧ FunD K "options_of" "options_of" (defArgs s_options_of) (defBody s_options_of) (defScope s_options_of) [] [] f fd
  f_leading_passes : ∃ f fd, mg "leading_passes" = some (.ref f) ∧ FunD K "leading_passes" "leading_passes" (defArgs s_leading_passes) (defBody s_leading_passes) (defScope s_leading_passes) [] [] f fd
  f_is_refuted : ∃ f fd, mg "is_refuted" = some (.ref f) ∧ FunD K "is_refuted" "is_refuted" (defArgs s_is_refuted) (defBody s_is_refuted) (defScope s_is_refuted) [] [] f fd
  f_refuters : ∃ f fd, mg "refuters" = some (.ref f) ∧ FunD K "refuters" "refuters" (defArgs s_refuters) (defBody s_refuters) (defScope s_refuters) [] [] f fd
  f_row_with : ∃ f fd, mg "row_with" = some (.ref f) ∧ FunD K "row_with" "row_with" (defArgs s_row_with) (defBody s_row_with) (defScope s_row_with) [] [] f fd
  f_parting_trial : ∃ f fd, mg "parting_trial" = some (.ref f) ∧ FunD K "parting_trial" "parting_trial" (defArgs s_parting_trial) (defBody s_parting_trial) (defScope s_parting_trial) [] [] f fd
  f_least_bit : ∃ f fd, mg "least_bit" = some (.ref f) ∧ FunD K "least_bit" "least_bit" (defArgs s_least_bit) (defBody s_least_bit) (defScope s_least_bit) [] [] f fd
  f_open_option : ∃ f fd, mg "open_option" = some (.ref f) ∧ FunD K "open_option" "open_option" (defArgs s_open_option) (defBody s_open_option) (defScope s_open_option) [] [] f fd
  f_shortage : ∃ f fd, mg "shortage" = some (.ref f) ∧ FunD K "shortage" "shortage" (defArgs s_shortage) (defBody s_shortage) (defScope s_shortage) [] [] f fd
  f_judge : ∃ f fd, mg "judge" = some (.ref f) ∧ FunD K "judge" "judge" (defArgs s_judge) (defBody s_judge) (defScope s_judge) [] [("outputs", .non), ("ring", .bl false), ("stuck", .bl false)] f fd
  f_is_enough : ∃ f fd, mg "is_enough" = some (.ref f) ∧ FunD K "is_enough" "is_enough" (defArgs s_is_enough) (defBody s_is_enough) (defScope s_is_enough) [] [("outputs", .non), ("ring", .bl false), ("stuck", .bl false)] f fd
  f_settled : ∃ f fd, mg "settled" = some (.ref f) ∧ FunD K "settled" "settled" (defArgs s_settled) (defBody s_settled) (defScope s_settled) [] [("ring", .bl false), ("stuck", .bl false)] f fd
  f_first_ones : ∃ f fd, mg "first_ones" = some (.ref f) ∧ FunD K "first_ones" "first_ones" (defArgs s_first_ones) (defBody s_first_ones) (defScope s_first_ones) [] [] f fd
  f_is_cell : ∃ f fd, mg "is_cell" = some (.ref f) ∧ FunD K "is_cell" "is_cell" (defArgs s_is_cell) (defBody s_is_cell) (defScope s_is_cell) [] [] f fd
  f_checked_cells : ∃ f fd, mg "checked_cells" = some (.ref f) ∧ FunD K "checked_cells" "checked_cells" (defArgs s_checked_cells) (defBody s_checked_cells) (defScope s_checked_cells) [] [] f fd
  f_checked_outputs : ∃ f fd, mg "checked_outputs" = some (.ref f) ∧ FunD K "checked_outputs" "checked_outputs" (defArgs s_checked_outputs) (defBody s_checked_outputs) (defScope s_checked_outputs) [] [] f fd
  f_node_orders : ∃ f fd, mg "node_orders" = some (.ref f) ∧ FunD K "node_orders" "node_orders" (defArgs s_node_orders) (defBody s_node_orders) (defScope s_node_orders) [] [] f fd
  f_node_states : ∃ f fd, mg "node_states" = some (.ref f) ∧ FunD K "node_states" "node_states" (defArgs s_node_states) (defBody s_node_states) (defScope s_node_states) [] [] f fd
  f_serial_wiring : ∃ f fd, mg "serial_wiring" = some (.ref f) ∧ FunD K "serial_wiring" "serial_wiring" (defArgs s_serial_wiring) (defBody s_serial_wiring) (defScope s_serial_wiring) [] [] f fd
  f_ring_serial_wiring : ∃ f fd, mg "ring_serial_wiring" = some (.ref f) ∧ FunD K "ring_serial_wiring" "ring_serial_wiring" (defArgs s_ring_serial_wiring) (defBody s_ring_serial_wiring) (defScope s_ring_serial_wiring) [] [] f fd
  f_wrong_positions : ∃ f fd, mg "wrong_positions" = some (.ref f) ∧ FunD K "wrong_positions" "wrong_positions" (defArgs s_wrong_positions) (defBody s_wrong_positions) (defScope s_wrong_positions) [] [] f fd
  f_checked_stuck : ∃ f fd, mg "checked_stuck" = some (.ref f) ∧ FunD K "checked_stuck" "checked_stuck" (defArgs s_checked_stuck) (defBody s_checked_stuck) (defScope s_checked_stuck) [] [] f fd
  f_joined_rows : ∃ f fd, mg "joined_rows" = some (.ref f) ∧ FunD K "joined_rows" "joined_rows" (defArgs s_joined_rows) (defBody s_joined_rows) (defScope s_joined_rows) [] [] f fd
  f_node_rows : ∃ f fd, mg "node_rows" = some (.ref f) ∧ FunD K "node_rows" "node_rows" (defArgs s_node_rows) (defBody s_node_rows) (defScope s_node_rows) [] [] f fd
  f_ends_with_letter : ∃ f fd, mg "ends_with_letter" = some (.ref f) ∧ FunD K "ends_with_letter" "ends_with_letter" (defArgs s_ends_with_letter) (defBody s_ends_with_letter) (defScope s_ends_with_letter) [] [] f fd
  f_are_row_positions : ∃ f fd, mg "are_row_positions" = some (.ref f) ∧ FunD K "are_row_positions" "are_row_positions" (defArgs s_are_row_positions) (defBody s_are_row_positions) (defScope s_are_row_positions) [] [] f fd
  f_need_row : ∃ f fd, mg "need_row" = some (.ref f) ∧ FunD K "need_row" "need_row" (defArgs s_need_row) (defBody s_need_row) (defScope s_need_row) [] [] f fd
  f_chained : ∃ f fd, mg "chained" = some (.ref f) ∧ FunD K "chained" "chained" (defArgs s_chained) (defBody s_chained) (defScope s_chained) [] [] f fd
  f_network_with : ∃ f fd, mg "network_with" = some (.ref f) ∧ FunD K "network_with" "network_with" (defArgs s_network_with) (defBody s_network_with) (defScope s_network_with) [] [("ring", .bl false)] f fd
  f_holds_index : ∃ f fd, mg "holds_index" = some (.ref f) ∧ FunD K "holds_index" "holds_index" (defArgs s_holds_index) (defBody s_holds_index) (defScope s_holds_index) [] [] f fd
  f_holds_table : ∃ f fd, mg "holds_table" = some (.ref f) ∧ FunD K "holds_table" "holds_table" (defArgs s_holds_table) (defBody s_holds_table) (defScope s_holds_table) [] [] f fd
  f_is_letter : ∃ f fd, mg "is_letter" = some (.ref f) ∧ FunD K "is_letter" "is_letter" (defArgs s_is_letter) (defBody s_is_letter) (defScope s_is_letter) [] [] f fd
  f_is_row_of : ∃ f fd, mg "is_row_of" = some (.ref f) ∧ FunD K "is_row_of" "is_row_of" (defArgs s_is_row_of) (defBody s_is_row_of) (defScope s_is_row_of) [] [] f fd
  f_row_carry : ∃ f fd, mg "row_carry" = some (.ref f) ∧ FunD K "row_carry" "row_carry" (defArgs s_row_carry) (defBody s_row_carry) (defScope s_row_carry) [] [] f fd
  f_holds_short : ∃ f fd, mg "holds_short" = some (.ref f) ∧ FunD K "holds_short" "holds_short" (defArgs s_holds_short) (defBody s_holds_short) (defScope s_holds_short) [] [] f fd
  f_check_judgement : ∃ f fd, mg "check_judgement" = some (.ref f) ∧ FunD K "check_judgement" "check_judgement" (defArgs s_check_judgement) (defBody s_check_judgement) (defScope s_check_judgement) [] [("outputs", .non), ("ring", .bl false), ("stuck", .bl false)] f fd
  f__law_pen : ∃ f fd, mg "_law_pen" = some (.ref f) ∧ FunD K "_law_pen" "_law_pen" (defArgs s__law_pen) (defBody s__law_pen) (defScope s__law_pen) [] [] f fd
  f__law_draw : ∃ f fd, mg "_law_draw" = some (.ref f) ∧ FunD K "_law_draw" "_law_draw" (defArgs s__law_draw) (defBody s__law_draw) (defScope s__law_draw) [] [] f fd
  f__law_due : ∃ f fd, mg "_law_due" = some (.ref f) ∧ FunD K "_law_due" "_law_due" (defArgs s__law_due) (defBody s__law_due) (defScope s__law_due) [] [] f fd
  f__law_sign : ∃ f fd, mg "_law_sign" = some (.ref f) ∧ FunD K "_law_sign" "_law_sign" (defArgs s__law_sign) (defBody s__law_sign) (defScope s__law_sign) [] [] f fd
  f__law_seen : ∃ f fd, mg "_law_seen" = some (.ref f) ∧ FunD K "_law_seen" "_law_seen" (defArgs s__law_seen) (defBody s__law_seen) (defScope s__law_seen) [] [] f fd
  f__law_ends : ∃ f fd, mg "_law_ends" = some (.ref f) ∧ FunD K "_law_ends" "_law_ends" (defArgs s__law_ends) (defBody s__law_ends) (defScope s__law_ends) [] [] f fd
  f__law_put : ∃ f fd, mg "_law_put" = some (.ref f) ∧ FunD K "_law_put" "_law_put" (defArgs s__law_put) (defBody s__law_put) (defScope s__law_put) [] [] f fd
  f__law_standard : ∃ f fd, mg "_law_standard" = some (.ref f) ∧ FunD K "_law_standard" "_law_standard" (defArgs s__law_standard) (defBody s__law_standard) (defScope s__law_standard) [] [] f fd
  f__law_trial : ∃ f fd, mg "_law_trial" = some (.ref f) ∧ FunD K "_law_trial" "_law_trial" (defArgs s__law_trial) (defBody s__law_trial) (defScope s__law_trial) [] [] f fd
  f__law_mode : ∃ f fd, mg "_law_mode" = some (.ref f) ∧ FunD K "_law_mode" "_law_mode" (defArgs s__law_mode) (defBody s__law_mode) (defScope s__law_mode) [] [] f fd
  f__law_filled : ∃ f fd, mg "_law_filled" = some (.ref f) ∧ FunD K "_law_filled" "_law_filled" (defArgs s__law_filled) (defBody s__law_filled) (defScope s__law_filled) [] [] f fd
  f__law_judge : ∃ f fd, mg "_law_judge" = some (.ref f) ∧ FunD K "_law_judge" "_law_judge" (defArgs s__law_judge) (defBody s__law_judge) (defScope s__law_judge) [] [] f fd
  f__law_is_enough : ∃ f fd, mg "_law_is_enough" = some (.ref f) ∧ FunD K "_law_is_enough" "_law_is_enough" (defArgs s__law_is_enough) (defBody s__law_is_enough) (defScope s__law_is_enough) [] [] f fd
  f__law_settled : ∃ f fd, mg "_law_settled" = some (.ref f) ∧ FunD K "_law_settled" "_law_settled" (defArgs s__law_settled) (defBody s__law_settled) (defScope s__law_settled) [] [] f fd
  f__law_all_rows : ∃ f fd, mg "_law_all_rows" = some (.ref f) ∧ FunD K "_law_all_rows" "_law_all_rows" (defArgs s__law_all_rows) (defBody s__law_all_rows) (defScope s__law_all_rows) [] [] f fd
  f__law_all_trials : ∃ f fd, mg "_law_all_trials" = some (.ref f) ∧ FunD K "_law_all_trials" "_law_all_trials" (defArgs s__law_all_trials) (defBody s__law_all_trials) (defScope s__law_all_trials) [] [] f fd
  f__law_wrong_ones : ∃ f fd, mg "_law_wrong_ones" = some (.ref f) ∧ FunD K "_law_wrong_ones" "_law_wrong_ones" (defArgs s__law_wrong_ones) (defBody s__law_wrong_ones) (defScope s__law_wrong_ones) [] [] f fd
  f__law_net_right : ∃ f fd, mg "_law_net_right" = some (.ref f) ∧ FunD K "_law_net_right" "_law_net_right" (defArgs s__law_net_right) (defBody s__law_net_right) (defScope s__law_net_right) [] [] f fd
  f__law_right : ∃ f fd, mg "_law_right" = some (.ref f) ∧ FunD K "_law_right" "_law_right" (defArgs s__law_right) (defBody s__law_right) (defScope s__law_right) [] [] f fd
  f_law : ∃ f fd, mg "law" = some (.ref f) ∧ FunD K "law" "law" (defArgs s_law) (defBody s_law) (defScope s_law) [] [] f fd
  d_Order_init : ∃ fd, FunD K "__init__" "Order.__init__" (defArgs s_Order_init) (defBody s_Order_init) (defScope s_Order_init) [] [] 540 fd
  d_Order_positions : ∃ fd, FunD K "positions" "Order.positions" (defArgs s_Order_positions) (defBody s_Order_positions) (defScope s_Order_positions) [] [] 547 fd
  d_Order_add : ∃ fd, FunD K "__add__" "Order.__add__" (defArgs s_Order_add) (defBody s_Order_add) (defScope s_Order_add) [] [] 595 fd
  d_Network_init : ∃ fd, FunD K "__init__" "Network.__init__" (defArgs s_Network_init) (defBody s_Network_init) (defScope s_Network_init) [] [] 745 fd
  d_Network_orders : ∃ fd, FunD K "orders" "Network.orders" (defArgs s_Network_orders) (defBody s_Network_orders) (defScope s_Network_orders) [] [] 790 fd
  d_Network_wrong_outputs : ∃ fd, FunD K "wrong_outputs" "Network.wrong_outputs" (defArgs s_Network_wrong_outputs) (defBody s_Network_wrong_outputs) (defScope s_Network_wrong_outputs) [] [] 806 fd
  d_Network_is_right : ∃ fd, FunD K "is_right" "Network.is_right" (defArgs s_Network_is_right) (defBody s_Network_is_right) (defScope s_Network_is_right) [] [] 814 fd
  d_Network_need_trial : ∃ fd, FunD K "need_trial" "Network.need_trial" (defArgs s_Network_need_trial) (defBody s_Network_need_trial) (defScope s_Network_need_trial) [] [] 829 fd
  d_Network_held_states : ∃ fd, FunD K "held_states" "Network.held_states" (defArgs s_Network_held_states) (defBody s_Network_held_states) (defScope s_Network_held_states) [] [] 850 fd
  d_Network_carries : ∃ fd, FunD K "carries" "Network.carries" (defArgs s_Network_carries) (defBody s_Network_carries) (defScope s_Network_carries) [] [] 862 fd
  d_Faulty_rows : ∃ fd, FunD K "rows" "Faulty.rows" (defArgs s_Faulty_rows) (defBody s_Faulty_rows) (defScope s_Faulty_rows) [] [] 1002 fd
  d_Faulty_wrong_outputs : ∃ fd, FunD K "wrong_outputs" "Faulty.wrong_outputs" (defArgs s_Faulty_wrong_outputs) (defBody s_Faulty_wrong_outputs) (defScope s_Faulty_wrong_outputs) [] [] 1010 fd
  d_Faulty_is_right : ∃ fd, FunD K "is_right" "Faulty.is_right" (defArgs s_Faulty_is_right) (defBody s_Faulty_is_right) (defScope s_Faulty_is_right) [] [] 1018 fd
  d_Ring_wrong_outputs : ∃ fd, FunD K "wrong_outputs" "Ring.wrong_outputs" (defArgs s_Ring_wrong_outputs) (defBody s_Ring_wrong_outputs) (defScope s_Ring_wrong_outputs) [] [] 1099 fd
  d_Ring_need_trial : ∃ fd, FunD K "need_trial" "Ring.need_trial" (defArgs s_Ring_need_trial) (defBody s_Ring_need_trial) (defScope s_Ring_need_trial) [] [] 1107 fd
  g_Order : mg "Order" = some (.ref 605)
  g_Network : mg "Network" = some (.ref 948)
  g_Faulty : mg "Faulty" = some (.ref 1083)
  g_Ring : mg "Ring" = some (.ref 1171)
  g_STATES : mg "STATES" = some (.ref 297)
  b_len : mg "len" = none
  b_int : mg "int" = none
  b_isinstance : mg "isinstance" = none
  b_tuple : mg "tuple" = none
  b_list : mg "list" = none
  b_range : mg "range" = none
  b_enumerate : mg "enumerate" = none
  b_zip : mg "zip" = none
  b_sum : mg "sum" = none
  b_all : mg "all" = none
  b_abs : mg "abs" = none
  b_repr : mg "repr" = none
  b_set : mg "set" = none
  b_dict : mg "dict" = none
  b_str : mg "str" = none
  b_bool : mg "bool" = none
  b_super : mg "super" = none
  c_GENERATE : GlobV mg "GENERATE" (.str "G")
  c_KILL : GlobV mg "KILL" (.str "K")
  c_PASS : GlobV mg "PASS" (.str "P")
  c_END : GlobV mg "END" (.str "end")
  c_ENOUGH : GlobV mg "ENOUGH" (.str "enough")
  c_SHORT : GlobV mg "SHORT" (.str "short")
  c_MOST_BITS : GlobV mg "MOST_BITS" (.int 24)
  c_MOST_CELLS : GlobV mg "MOST_CELLS" (.int 150)
  t_STATES : ∃ (o : Obj) (its : Array Value) (n : Nat), K.lookup 297 = some o ∧ o.cls = .type "tuple" ∧ o.data = .seq its n ∧ its.size ≤ sizeLine ∧ Vals [.str "G", .str "K", .str "P"] its.toList
  c_Order : Cls K 605
  m_Order : Mk K 605 540
  n_Order_entries : NoAttr K 605 "entries"
  k_Order_GREATEST : ∃ u, Con K 605 "GREATEST" (.int 24) u
  h_Order_add : PySem.W.findIn K (.ref 605) "__add__" = some (some (.ref 595)) ∧ PySem.W.isFn K (.ref 595) = true ∧ PySem.W.selfFirst K 605 = true
  p_Order_positions : PropOf K 605 "positions" 548 547
  c_Network : Cls K 948
  m_Network : Mk K 948 745
  n_Network_bits : NoAttr K 948 "bits"
  n_Network_joins : NoAttr K 948 "joins"
  n_Network_ends : NoAttr K 948 "ends"
  n_Network_held : NoAttr K 948 "held"
  k_Network_LEAST_BITS : ∃ u, Con K 948 "LEAST_BITS" (.int 1) u
  k_Network_MOST_BITS : ∃ u, Con K 948 "MOST_BITS" (.int 24) u
  k_Network_LOWEST : ∃ u, Con K 948 "LOWEST" (.int 0) u
  h_Network_need_trial : Meth K 948 "need_trial" 829
  h_Network_held_states : Meth K 948 "held_states" 850
  h_Network_carries : Meth K 948 "carries" 862
  p_Network_orders : PropOf K 948 "orders" 791 790
  p_Network_wrong_outputs : PropOf K 948 "wrong_outputs" 807 806
  p_Network_is_right : PropOf K 948 "is_right" 815 814
  c_Faulty : Cls K 1083
  m_Faulty : Mk K 1083 989
  n_Faulty_bits : NoAttr K 1083 "bits"
  n_Faulty_joins : NoAttr K 1083 "joins"
  n_Faulty_ends : NoAttr K 1083 "ends"
  n_Faulty_held : NoAttr K 1083 "held"
  k_Faulty_LEAST_BITS : ∃ u, Con K 1083 "LEAST_BITS" (.int 1) u
  k_Faulty_MOST_BITS : ∃ u, Con K 1083 "MOST_BITS" (.int 24) u
  k_Faulty_LOWEST : ∃ u, Con K 1083 "LOWEST" (.int 0) u
  h_Faulty_need_trial : Meth K 1083 "need_trial" 829
  h_Faulty_held_states : Meth K 1083 "held_states" 850
  h_Faulty_carries : Meth K 1083 "carries" 862
  p_Faulty_rows : PropOf K 1083 "rows" 1003 1002
  p_Faulty_wrong_outputs : PropOf K 1083 "wrong_outputs" 1011 1010
  p_Faulty_is_right : PropOf K 1083 "is_right" 1019 1018
  c_Ring : Cls K 1171
  m_Ring : Mk K 1171 745
  n_Ring_bits : NoAttr K 1171 "bits"
  n_Ring_joins : NoAttr K 1171 "joins"
  n_Ring_ends : NoAttr K 1171 "ends"
  n_Ring_held : NoAttr K 1171 "held"
  k_Ring_LEAST_BITS : ∃ u, Con K 1171 "LEAST_BITS" (.int 2) u
  k_Ring_MOST_BITS : ∃ u, Con K 1171 "MOST_BITS" (.int 24) u
  k_Ring_LOWEST : ∃ u, Con K 1171 "LOWEST" (.int 1) u
  h_Ring_need_trial : Meth K 1171 "need_trial" 1107
  h_Ring_held_states : Meth K 1171 "held_states" 850
  h_Ring_carries : Meth K 1171 "carries" 862
  p_Ring_orders : PropOf K 1171 "orders" 791 790
  p_Ring_wrong_outputs : PropOf K 1171 "wrong_outputs" 1100 1099
  p_Ring_is_right : PropOf K 1171 "is_right" 815 814
def WK (K : PySem.W.Frag) : CP.Wd := ⟨K, fun c => match c with | 0 => 605 | 1 => 948 | 2 => 1171 | _ => 1083, fun c => match c with | 0 => ["entries"] | _ => ["bits", "joins", "ends", "held"]⟩
theorem pe_glb {X : Cx} {x : Str} {v : V} {pos : Pos} (h : GlobV X.mg x v) (hg : Gl X x) (hd : (x == ("__debug__" : Str)) = false := by rfl) : PE X (.Name x pos) (tC v) := by
  obtain ⟨u, h1, h2⟩ := h
  exact pe_glob hg h1 h2 hd
end CPH
/-! part CpI -/
set_option Elab.async false
set_option linter.all false
set_option maxRecDepth 100000
set_option maxHeartbeats 4000000
namespace CP
open PySem PySem.Spec PyProof.Rows L2 CPH
section
variable {W : Wd}
def eNeg (a : ME) : ME := fun ρ => (a ρ).bind fun x => (dI x).map fun i => .int (-i)
theorem sm_neg {t : TE} {a : ME} (h : Sm W t a) : Sm W (tUn (rU fun i => .int (-i)) t) (eNeg a) := fun H0 F H σ ρ d e r q Q k => by
  obtain ⟨x, h1, h2⟩ := Option.bind_eq_some_iff.mp q
  obtain ⟨i, h3, rfl⟩ := Option.map_eq_some_iff.mp h2
  cases dI_eq h3
  refine h H0 F H σ ρ _ e r h1 _ fun v F1 H1 e1 r1 => ?_
  cases r1
  exact ⟨i, rfl, k _ F1 H1 e1 (.int _)⟩
def eLenSet (a : ME) : ME := fun ρ => (a ρ).bind fun x => match x with
  | .tup ds => (intsD ds).bind fun is => if (decide is.Nodup && Nat.ble is.length 1000) = true then some (.int (is.length : Nat)) else none
  | _ => none
theorem sm_lenSet {t : TE} {a : ME} (h : Sm W t a) : Sm W (CPX.tLenSetT W.K t) (eLenSet a) := fun H0 F H σ ρ d e r q Q k => by
  obtain ⟨x, h1, h2⟩ := Option.bind_eq_some_iff.mp q
  cases x with
  | tup ds =>
    obtain ⟨is, h3, h4⟩ := Option.bind_eq_some_iff.mp h2
    split at h4
    · rename_i hc
      simp only [Bool.and_eq_true, decide_eq_true_eq] at hc
      cases h4
      refine h H0 F H σ ρ _ e r h1 _ fun v F1 H1 e1 r1 => ?_
      cases r1 with
      | @tup p xs _ hp rp =>
        obtain rfl := intsD_eq rp h3
        exact ⟨p, is, rfl, ex_t e1.s hp, hc.1, Nat.le_of_ble_eq_true hc.2, k _ F1 H1 e1 (.int _)⟩
    · cases h4
  | _ => cases h2
def dSTATES : D := .tup [.str "G", .str "K", .str "P"]
theorem sm_STATES {K : PySem.W.Frag} {mg : Str → Option Value} (T : Txt K mg) : Sm (WK K) (tC (.ref 297)) (eC dSTATES) :=
  sm_c fun F => .tup (.inr T.t_STATES) (.cons (.str _) (.cons (.str _) (.cons (.str _) .nil)))
theorem glob_STATES {K : PySem.W.Frag} {mg : Str → Option Value} (T : Txt K mg) : GlobV mg "STATES" (.ref 297) := ⟨_, T.g_STATES, rfl⟩
theorem nomarkB (b : Expr) (op : CmpOp) (h : behindInMarks op b = false) : behindInMarks op b = false := h
/-- the place of a field -/
def ixN4 (i : Nat) : Nat → Option Nat
  | 0 => none
  | 1 => some i
  | 2 => some i
  | 3 => some i
  | _ => none
def ixO : Nat → Option Nat
  | 0 => some 0
  | _ => none
theorem fld_entries {K : PySem.W.Frag} {mg : Str → Option Value} (T : Txt K mg) : ∀ c i, ixO c = some i → FldOk (WK K) c "entries" i := fun c i h => by
  match c, h with
  | 0, h =>
    cases h
    exact ⟨T.c_Order, T.n_Order_entries, rfl, fun j hj => by omega⟩
  | c + 1, h => cases h
theorem fld_net {K : PySem.W.Frag} {f : Str} {i : Nat} (c1 : Cls K 948) (c2 : Cls K 1171) (c3 : Cls K 1083) (n1 : NoAttr K 948 f) (n2 : NoAttr K 1171 f) (n3 : NoAttr K 1083 f) (ha : (["bits", "joins", "ends", "held"] : List Str)[i]? = some f)
    (hf : ∀ j, j < i → (["bits", "joins", "ends", "held"] : List Str)[j]? ≠ some f) : ∀ c k, ixN4 i c = some k → FldOk (WK K) c f k := fun c k h => by
  match c, h with
  | 0, h => cases h
  | 1, h => cases h; exact ⟨c1, n1, ha, hf⟩
  | 2, h => cases h; exact ⟨c2, n2, ha, hf⟩
  | 3, h => cases h; exact ⟨c3, n3, ha, hf⟩
  | c + 4, h => cases h
section
variable {K : PySem.W.Frag} {mg : Str → Option Value} (T : Txt K mg)
include T
theorem fld_bits : ∀ c k, ixN4 0 c = some k → FldOk (WK K) c "bits" k := fld_net T.c_Network T.c_Ring T.c_Faulty T.n_Network_bits T.n_Ring_bits T.n_Faulty_bits rfl (fun j hj => by omega)
theorem fld_joins : ∀ c k, ixN4 1 c = some k → FldOk (WK K) c "joins" k := fld_net T.c_Network T.c_Ring T.c_Faulty T.n_Network_joins T.n_Ring_joins T.n_Faulty_joins rfl (fun j hj => by
  match j, hj with
  | 0, _ => decide
  | j + 1, h => omega)
theorem fld_ends : ∀ c k, ixN4 2 c = some k → FldOk (WK K) c "ends" k := fld_net T.c_Network T.c_Ring T.c_Faulty T.n_Network_ends T.n_Ring_ends T.n_Faulty_ends rfl (fun j hj => by
  match j, hj with
  | 0, _ => decide
  | 1, _ => decide
  | j + 2, h => omega)
theorem fld_held : ∀ c k, ixN4 3 c = some k → FldOk (WK K) c "held" k := fld_net T.c_Network T.c_Ring T.c_Faulty T.n_Network_held T.n_Ring_held T.n_Faulty_held rfl (fun j hj => by
  match j, hj with
  | 0, _ => decide
  | 1, _ => decide
  | 2, _ => decide
  | j + 3, h => omega)
end
end
theorem hr65 {A : Around} {k : Nat} (hr : Room k A) : A.units + 65 < cLine := by
  have := hr.un
  omega
theorem pe_orT2 {X : Cx} {a b : Expr} {pos : Pos} {ta tb : TE} (ha : PE X a ta) (hb : PE X b tb) : PE X (.BoolOp .Or [a, b] pos) (tOrT X.K ta tb) := pe_orT ha (pe_one hb)
/-- the wish at a level -/
theorem bodyOk_mono {P : Program} {w : World} {K : PySem.W.Frag} {mg : Str → Option Value} {base : Heap} {N : List Str} {qual : Str} {scope : Scope} {body : List Stmt} {k k' : Nat} {t : TS} (h : BodyOk P w K mg base N qual scope body k t) (hk : k ≤ k') : BodyOk P w K mg base N qual scope body k' t :=
  fun f cdv A outer s H E hr => h f cdv A outer s H E (hr.mono hk)
end CP
/-! part CpJ -/
set_option Elab.async false
set_option linter.all false
set_option maxRecDepth 100000
set_option maxHeartbeats 4000000
namespace CP
open PySem PySem.Spec PyProof.Rows L2 CPH
section
variable {P : Program} {w : World} {K : PySem.W.Frag} {mg : Str → Option Value} {base : Heap}
theorem sc_is_between : FnScope ["value", "least", "most"] ["value", "least", "most"] (defScope s_is_between) := ⟨rfl, rfl, rfl, by decide +kernel, rfl, by decide +kernel, by decide +kernel⟩
def t_is_between (K : PySem.W.Frag) : TS := (tRet (tAndV (tIsi K "int" (tVar 0)) (tAndV (tNotV (tIsi K "bool" (tVar 0))) (tChain (rI0 fun i j => .bl (decide (i ≤ j))) (rI0 fun i j => .bl (decide (i ≤ j))) (tVar 1) (tVar 0) (tVar 2)))))
def b_is_between : MS := (sRet (eAndV (eIsi "int" (eVar 0)) (eAndV (eNotV (eIsi "bool" (eVar 0))) (eChain gLe gLe (eVar 1) (eVar 0) (eVar 2)))))
def m_is_between : List D → Option D := runB 3 b_is_between
theorem bk_is_between (T : Txt K mg) : BodyOk P w K mg base ["value", "least", "most"] "is_between" (defScope s_is_between) (defBody s_is_between) 0 (t_is_between K) := fun f cdv A outer s H E hr =>
  (pss_one (ps_ret (pe_and (pe_callB call_isi (by rfl) T.b_isinstance (by decide +kernel) (pa_cons (pv 0) (pa_cons (pe_bltn (by rfl) T.b_int (by decide +kernel) rfl) pa_nil))) (pe_and (pe_not (pe_callB call_isi (by rfl) T.b_isinstance (by decide +kernel) (pa_cons (pv 0) (pa_cons (pe_bltn (by rfl) T.b_bool (by decide +kernel) rfl) pa_nil)))) (pe_one (pe_chain op_le op_le (pv 1) (pv 0) (pv 2)))))))
theorem sm_is_between (T : Txt K mg) : SmS (WK K) (t_is_between K) b_is_between :=
  (sms_ret (sm_andV (sm_isi (Sm.b sm_var)) (sm_andV (sm_notV (sm_isi (Sm.b sm_var))) (sm_chain s_le s_le sm_var sm_var sm_var))))
theorem g_is_between (T : Txt K mg) : GoodD P w K mg base (WK K) 1 "is_between" [] (mP 3 m_is_between) := by
  obtain ⟨f, fd, hm, F⟩ := T.f_is_between
  exact good_of hm F (ok_def F sc_is_between (bk_is_between T) (sm_is_between T)) (F.bindsN fun _ _ _ _ _ _ us hl => match us, hl with | [_, _, _], _ => rfl)
theorem sc_is_row : FnScope ["value", "length"] ["value", "length"] (defScope s_is_row) := ⟨rfl, rfl, rfl, by decide +kernel, rfl, by decide +kernel, by decide +kernel⟩
def t_is_row (K : PySem.W.Frag) : TS := (tRet (tAndV (tIsi K "tuple" (tVar 0)) (tOp rEq (tCB (fun xs H Q => ∃ x n, xs = [x] ∧ LenV K x H n ∧ Q (.int n) H) (tCons (tVar 0) tNil)) (tVar 1))))
def b_is_row : MS := (sRet (eAndV (eIsi "tuple" (eVar 0)) (eBin (gEq false) (eCall cLen (aCons (eVar 0) aNil)) (eVar 1))))
def m_is_row : List D → Option D := runB 2 b_is_row
theorem bk_is_row (T : Txt K mg) : BodyOk P w K mg base ["value", "length"] "is_row" (defScope s_is_row) (defBody s_is_row) 0 (t_is_row K) := fun f cdv A outer s H E hr =>
  (pss_one (ps_ret (pe_and (pe_callB call_isi (by rfl) T.b_isinstance (by decide +kernel) (pa_cons (pv 0) (pa_cons (pe_bltn (by rfl) T.b_tuple (by decide +kernel) rfl) pa_nil))) (pe_one (pe_cmpR op_eq (pe_callB call_len (by rfl) T.b_len (by decide +kernel) (pa_cons (pv 0) pa_nil)) (pv 1) (nomark _))))))
theorem sm_is_row (T : Txt K mg) : SmS (WK K) (t_is_row K) b_is_row :=
  (sms_ret (sm_andV (sm_isi (Sm.b sm_var)) (sm_op s_eq (Sm.b (sm_cb cs_len (smab_cons (Sm.b sm_var) (SmA.b sma_nil)))) (Sm.b sm_var))))
theorem g_is_row (T : Txt K mg) : GoodD P w K mg base (WK K) 1 "is_row" [] (mP 2 m_is_row) := by
  obtain ⟨f, fd, hm, F⟩ := T.f_is_row
  exact good_of hm F (ok_def F sc_is_row (bk_is_row T) (sm_is_row T)) (F.bindsN fun _ _ _ _ _ _ us hl => match us, hl with | [_, _], _ => rfl)
theorem sc_is_sequence : FnScope ["value"] ["value"] (defScope s_is_sequence) := ⟨rfl, rfl, rfl, by decide +kernel, rfl, by decide +kernel, by decide +kernel⟩
def t_is_sequence (K : PySem.W.Frag) : TS := (tRet (tIsi2 K "tuple" "list" (tVar 0)))
def b_is_sequence : MS := (sRet (eIsi2 "tuple" "list" (eVar 0)))
def m_is_sequence : List D → Option D := runB 1 b_is_sequence
theorem bk_is_sequence (T : Txt K mg) : BodyOk P w K mg base ["value"] "is_sequence" (defScope s_is_sequence) (defBody s_is_sequence) 0 (t_is_sequence K) := fun f cdv A outer s H E hr =>
  (pss_one (ps_ret (pe_callB call_isiT (by rfl) T.b_isinstance (by decide +kernel) (pa_cons (pv 0) (pa_cons (pe_tup (pa_cons (pe_bltn (by rfl) T.b_tuple (by decide +kernel) rfl) (pa_cons (pe_bltn (by rfl) T.b_list (by decide +kernel) rfl) pa_nil))) pa_nil)))))
theorem sm_is_sequence (T : Txt K mg) : SmS (WK K) (t_is_sequence K) b_is_sequence :=
  (sms_ret (sm_isi2 sm_var))
theorem g_is_sequence (T : Txt K mg) : GoodD P w K mg base (WK K) 1 "is_sequence" [] (mP 1 m_is_sequence) := by
  obtain ⟨f, fd, hm, F⟩ := T.f_is_sequence
  exact good_of hm F (ok_def F sc_is_sequence (bk_is_sequence T) (sm_is_sequence T)) (F.bindsN fun _ _ _ _ _ _ us hl => match us, hl with | [_], _ => rfl)
theorem sc_has_states : FnScope ["value", "n", "letter"] ["value", "n"] (defScope s_has_states) := ⟨rfl, rfl, rfl, by decide +kernel, rfl, by decide +kernel, by decide +kernel⟩
def t_has_states (K : PySem.W.Frag) : TS := (tSeq (tIfS (tOr (tNot (tB (tIsi K "str" (tVar 0)))) (tTest (tOp rNe (tCB (fun xs H Q => ∃ x n, xs = [x] ∧ LenV K x H n ∧ Q (.int n) H) (tCons (tVar 0) tNil)) (tOp (rI0 fun i j => .int (i + j)) (tVar 1) (tC (.int 1)))))) (tRet (tC (.bl false))) tNext) (tRet (tOp (rEqD K) (tLc (iStr (tVar 0)) (gName 2) (tTest (tOp (rIn K true) (tVar 2) (tC (.ref 297)))) (tVar 2) [2]) (tLst tNil))))
def b_has_states : MS := (sSeq (sIf (mOr (mNot (tOf (eIsi "str" (eVar 0)))) (tOf (eBin (gEq true) (eCall cLen (aCons (eVar 0) aNil)) (eBin gAdd (eVar 1) (eC (.int 1)))))) (sRet (eC (.bool false))) sNext) (sRet (eBin (gEqD false) (eNew (aComp [2] (iSt (eVar 0)) (gN 2) (tOf (eBin (gIn true) (eVar 2) (eC dSTATES))) (eVar 2))) (eLst aNil))))
def m_has_states : List D → Option D := runB 3 b_has_states
theorem bk_has_states (T : Txt K mg) : BodyOk P w K mg base ["value", "n", "letter"] "has_states" (defScope s_has_states) (defBody s_has_states) 0 (t_has_states K) := fun f cdv A outer s H E hr =>
  (pss_cons (ps_if (PW.pt (pw_or (pt_not (pt_val (pe_callB call_isi (by rfl) T.b_isinstance (by decide +kernel) (pa_cons (pv 0) (pa_cons (pe_bltn (by rfl) T.b_str (by decide +kernel) rfl) pa_nil))))) (pw_or1 (pt_cmpR op_ne (pe_callB call_len (by rfl) T.b_len (by decide +kernel) (pa_cons (pv 0) pa_nil)) (pe_op op_add (pv 1) pe_int) (nomark _))))) (pss_one (ps_ret pe_bl)) pss_nil) (pss_one (ps_ret (pe_cmpR (op_eqD hr.units) (pe_lc (own := [("letter", 2)]) rfl sc_has_states.nd (pi_str (pv 0)) (blkOk_by (by rfl)) (fun _ _ _ _ _ => (pg_name (i := 2) sc_has_states.nd rfl (by first | exact Or.inl rfl | exact Or.inr rfl))) (fun _ _ _ _ _ => pts_one (pt_cmpR op_notIn_seq (pv 2) (pe_glb (glob_STATES T) (by rfl)) (by rfl))) (fun _ _ _ _ _ => (pv 2))) (pe_lst pa_nil) (nomark _)))))
theorem sm_has_states (T : Txt K mg) : SmS (WK K) (t_has_states K) b_has_states :=
  (sms_seq (sms_if (smt_or (smt_not (smt_B (sm_isi (Sm.b sm_var)))) (smt_T (sm_op s_ne (Sm.b (sm_cb cs_len (smab_cons (Sm.b sm_var) (SmA.b sma_nil)))) (Sm.b (sm_op s_add (Sm.b sm_var) (Sm.b sm_int)))))) (sms_ret sm_bl) sms_next) (sms_ret (sm_op s_eqD (Sm.b (sm_of_l (sml_lc (vs := [2]) (smi_str sm_var) tgs_name (by decide) (smt_T (sm_op s_in (Sm.b sm_var) (Sm.b (sm_STATES T)))) sm_var))) (Sm.b (sm_lst sma_nil)))))
theorem g_has_states (T : Txt K mg) : GoodD P w K mg base (WK K) 1 "has_states" [] (mP 2 m_has_states) := by
  obtain ⟨f, fd, hm, F⟩ := T.f_has_states
  exact good_of hm F (ok_def F sc_has_states (bk_has_states T) (sm_has_states T)) (F.bindsN fun _ _ _ _ _ _ us hl => match us, hl with | [_, _], _ => rfl)
theorem sc_state_at : FnScope ["trial", "position"] ["trial", "position"] (defScope s_state_at) := ⟨rfl, rfl, rfl, by decide +kernel, rfl, by decide +kernel, by decide +kernel⟩
def t_state_at (K : PySem.W.Frag) : TS := (tRet (tOp (rIx K) (tVar 0) (tOp (rI0 fun i j => .int (i - j)) (tOp (rI0 fun i j => .int (i - j)) (tCB (fun xs H Q => ∃ x n, xs = [x] ∧ LenV K x H n ∧ Q (.int n) H) (tCons (tVar 0) tNil)) (tC (.int 1))) (tVar 1))))
def b_state_at : MS := (sRet (eBin gIx (eVar 0) (eBin gSubI (eBin gSubI (eCall cLen (aCons (eVar 0) aNil)) (eC (.int 1))) (eVar 1))))
def m_state_at : List D → Option D := runB 2 b_state_at
theorem bk_state_at (T : Txt K mg) : BodyOk P w K mg base ["trial", "position"] "state_at" (defScope s_state_at) (defBody s_state_at) 0 (t_state_at K) := fun f cdv A outer s H E hr =>
  (pss_one (ps_ret (pe_ix ix_seq (pv 0) (pe_op op_sub (pe_op op_sub (pe_callB call_len (by rfl) T.b_len (by decide +kernel) (pa_cons (pv 0) pa_nil)) pe_int) (pv 1)) (fun _ _ => rfl))))
theorem sm_state_at (T : Txt K mg) : SmS (WK K) (t_state_at K) b_state_at :=
  (sms_ret (sm_op s_ix (Sm.b sm_var) (Sm.b (sm_op s_sub (Sm.b (sm_op s_sub (Sm.b (sm_cb cs_len (smab_cons (Sm.b sm_var) (SmA.b sma_nil)))) (Sm.b sm_int))) (Sm.b sm_var)))))
theorem g_state_at (T : Txt K mg) : GoodD P w K mg base (WK K) 1 "state_at" [] (mP 2 m_state_at) := by
  obtain ⟨f, fd, hm, F⟩ := T.f_state_at
  exact good_of hm F (ok_def F sc_state_at (bk_state_at T) (sm_state_at T)) (F.bindsN fun _ _ _ _ _ _ us hl => match us, hl with | [_, _], _ => rfl)
theorem sc_carry_of : FnScope ["state"] ["state"] (defScope s_carry_of) := ⟨rfl, rfl, rfl, by decide +kernel, rfl, by decide +kernel, by decide +kernel⟩
def t_carry_of (K : PySem.W.Frag) : TS := (tRet (tCB (fun xs H Q => (∃ i, xs = [.int i] ∧ Q (.int i) H) ∨ ∃ k, xs = [.bl k] ∧ Q (.int (if k then 1 else 0)) H) (tCons (tOp rEq (tVar 0) (tC (.str "G"))) tNil)))
def b_carry_of : MS := (sRet (eCall cInt (aCons (eBin (gEq false) (eVar 0) (eC (.str "G"))) aNil)))
def m_carry_of : List D → Option D := runB 1 b_carry_of
theorem bk_carry_of (T : Txt K mg) : BodyOk P w K mg base ["state"] "carry_of" (defScope s_carry_of) (defBody s_carry_of) 0 (t_carry_of K) := fun f cdv A outer s H E hr =>
  (pss_one (ps_ret (pe_callTy call_int1 (by rfl) T.b_int (by decide +kernel) (pa_cons (pe_cmpR op_eq (pv 0) (pe_glb T.c_GENERATE (by rfl)) (nomark _)) pa_nil))))
theorem sm_carry_of (T : Txt K mg) : SmS (WK K) (t_carry_of K) b_carry_of :=
  (sms_ret (sm_cb cs_int (smab_cons (Sm.b (sm_op s_eq (Sm.b sm_var) (Sm.b sm_str))) (SmA.b sma_nil))))
theorem g_carry_of (T : Txt K mg) : GoodD P w K mg base (WK K) 1 "carry_of" [] (mP 1 m_carry_of) := by
  obtain ⟨f, fd, hm, F⟩ := T.f_carry_of
  exact good_of hm F (ok_def F sc_carry_of (bk_carry_of T) (sm_carry_of T)) (F.bindsN fun _ _ _ _ _ _ us hl => match us, hl with | [_], _ => rfl)
theorem sc_is_trial : FnScope ["value", "n"] ["value", "n"] (defScope s_is_trial) := ⟨rfl, rfl, rfl, by decide +kernel, rfl, by decide +kernel, by decide +kernel⟩
def t_is_trial (K : PySem.W.Frag) : TS := (tRet (tAndV (tU (spD (WK K) 0 (mP 2 m_has_states)) (tCons (tVar 0) (tCons (tVar 1) tNil)) tNil) (tOp rNe (tOp (rIx K) (tVar 0) (tVar 1)) (tC (.str "P")))))
def b_is_trial : MS := (sRet (eAndV (eU (mP 2 m_has_states) (aCons (eVar 0) (aCons (eVar 1) aNil)) aNil) (eBin (gEq true) (eBin gIx (eVar 0) (eVar 1)) (eC (.str "P")))))
def m_is_trial : List D → Option D := runB 2 b_is_trial
theorem bk_is_trial (T : Txt K mg) : BodyOk P w K mg base ["value", "n"] "is_trial" (defScope s_is_trial) (defBody s_is_trial) 1 (t_is_trial K) := fun f cdv A outer s H E hr =>
  (pss_one (ps_ret (pe_and (pe_u (g_has_states T) (hr.mono (by decide)) (by rfl) (pa_cons (pv 0) (pa_cons (pv 1) pa_nil))) (pe_one (pe_cmpR op_ne (pe_ix ix_seq (pv 0) (pv 1) (fun _ _ => rfl)) (pe_glb T.c_PASS (by rfl)) (nomark _))))))
theorem sm_is_trial (T : Txt K mg) : SmS (WK K) (t_is_trial K) b_is_trial :=
  (sms_ret (sm_andV (sm_u (sma_cons sm_var (sma_cons sm_var sma_nil)) sma_nil) (sm_op s_ne (Sm.b (sm_op s_ix (Sm.b sm_var) (Sm.b sm_var))) (Sm.b sm_str))))
theorem g_is_trial (T : Txt K mg) : GoodD P w K mg base (WK K) 2 "is_trial" [] (mP 2 m_is_trial) := by
  obtain ⟨f, fd, hm, F⟩ := T.f_is_trial
  exact good_of hm F (ok_def F sc_is_trial (bk_is_trial T) (sm_is_trial T)) (F.bindsN fun _ _ _ _ _ _ us hl => match us, hl with | [_, _], _ => rfl)
theorem sc_is_ring_trial : FnScope ["value", "n"] ["value", "n"] (defScope s_is_ring_trial) := ⟨rfl, rfl, rfl, by decide +kernel, rfl, by decide +kernel, by decide +kernel⟩
def t_is_ring_trial (K : PySem.W.Frag) : TS := (tRet (tAndV (tU (spD (WK K) 0 (mP 2 m_has_states)) (tCons (tVar 0) (tCons (tVar 1) tNil)) tNil) (tOp rEq (tOp (rIx K) (tVar 0) (tVar 1)) (tC (.str "P")))))
def b_is_ring_trial : MS := (sRet (eAndV (eU (mP 2 m_has_states) (aCons (eVar 0) (aCons (eVar 1) aNil)) aNil) (eBin (gEq false) (eBin gIx (eVar 0) (eVar 1)) (eC (.str "P")))))
def m_is_ring_trial : List D → Option D := runB 2 b_is_ring_trial
theorem bk_is_ring_trial (T : Txt K mg) : BodyOk P w K mg base ["value", "n"] "is_ring_trial" (defScope s_is_ring_trial) (defBody s_is_ring_trial) 1 (t_is_ring_trial K) := fun f cdv A outer s H E hr =>
  (pss_one (ps_ret (pe_and (pe_u (g_has_states T) (hr.mono (by decide)) (by rfl) (pa_cons (pv 0) (pa_cons (pv 1) pa_nil))) (pe_one (pe_cmpR op_eq (pe_ix ix_seq (pv 0) (pv 1) (fun _ _ => rfl)) (pe_glb T.c_PASS (by rfl)) (nomark _))))))
theorem sm_is_ring_trial (T : Txt K mg) : SmS (WK K) (t_is_ring_trial K) b_is_ring_trial :=
  (sms_ret (sm_andV (sm_u (sma_cons sm_var (sma_cons sm_var sma_nil)) sma_nil) (sm_op s_eq (Sm.b (sm_op s_ix (Sm.b sm_var) (Sm.b sm_var))) (Sm.b sm_str))))
theorem g_is_ring_trial (T : Txt K mg) : GoodD P w K mg base (WK K) 2 "is_ring_trial" [] (mP 2 m_is_ring_trial) := by
  obtain ⟨f, fd, hm, F⟩ := T.f_is_ring_trial
  exact good_of hm F (ok_def F sc_is_ring_trial (bk_is_ring_trial T) (sm_is_ring_trial T)) (F.bindsN fun _ _ _ _ _ _ us hl => match us, hl with | [_, _], _ => rfl)
theorem sc_is_state : FnScope ["value"] ["value"] (defScope s_is_state) := ⟨rfl, rfl, rfl, by decide +kernel, rfl, by decide +kernel, by decide +kernel⟩
def t_is_state (K : PySem.W.Frag) : TS := (tRet (tAndV (tIsi K "str" (tVar 0)) (tAndV (tU (spD (WK K) 0 (mP 3 m_is_between)) (tCons (tCB (fun xs H Q => ∃ x n, xs = [x] ∧ LenV K x H n ∧ Q (.int n) H) (tCons (tVar 0) tNil)) (tCons (tC (.int 1)) (tCons (tC (.int 1)) tNil))) tNil) (tOp (rIn K false) (tVar 0) (tC (.ref 297))))))
def b_is_state : MS := (sRet (eAndV (eIsi "str" (eVar 0)) (eAndV (eU (mP 3 m_is_between) (aCons (eCall cLen (aCons (eVar 0) aNil)) (aCons (eC (.int 1)) (aCons (eC (.int 1)) aNil))) aNil) (eBin (gIn false) (eVar 0) (eC dSTATES)))))
def m_is_state : List D → Option D := runB 1 b_is_state
theorem bk_is_state (T : Txt K mg) : BodyOk P w K mg base ["value"] "is_state" (defScope s_is_state) (defBody s_is_state) 1 (t_is_state K) := fun f cdv A outer s H E hr =>
  (pss_one (ps_ret (pe_and (pe_callB call_isi (by rfl) T.b_isinstance (by decide +kernel) (pa_cons (pv 0) (pa_cons (pe_bltn (by rfl) T.b_str (by decide +kernel) rfl) pa_nil))) (pe_and (pe_u (g_is_between T) (hr.mono (by decide)) (by rfl) (pa_cons (pe_callB call_len (by rfl) T.b_len (by decide +kernel) (pa_cons (pv 0) pa_nil)) (pa_cons pe_int (pa_cons pe_int pa_nil)))) (pe_one (pe_cmpR op_in_seq (pv 0) (pe_glb (glob_STATES T) (by rfl)) (by rfl)))))))
theorem sm_is_state (T : Txt K mg) : SmS (WK K) (t_is_state K) b_is_state :=
  (sms_ret (sm_andV (sm_isi (Sm.b sm_var)) (sm_andV (sm_u (sma_cons (sm_cb cs_len (smab_cons (Sm.b sm_var) (SmA.b sma_nil))) (sma_cons sm_int (sma_cons sm_int sma_nil))) sma_nil) (sm_op s_in (Sm.b sm_var) (Sm.b (sm_STATES T))))))
theorem g_is_state (T : Txt K mg) : GoodD P w K mg base (WK K) 2 "is_state" [] (mP 1 m_is_state) := by
  obtain ⟨f, fd, hm, F⟩ := T.f_is_state
  exact good_of hm F (ok_def F sc_is_state (bk_is_state T) (sm_is_state T)) (F.bindsN fun _ _ _ _ _ _ us hl => match us, hl with | [_], _ => rfl)
theorem sc_first_state : FnScope ["trial", "positions", "position"] ["trial", "positions"] (defScope s_first_state) := ⟨rfl, rfl, rfl, by decide +kernel, rfl, by decide +kernel, by decide +kernel⟩
def t_first_state (K : PySem.W.Frag) : TS := (tSeq (tFor (iTup K (tVar 1)) (gName 2) (tIfS (tTest (tOp rNe (tU (spD (WK K) 0 (mP 2 m_state_at)) (tCons (tVar 0) (tCons (tVar 2) tNil)) tNil) (tC (.str "P")))) (tRet (tU (spD (WK K) 0 (mP 2 m_state_at)) (tCons (tVar 0) (tCons (tVar 2) tNil)) tNil)) tNext)) (tRet (tC (.str "P"))))
def b_first_state : MS := (sSeq (sFor (iTp (eVar 1)) (gN 2) (sIf (tOf (eBin (gEq true) (eU (mP 2 m_state_at) (aCons (eVar 0) (aCons (eVar 2) aNil)) aNil) (eC (.str "P")))) (sRet (eU (mP 2 m_state_at) (aCons (eVar 0) (aCons (eVar 2) aNil)) aNil)) sNext)) (sRet (eC (.str "P"))))
def m_first_state : List D → Option D := runB 3 b_first_state
theorem bk_first_state (T : Txt K mg) : BodyOk P w K mg base ["trial", "positions", "position"] "first_state" (defScope s_first_state) (defBody s_first_state) 1 (t_first_state K) := fun f cdv A outer s H E hr =>
  (pss_cons (ps_for PassesOwn.never rfl (pi_tup (pv 1)) (pg_name (i := 2) sc_first_state.nd rfl (by first | exact Or.inl rfl | exact Or.inr rfl)) (pss_one (ps_if (pt_cmpR op_ne (pe_u (g_state_at T) (hr.mono (by decide)) (by rfl) (pa_cons (pv 0) (pa_cons (pv 2) pa_nil))) (pe_glb T.c_PASS (by rfl)) (nomark _)) (pss_one (ps_ret (pe_u (g_state_at T) (hr.mono (by decide)) (by rfl) (pa_cons (pv 0) (pa_cons (pv 2) pa_nil))))) pss_nil))) (pss_one (ps_ret (pe_glb T.c_PASS (by rfl)))))
theorem sm_first_state (T : Txt K mg) : SmS (WK K) (t_first_state K) b_first_state :=
  (sms_seq (sms_for (smi_tup sm_var) tgs_name (sms_if (smt_T (sm_op s_ne (Sm.b (sm_u (sma_cons sm_var (sma_cons sm_var sma_nil)) sma_nil)) (Sm.b sm_str))) (sms_ret (sm_u (sma_cons sm_var (sma_cons sm_var sma_nil)) sma_nil)) sms_next)) (sms_ret sm_str))
theorem g_first_state (T : Txt K mg) : GoodD P w K mg base (WK K) 2 "first_state" [] (mP 2 m_first_state) := by
  obtain ⟨f, fd, hm, F⟩ := T.f_first_state
  exact good_of hm F (ok_def F sc_first_state (bk_first_state T) (sm_first_state T)) (F.bindsN fun _ _ _ _ _ _ us hl => match us, hl with | [_, _], _ => rfl)
theorem sc_due_positions : FnScope ["n", "output", "ring"] ["n", "output", "ring"] (defScope s_due_positions) := ⟨rfl, rfl, rfl, by decide +kernel, rfl, by decide +kernel, by decide +kernel⟩
def t_due_positions (K : PySem.W.Frag) : TS := (tSeq (tIfS (tNot (tB (tVar 2))) (tRet (CPX.tTupRgC (CPX.tRgC (tCons (tVar 1) (tCons (tUn (rU fun i => .int (-i)) (tC (.int 1))) (tCons (tUn (rU fun i => .int (-i)) (tC (.int 1))) tNil)))))) tNext) (tRet (tCB (fun xs H Q => ∃ p ys, xs = [.ref p] ∧ ((SqL K H p ys ∧ ∀ l, H l = none → Q (.ref l) (upd H l (.tup ys))) ∨ (SqT K H p ys ∧ Q (.ref p) H))) (tCons (tOp rCat (CPX.tLstRgC (CPX.tRgC (tCons (tVar 1) (tCons (tC (.int 0)) (tCons (tUn (rU fun i => .int (-i)) (tC (.int 1))) tNil))))) (CPX.tLstRgC (CPX.tRgC (tCons (tVar 0) (tCons (tVar 1) (tCons (tUn (rU fun i => .int (-i)) (tC (.int 1))) tNil)))))) tNil))))
def b_due_positions : MS := (sSeq (sIf (mNot (tOf (eVar 2))) (sRet (eRg3 .tup (aCons (eVar 1) (aCons (eNeg (eC (.int 1))) (aCons (eNeg (eC (.int 1))) aNil))))) sNext) (sRet (eCall cTuple (aCons (eBin gCat (eRg3 .lst (aCons (eVar 1) (aCons (eC (.int 0)) (aCons (eNeg (eC (.int 1))) aNil)))) (eRg3 .lst (aCons (eVar 0) (aCons (eVar 1) (aCons (eNeg (eC (.int 1))) aNil))))) aNil))))
def m_due_positions : List D → Option D := runB 3 b_due_positions
theorem bk_due_positions (T : Txt K mg) : BodyOk P w K mg base ["n", "output", "ring"] "due_positions" (defScope s_due_positions) (defBody s_due_positions) 0 (t_due_positions K) := fun f cdv A outer s H E hr =>
  (pss_cons (ps_if (pt_not (pt_val (pv 2))) (pss_one (ps_ret (CPX.pe_tupRgC rfl (by rfl) T.b_tuple (CPX.prg_3 (by rfl) T.b_range (pa_cons (pv 1) (pa_cons (pe_un un_neg pe_int) (pa_cons (pe_un un_neg pe_int) pa_nil))))))) pss_nil) (pss_one (ps_ret (pe_callTy call_tuple_of (by rfl) T.b_tuple (by decide +kernel) (pa_cons (pe_op op_cat (CPX.pe_listRgC rfl (by rfl) T.b_list (CPX.prg_3 (by rfl) T.b_range (pa_cons (pv 1) (pa_cons pe_int (pa_cons (pe_un un_neg pe_int) pa_nil))))) (CPX.pe_listRgC rfl (by rfl) T.b_list (CPX.prg_3 (by rfl) T.b_range (pa_cons (pv 0) (pa_cons (pv 1) (pa_cons (pe_un un_neg pe_int) pa_nil)))))) pa_nil)))))
theorem sm_due_positions (T : Txt K mg) : SmS (WK K) (t_due_positions K) b_due_positions :=
  (sms_seq (sms_if (smt_not (smt_B sm_var)) (sms_ret (sm_tupRg3 (sma_cons sm_var (sma_cons (sm_neg sm_int) (sma_cons (sm_neg sm_int) sma_nil))))) sms_next) (sms_ret (sm_cb cs_tuple (smab_cons (Sm.b (sm_op s_cat (Sm.b (sm_lstRg3 (sma_cons sm_var (sma_cons sm_int (sma_cons (sm_neg sm_int) sma_nil))))) (Sm.b (sm_lstRg3 (sma_cons sm_var (sma_cons sm_var (sma_cons (sm_neg sm_int) sma_nil))))))) (SmA.b sma_nil)))))
theorem g_due_positions (T : Txt K mg) : GoodD P w K mg base (WK K) 1 "due_positions" [] (mP 3 m_due_positions) := by
  obtain ⟨f, fd, hm, F⟩ := T.f_due_positions
  exact good_of hm F (ok_def F sc_due_positions (bk_due_positions T) (sm_due_positions T)) (F.bindsN fun _ _ _ _ _ _ us hl => match us, hl with | [_, _, _], _ => rfl)
theorem sc_output_positions : FnScope ["n", "ring"] ["n", "ring"] (defScope s_output_positions) := ⟨rfl, rfl, rfl, by decide +kernel, rfl, by decide +kernel, by decide +kernel⟩
def t_output_positions (K : PySem.W.Frag) : TS := (tRet (tTupRg (tRg2 (tCB (fun xs H Q => (∃ i, xs = [.int i] ∧ Q (.int i) H) ∨ ∃ k, xs = [.bl k] ∧ Q (.int (if k then 1 else 0)) H) (tCons (tVar 1) tNil)) (tOp (rI0 fun i j => .int (i + j)) (tVar 0) (tC (.int 1))))))
def b_output_positions : MS := (sRet (eRg2 .tup (eCall cInt (aCons (eVar 1) aNil)) (eBin gAdd (eVar 0) (eC (.int 1)))))
def m_output_positions : List D → Option D := runB 2 b_output_positions
theorem bk_output_positions (T : Txt K mg) : BodyOk P w K mg base ["n", "ring"] "output_positions" (defScope s_output_positions) (defBody s_output_positions) 0 (t_output_positions K) := fun f cdv A outer s H E hr =>
  (pss_one (ps_ret (pe_tupRg rfl (by rfl) T.b_tuple (prg_2 (by rfl) T.b_range (pe_callTy call_int1 (by rfl) T.b_int (by decide +kernel) (pa_cons (pv 1) pa_nil)) (pe_op op_add (pv 0) pe_int)))))
theorem sm_output_positions (T : Txt K mg) : SmS (WK K) (t_output_positions K) b_output_positions :=
  (sms_ret (sm_tupRg2 (sm_cb cs_int (smab_cons (Sm.b sm_var) (SmA.b sma_nil))) (sm_op s_add (Sm.b sm_var) (Sm.b sm_int))))
theorem g_output_positions (T : Txt K mg) : GoodD P w K mg base (WK K) 1 "output_positions" [] (mP 2 m_output_positions) := by
  obtain ⟨f, fd, hm, F⟩ := T.f_output_positions
  exact good_of hm F (ok_def F sc_output_positions (bk_output_positions T) (sm_output_positions T)) (F.bindsN fun _ _ _ _ _ _ us hl => match us, hl with | [_, _], _ => rfl)
theorem sc_true_carry : FnScope ["trial", "output", "ring"] ["trial", "output"] (defScope s_true_carry) := ⟨rfl, rfl, rfl, by decide +kernel, rfl, by decide +kernel, by decide +kernel⟩
def t_true_carry (K : PySem.W.Frag) : TS := (tSeq (tAsg (tOp rEq (tU (spD (WK K) 0 (mP 2 m_state_at)) (tCons (tVar 0) (tCons (tC (.int 0)) tNil)) tNil) (tC (.str "P"))) (gName 2)) (tRet (tU (spD (WK K) 0 (mP 1 m_carry_of)) (tCons (tU (spD (WK K) 0 (mP 2 m_first_state)) (tCons (tVar 0) (tCons (tU (spD (WK K) 0 (mP 3 m_due_positions)) (tCons (tOp (rI0 fun i j => .int (i - j)) (tCB (fun xs H Q => ∃ x n, xs = [x] ∧ LenV K x H n ∧ Q (.int n) H) (tCons (tVar 0) tNil)) (tC (.int 1))) (tCons (tVar 1) (tCons (tVar 2) tNil))) tNil) tNil)) tNil) tNil) tNil)))
def b_true_carry : MS := (sSeq (sAsg (eBin (gEq false) (eU (mP 2 m_state_at) (aCons (eVar 0) (aCons (eC (.int 0)) aNil)) aNil) (eC (.str "P"))) (gN 2)) (sRet (eU (mP 1 m_carry_of) (aCons (eU (mP 2 m_first_state) (aCons (eVar 0) (aCons (eU (mP 3 m_due_positions) (aCons (eBin gSubI (eCall cLen (aCons (eVar 0) aNil)) (eC (.int 1))) (aCons (eVar 1) (aCons (eVar 2) aNil))) aNil) aNil)) aNil) aNil) aNil)))
def m_true_carry : List D → Option D := runB 3 b_true_carry
theorem bk_true_carry (T : Txt K mg) : BodyOk P w K mg base ["trial", "output", "ring"] "true_carry" (defScope s_true_carry) (defBody s_true_carry) 2 (t_true_carry K) := fun f cdv A outer s H E hr =>
  (pss_cons (ps_set (i := 2) sc_true_carry.nd rfl (by first | exact Or.inl rfl | exact Or.inr rfl) (pe_cmpR op_eq (pe_u (g_state_at T) (hr.mono (by decide)) (by rfl) (pa_cons (pv 0) (pa_cons pe_int pa_nil))) (pe_glb T.c_PASS (by rfl)) (nomark _))) (pss_one (ps_ret (pe_u (g_carry_of T) (hr.mono (by decide)) (by rfl) (pa_cons (pe_u (g_first_state T) (hr.mono (by decide)) (by rfl) (pa_cons (pv 0) (pa_cons (pe_u (g_due_positions T) (hr.mono (by decide)) (by rfl) (pa_cons (pe_op op_sub (pe_callB call_len (by rfl) T.b_len (by decide +kernel) (pa_cons (pv 0) pa_nil)) pe_int) (pa_cons (pv 1) (pa_cons (pv 2) pa_nil)))) pa_nil))) pa_nil)))))
theorem sm_true_carry (T : Txt K mg) : SmS (WK K) (t_true_carry K) b_true_carry :=
  (sms_seq (sms_asg (sm_op s_eq (Sm.b (sm_u (sma_cons sm_var (sma_cons sm_int sma_nil)) sma_nil)) (Sm.b sm_str)) tgs_name) (sms_ret (sm_u (sma_cons (sm_u (sma_cons sm_var (sma_cons (sm_u (sma_cons (sm_op s_sub (Sm.b (sm_cb cs_len (smab_cons (Sm.b sm_var) (SmA.b sma_nil)))) (Sm.b sm_int)) (sma_cons sm_var (sma_cons sm_var sma_nil))) sma_nil) sma_nil)) sma_nil) sma_nil) sma_nil)))
theorem g_true_carry (T : Txt K mg) : GoodD P w K mg base (WK K) 3 "true_carry" [] (mP 2 m_true_carry) := by
  obtain ⟨f, fd, hm, F⟩ := T.f_true_carry
  exact good_of hm F (ok_def F sc_true_carry (bk_true_carry T) (sm_true_carry T)) (F.bindsN fun _ _ _ _ _ _ us hl => match us, hl with | [_, _], _ => rfl)
theorem sc_zero_state : FnScope ["ring"] ["ring"] (defScope s_zero_state) := ⟨rfl, rfl, rfl, by decide +kernel, rfl, by decide +kernel, by decide +kernel⟩
def t_zero_state (K : PySem.W.Frag) : TS := (tRet (tIf (tB (tVar 0)) (tC (.str "P")) (tC (.str "K"))))
def b_zero_state : MS := (sRet (eIf (tOf (eVar 0)) (eC (.str "P")) (eC (.str "K"))))
def m_zero_state : List D → Option D := runB 1 b_zero_state
theorem bk_zero_state (T : Txt K mg) : BodyOk P w K mg base ["ring"] "zero_state" (defScope s_zero_state) (defBody s_zero_state) 0 (t_zero_state K) := fun f cdv A outer s H E hr =>
  (pss_one (ps_ret (pe_ifExp (pt_val (pv 0)) (pe_glb T.c_PASS (by rfl)) (pe_glb T.c_KILL (by rfl)))))
theorem sm_zero_state (T : Txt K mg) : SmS (WK K) (t_zero_state K) b_zero_state :=
  (sms_ret (sm_if (smt_B sm_var) sm_str sm_str))
theorem g_zero_state (T : Txt K mg) : GoodD P w K mg base (WK K) 1 "zero_state" [] (mP 1 m_zero_state) := by
  obtain ⟨f, fd, hm, F⟩ := T.f_zero_state
  exact good_of hm F (ok_def F sc_zero_state (bk_zero_state T) (sm_zero_state T)) (F.bindsN fun _ _ _ _ _ _ us hl => match us, hl with | [_], _ => rfl)
end
end CP
/-! part CpK -/
set_option Elab.async false
set_option linter.all false
set_option maxRecDepth 100000
set_option maxHeartbeats 4000000
namespace CP
open PySem PySem.Spec PyProof.Rows L2 CPH
section
variable {P : Program} {w : World} {K : PySem.W.Frag} {mg : Str → Option Value} {base : Heap}
theorem sc_outputs_asked : FnScope ["n", "outputs", "ring"] ["n", "outputs", "ring"] (defScope s_outputs_asked) := ⟨rfl, rfl, rfl, by decide +kernel, rfl, by decide +kernel, by decide +kernel⟩
def t_outputs_asked (K : PySem.W.Frag) : TS := (tRet (tIf (tTest (tOp (fun x y H Q => y = .non ∧ Q (.bl (decide (x = .non))) H) (tVar 1) (tC .non))) (tU (spD (WK K) 0 (mP 2 m_output_positions)) (tCons (tVar 0) (tCons (tVar 2) tNil)) tNil) (tCB (fun xs H Q => ∃ p ys, xs = [.ref p] ∧ ((SqL K H p ys ∧ ∀ l, H l = none → Q (.ref l) (upd H l (.tup ys))) ∨ (SqT K H p ys ∧ Q (.ref p) H))) (tCons (tVar 1) tNil))))
def b_outputs_asked : MS := (sRet (eIf (tOf (eBin (gIsN false) (eVar 1) (eC .non))) (eU (mP 2 m_output_positions) (aCons (eVar 0) (aCons (eVar 2) aNil)) aNil) (eCall cTuple (aCons (eVar 1) aNil))))
def m_outputs_asked : List D → Option D := runB 3 b_outputs_asked
theorem bk_outputs_asked (T : Txt K mg) : BodyOk P w K mg base ["n", "outputs", "ring"] "outputs_asked" (defScope s_outputs_asked) (defBody s_outputs_asked) 1 (t_outputs_asked K) := fun f cdv A outer s H E hr =>
  (pss_one (ps_ret (pe_ifExp (pt_cmpR op_isN (pv 1) pe_non (nomark _)) (pe_u (g_output_positions T) (hr.mono (by decide)) (by rfl) (pa_cons (pv 0) (pa_cons (pv 2) pa_nil))) (pe_callTy call_tuple_of (by rfl) T.b_tuple (by decide +kernel) (pa_cons (pv 1) pa_nil)))))
theorem sm_outputs_asked (T : Txt K mg) : SmS (WK K) (t_outputs_asked K) b_outputs_asked :=
  (sms_ret (sm_if (smt_T (sm_op s_isN (Sm.b sm_var) (Sm.b sm_non))) (sm_u (sma_cons sm_var (sma_cons sm_var sma_nil)) sma_nil) (sm_cb cs_tuple (smab_cons (Sm.b sm_var) (SmA.b sma_nil)))))
theorem g_outputs_asked (T : Txt K mg) : GoodD P w K mg base (WK K) 2 "outputs_asked" [] (mP 3 m_outputs_asked) := by
  obtain ⟨f, fd, hm, F⟩ := T.f_outputs_asked
  exact good_of hm F (ok_def F sc_outputs_asked (bk_outputs_asked T) (sm_outputs_asked T)) (F.bindsN fun _ _ _ _ _ _ us hl => match us, hl with | [_, _, _], _ => rfl)
theorem sc_options_at : FnScope ["n", "due", "place", "ring", "stuck", "found", "position"] ["n", "due", "place", "ring", "stuck"] (defScope s_options_at) := ⟨rfl, rfl, rfl, by decide +kernel, rfl, by decide +kernel, by decide +kernel⟩
def t_options_at (K : PySem.W.Frag) : TS := (tSeq (tIfS (tTest (tOp rEq (tVar 2) (tCB (fun xs H Q => ∃ x n, xs = [x] ∧ LenV K x H n ∧ Q (.int n) H) (tCons (tVar 1) tNil)))) (tRet (tLst (tCons (tC (.str "G")) tNil))) tNext) (tSeq (tAsg (tLc (iRng2 (tCons (tCB (fun xs H Q => (∃ i, xs = [.int i] ∧ Q (.int i) H) ∨ ∃ k, xs = [.bl k] ∧ Q (.int (if k then 1 else 0)) H) (tCons (tVar 3) tNil)) (tCons (tOp (rI0 fun i j => .int (i + j)) (tVar 0) (tC (.int 1))) tNil))) (gName 6) (tTest (tOp (rIn K true) (tVar 6) (tSl (rSlA K) (tVar 1) tNoPart (tPart (tOp (rI0 fun i j => .int (i + j)) (tVar 2) (tC (.int 1))))))) (tVar 6) [6]) (gName 5)) (tRet (tOp rCat (tOp rCat (tVar 5) (tOp rRep (tLst (tCons (tC (.str "end")) tNil)) (tCB (fun xs H Q => (∃ i, xs = [.int i] ∧ Q (.int i) H) ∨ ∃ k, xs = [.bl k] ∧ Q (.int (if k then 1 else 0)) H) (tCons (tOrV (tOp (rI0 fun i j => .bl (decide (j < i))) (tVar 2) (tC (.int 0))) (tVar 4)) tNil)))) (tOp rRep (tLst (tCons (tC (.str "G")) tNil)) (tCB (fun xs H Q => (∃ i, xs = [.int i] ∧ Q (.int i) H) ∨ ∃ k, xs = [.bl k] ∧ Q (.int (if k then 1 else 0)) H) (tCons (tVar 4) tNil)))))))
def b_options_at : MS := (sSeq (sIf (tOf (eBin (gEq false) (eVar 2) (eCall cLen (aCons (eVar 1) aNil)))) (sRet (eLst (aCons (eC (.str "G")) aNil))) sNext) (sSeq (sAsg (eNew (aComp [6] (iR2 (aCons (eCall cInt (aCons (eVar 3) aNil)) (aCons (eBin gAdd (eVar 0) (eC (.int 1))) aNil))) (gN 6) (tOf (eBin (gIn true) (eVar 6) (eSlT (eVar 1) oNone (oSome (eBin gAdd (eVar 2) (eC (.int 1))))))) (eVar 6))) (gN 5)) (sRet (eBin gCat (eBin gCat (eVar 5) (eBin gRep (eLst (aCons (eC (.str "end")) aNil)) (eCall cInt (aCons (eOrV (eBin gGt (eVar 2) (eC (.int 0))) (eVar 4)) aNil)))) (eBin gRep (eLst (aCons (eC (.str "G")) aNil)) (eCall cInt (aCons (eVar 4) aNil)))))))
def m_options_at : List D → Option D := runB 7 b_options_at
theorem bk_options_at (T : Txt K mg) : BodyOk P w K mg base ["n", "due", "place", "ring", "stuck", "found", "position"] "options_at" (defScope s_options_at) (defBody s_options_at) 0 (t_options_at K) := fun f cdv A outer s H E hr =>
  (pss_cons (ps_if (pt_cmpR op_eq (pv 2) (pe_callB call_len (by rfl) T.b_len (by decide +kernel) (pa_cons (pv 1) pa_nil)) (nomark _)) (pss_one (ps_ret (pe_lst (pa_cons (pe_glb T.c_GENERATE (by rfl)) pa_nil)))) pss_nil) (pss_cons (ps_setLc (i := 5) (own := [("position", 6)]) rfl sc_options_at.nd rfl rfl (sw_true rfl rfl rfl (by decide +kernel)) (pi_range2 (by rfl) T.b_range (pa_cons (pe_callTy call_int1 (by rfl) T.b_int (by decide +kernel) (pa_cons (pv 3) pa_nil)) (pa_cons (pe_op op_add (pv 0) pe_int) pa_nil))) (blkOk_by (by rfl)) (fun _ _ _ _ _ => (pg_name (i := 6) sc_options_at.nd rfl (by first | exact Or.inl rfl | exact Or.inr rfl))) (fun _ _ _ _ _ => pts_one (pt_cmpR op_notIn_seq (pv 6) (pe_slice sl_tupA (pv 1) po_none (po_some (pe_op op_add (pv 2) pe_int))) (by rfl))) (fun _ _ _ _ _ => (pv 6))) (pss_one (ps_ret (pe_op op_cat (pe_op op_cat (pv 5) (pe_op op_rep (pe_lst (pa_cons (pe_glb T.c_END (by rfl)) pa_nil)) (pe_callTy call_int1 (by rfl) T.b_int (by decide +kernel) (pa_cons (pe_or (pe_cmpR op_gt (pv 2) pe_int (nomark _)) (pe_one (pv 4))) pa_nil)))) (pe_op op_rep (pe_lst (pa_cons (pe_glb T.c_GENERATE (by rfl)) pa_nil)) (pe_callTy call_int1 (by rfl) T.b_int (by decide +kernel) (pa_cons (pv 4) pa_nil))))))))
theorem sm_options_at (T : Txt K mg) : SmS (WK K) (t_options_at K) b_options_at :=
  (sms_seq (sms_if (smt_T (sm_op s_eq (Sm.b sm_var) (Sm.b (sm_cb cs_len (smab_cons (Sm.b sm_var) (SmA.b sma_nil)))))) (sms_ret (sm_lst (sma_cons sm_str sma_nil))) sms_next) (sms_seq (sms_asg (sm_of_l (sml_lc (vs := [6]) (smi_r2 (sma_cons (sm_cb cs_int (smab_cons (Sm.b sm_var) (SmA.b sma_nil))) (sma_cons (sm_op s_add (Sm.b sm_var) (Sm.b sm_int)) sma_nil))) tgs_name (by decide) (smt_T (sm_op s_in (Sm.b sm_var) (Sm.b (sm_slT sm_var smo_none (smo_some (sm_op s_add (Sm.b sm_var) (Sm.b sm_int))))))) sm_var)) tgs_name) (sms_ret (sm_op s_cat (Sm.b (sm_op s_cat (Sm.b sm_var) (Sm.b (sm_op s_rep (Sm.b (sm_lst (sma_cons sm_str sma_nil))) (Sm.b (sm_cb cs_int (smab_cons (Sm.b (sm_orV (sm_op s_gt (Sm.b sm_var) (Sm.b sm_int)) sm_var)) (SmA.b sma_nil)))))))) (Sm.b (sm_op s_rep (Sm.b (sm_lst (sma_cons sm_str sma_nil))) (Sm.b (sm_cb cs_int (smab_cons (Sm.b sm_var) (SmA.b sma_nil))))))))))
theorem g_options_at (T : Txt K mg) : GoodD P w K mg base (WK K) 1 "options_at" [] (mP 5 m_options_at) := by
  obtain ⟨f, fd, hm, F⟩ := T.f_options_at
  exact good_of hm F (ok_def F sc_options_at (bk_options_at T) (sm_options_at T)) (F.bindsN fun _ _ _ _ _ _ us hl => match us, hl with | [_, _, _, _, _], _ => rfl)
theorem sc_options_of : FnScope ["n", "output", "ring", "stuck", "due", "place"] ["n", "output", "ring", "stuck"] (defScope s_options_of) := ⟨rfl, rfl, rfl, by decide +kernel, rfl, by decide +kernel, by decide +kernel⟩
def t_options_of (K : PySem.W.Frag) : TS := (tSeq (tAsg (tU (spD (WK K) 0 (mP 3 m_due_positions)) (tCons (tVar 0) (tCons (tVar 1) (tCons (tVar 2) tNil))) tNil) (gName 4)) (tRet (tLc (iRng1 (tCons (tOp (rI0 fun i j => .int (i + j)) (tCB (fun xs H Q => ∃ x n, xs = [x] ∧ LenV K x H n ∧ Q (.int n) H) (tCons (tVar 4) tNil)) (tCB (fun xs H Q => (∃ i, xs = [.int i] ∧ Q (.int i) H) ∨ ∃ k, xs = [.bl k] ∧ Q (.int (if k then 1 else 0)) H) (tCons (tAndV (tVar 2) (tVar 3)) tNil))) tNil)) (gName 5) tYes (tU (spD (WK K) 0 (mP 5 m_options_at)) (tCons (tVar 0) (tCons (tVar 4) (tCons (tVar 5) (tCons (tVar 2) (tCons (tVar 3) tNil))))) tNil) [5])))
def b_options_of : MS := (sSeq (sAsg (eU (mP 3 m_due_positions) (aCons (eVar 0) (aCons (eVar 1) (aCons (eVar 2) aNil))) aNil) (gN 4)) (sRet (eNew (aComp [5] (iR1 (aCons (eBin gAdd (eCall cLen (aCons (eVar 4) aNil)) (eCall cInt (aCons (eAndV (eVar 2) (eVar 3)) aNil))) aNil)) (gN 5) (fun _ => some true) (eU (mP 5 m_options_at) (aCons (eVar 0) (aCons (eVar 4) (aCons (eVar 5) (aCons (eVar 2) (aCons (eVar 3) aNil))))) aNil)))))
def m_options_of : List D → Option D := runB 6 b_options_of
theorem bk_options_of (T : Txt K mg) : BodyOk P w K mg base ["n", "output", "ring", "stuck", "due", "place"] "options_of" (defScope s_options_of) (defBody s_options_of) 1 (t_options_of K) := fun f cdv A outer s H E hr =>
  (pss_cons (ps_set (i := 4) sc_options_of.nd rfl (by first | exact Or.inl rfl | exact Or.inr rfl) (pe_u (g_due_positions T) (hr.mono (by decide)) (by rfl) (pa_cons (pv 0) (pa_cons (pv 1) (pa_cons (pv 2) pa_nil))))) (pss_one (ps_ret (pe_lc (own := [("place", 5)]) rfl sc_options_of.nd (pi_range1 (by rfl) T.b_range (pa_cons (pe_op op_add (pe_callB call_len (by rfl) T.b_len (by decide +kernel) (pa_cons (pv 4) pa_nil)) (pe_callTy call_int1 (by rfl) T.b_int (by decide +kernel) (pa_cons (pe_and (pv 2) (pe_one (pv 3))) pa_nil))) pa_nil)) (blkOk_by (by rfl)) (fun _ _ _ _ _ => (pg_name (i := 5) sc_options_of.nd rfl (by first | exact Or.inl rfl | exact Or.inr rfl))) (fun _ _ _ _ _ => pts_nil) (fun _ _ _ _ _ => (pe_u (g_options_at T) (hr.mono (by decide)) (by rfl) (pa_cons (pv 0) (pa_cons (pv 4) (pa_cons (pv 5) (pa_cons (pv 2) (pa_cons (pv 3) pa_nil)))))))))))
theorem sm_options_of (T : Txt K mg) : SmS (WK K) (t_options_of K) b_options_of :=
  (sms_seq (sms_asg (sm_u (sma_cons sm_var (sma_cons sm_var (sma_cons sm_var sma_nil))) sma_nil) tgs_name) (sms_ret (sm_of_l (sml_lc (vs := [5]) (smi_r1 (sma_cons (sm_op s_add (Sm.b (sm_cb cs_len (smab_cons (Sm.b sm_var) (SmA.b sma_nil)))) (Sm.b (sm_cb cs_int (smab_cons (Sm.b (sm_andV sm_var sm_var)) (SmA.b sma_nil))))) sma_nil)) tgs_name (by decide) smt_yes (sm_u (sma_cons sm_var (sma_cons sm_var (sma_cons sm_var (sma_cons sm_var (sma_cons sm_var sma_nil))))) sma_nil)))))
theorem g_options_of (T : Txt K mg) : GoodD P w K mg base (WK K) 2 "options_of" [] (mP 4 m_options_of) := by
  obtain ⟨f, fd, hm, F⟩ := T.f_options_of
  exact good_of hm F (ok_def F sc_options_of (bk_options_of T) (sm_options_of T)) (F.bindsN fun _ _ _ _ _ _ us hl => match us, hl with | [_, _, _, _], _ => rfl)
theorem sc_leading_passes : FnScope ["trial", "due", "place", "position"] ["trial", "due"] (defScope s_leading_passes) := ⟨rfl, rfl, rfl, by decide +kernel, rfl, by decide +kernel, by decide +kernel⟩
def t_leading_passes (K : PySem.W.Frag) : TS := (tSeq (tFor (CPX.iEnumT K (tCons (tVar 1) tNil)) (gTup K 2 (gCons (gName 2) (gCons (gName 3) gNil))) (tIfS (tTest (tOp rNe (tU (spD (WK K) 0 (mP 2 m_state_at)) (tCons (tVar 0) (tCons (tVar 3) tNil)) tNil) (tC (.str "P")))) (tRet (tVar 2)) tNext)) (tRet (tCB (fun xs H Q => ∃ x n, xs = [x] ∧ LenV K x H n ∧ Q (.int n) H) (tCons (tVar 1) tNil))))
def b_leading_passes : MS := (sSeq (sFor (iEnT (eVar 1)) (gTp (gCons0 (gN 2) (gCons0 (gN 3) gNil0)) 2) (sIf (tOf (eBin (gEq true) (eU (mP 2 m_state_at) (aCons (eVar 0) (aCons (eVar 3) aNil)) aNil) (eC (.str "P")))) (sRet (eVar 2)) sNext)) (sRet (eCall cLen (aCons (eVar 1) aNil))))
def m_leading_passes : List D → Option D := runB 4 b_leading_passes
theorem bk_leading_passes (T : Txt K mg) : BodyOk P w K mg base ["trial", "due", "place", "position"] "leading_passes" (defScope s_leading_passes) (defBody s_leading_passes) 1 (t_leading_passes K) := fun f cdv A outer s H E hr =>
  (pss_cons (ps_for PassesOwn.never rfl (CPX.pi_enumT (by rfl) T.b_enumerate (pa_cons (pv 1) pa_nil)) (pg_tup rfl (pgs_cons (pg_name (i := 2) sc_leading_passes.nd rfl (by first | exact Or.inl rfl | exact Or.inr rfl)) (pgs_cons (pg_name (i := 3) sc_leading_passes.nd rfl (by first | exact Or.inl rfl | exact Or.inr rfl)) pgs_nil))) (pss_one (ps_if (pt_cmpR op_ne (pe_u (g_state_at T) (hr.mono (by decide)) (by rfl) (pa_cons (pv 0) (pa_cons (pv 3) pa_nil))) (pe_glb T.c_PASS (by rfl)) (nomark _)) (pss_one (ps_ret (pv 2))) pss_nil))) (pss_one (ps_ret (pe_callB call_len (by rfl) T.b_len (by decide +kernel) (pa_cons (pv 1) pa_nil)))))
theorem sm_leading_passes (T : Txt K mg) : SmS (WK K) (t_leading_passes K) b_leading_passes :=
  (sms_seq (sms_for (smi_enumT sm_var) (tgs_tup (tgss_cons tgs_name (tgss_cons tgs_name tgss_nil))) (sms_if (smt_T (sm_op s_ne (Sm.b (sm_u (sma_cons sm_var (sma_cons sm_var sma_nil)) sma_nil)) (Sm.b sm_str))) (sms_ret sm_var) sms_next)) (sms_ret (sm_cb cs_len (smab_cons (Sm.b sm_var) (SmA.b sma_nil)))))
theorem g_leading_passes (T : Txt K mg) : GoodD P w K mg base (WK K) 2 "leading_passes" [] (mP 2 m_leading_passes) := by
  obtain ⟨f, fd, hm, F⟩ := T.f_leading_passes
  exact good_of hm F (ok_def F sc_leading_passes (bk_leading_passes T) (sm_leading_passes T)) (F.bindsN fun _ _ _ _ _ _ us hl => match us, hl with | [_, _], _ => rfl)
theorem sc_is_refuted : FnScope ["trial", "option", "carry", "state"] ["trial", "option", "carry"] (defScope s_is_refuted) := ⟨rfl, rfl, rfl, by decide +kernel, rfl, by decide +kernel, by decide +kernel⟩
def t_is_refuted (K : PySem.W.Frag) : TS := (tSeq (tIfS (tTest (tOp rEq (tVar 1) (tC (.str "end")))) (tRet (tOp rEq (tVar 2) (tC (.int 1)))) tNext) (tSeq (tAsg (tIf (tTest (tOp rEq (tVar 1) (tC (.str "G")))) (tVar 1) (tU (spD (WK K) 0 (mP 2 m_state_at)) (tCons (tVar 0) (tCons (tVar 1) tNil)) tNil)) (gName 3)) (tRet (tAndV (tOp rNe (tVar 3) (tC (.str "P"))) (tOp rNe (tU (spD (WK K) 0 (mP 1 m_carry_of)) (tCons (tVar 3) tNil) tNil) (tVar 2))))))
def b_is_refuted : MS := (sSeq (sIf (tOf (eBin (gEq false) (eVar 1) (eC (.str "end")))) (sRet (eBin (gEq false) (eVar 2) (eC (.int 1)))) sNext) (sSeq (sAsg (eIf (tOf (eBin (gEq false) (eVar 1) (eC (.str "G")))) (eVar 1) (eU (mP 2 m_state_at) (aCons (eVar 0) (aCons (eVar 1) aNil)) aNil)) (gN 3)) (sRet (eAndV (eBin (gEq true) (eVar 3) (eC (.str "P"))) (eBin (gEq true) (eU (mP 1 m_carry_of) (aCons (eVar 3) aNil) aNil) (eVar 2))))))
def m_is_refuted : List D → Option D := runB 4 b_is_refuted
theorem bk_is_refuted (T : Txt K mg) : BodyOk P w K mg base ["trial", "option", "carry", "state"] "is_refuted" (defScope s_is_refuted) (defBody s_is_refuted) 1 (t_is_refuted K) := fun f cdv A outer s H E hr =>
  (pss_cons (ps_if (pt_cmpR op_eq (pv 1) (pe_glb T.c_END (by rfl)) (nomark _)) (pss_one (ps_ret (pe_cmpR op_eq (pv 2) pe_int (nomark _)))) pss_nil) (pss_cons (ps_set (i := 3) sc_is_refuted.nd rfl (by first | exact Or.inl rfl | exact Or.inr rfl) (pe_ifExp (pt_cmpR op_eq (pv 1) (pe_glb T.c_GENERATE (by rfl)) (nomark _)) (pv 1) (pe_u (g_state_at T) (hr.mono (by decide)) (by rfl) (pa_cons (pv 0) (pa_cons (pv 1) pa_nil))))) (pss_one (ps_ret (pe_and (pe_cmpR op_ne (pv 3) (pe_glb T.c_PASS (by rfl)) (nomark _)) (pe_one (pe_cmpR op_ne (pe_u (g_carry_of T) (hr.mono (by decide)) (by rfl) (pa_cons (pv 3) pa_nil)) (pv 2) (nomark _))))))))
theorem sm_is_refuted (T : Txt K mg) : SmS (WK K) (t_is_refuted K) b_is_refuted :=
  (sms_seq (sms_if (smt_T (sm_op s_eq (Sm.b sm_var) (Sm.b sm_str))) (sms_ret (sm_op s_eq (Sm.b sm_var) (Sm.b sm_int))) sms_next) (sms_seq (sms_asg (sm_if (smt_T (sm_op s_eq (Sm.b sm_var) (Sm.b sm_str))) sm_var (sm_u (sma_cons sm_var (sma_cons sm_var sma_nil)) sma_nil)) tgs_name) (sms_ret (sm_andV (sm_op s_ne (Sm.b sm_var) (Sm.b sm_str)) (sm_op s_ne (Sm.b (sm_u (sma_cons sm_var sma_nil) sma_nil)) (Sm.b sm_var))))))
theorem g_is_refuted (T : Txt K mg) : GoodD P w K mg base (WK K) 2 "is_refuted" [] (mP 3 m_is_refuted) := by
  obtain ⟨f, fd, hm, F⟩ := T.f_is_refuted
  exact good_of hm F (ok_def F sc_is_refuted (bk_is_refuted T) (sm_is_refuted T)) (F.bindsN fun _ _ _ _ _ _ us hl => match us, hl with | [_, _, _], _ => rfl)
theorem sc_refuters : FnScope ["n", "trials", "output", "ring", "stuck", "due", "known", "found", "index", "trial", "place", "options", "asked", "row", "option", "bit", "carry", "lead"] ["n", "trials", "output", "ring", "stuck"] (defScope s_refuters) := ⟨rfl, rfl, rfl, by decide +kernel, rfl, by decide +kernel, by decide +kernel⟩
def t_refuters (K : PySem.W.Frag) : TS := (tSeq (tAsg (tU (spD (WK K) 0 (mP 3 m_due_positions)) (tCons (tVar 0) (tCons (tVar 2) (tCons (tVar 3) tNil))) tNil) (gName 5)) (tSeq (tAsg (tLst tNil) (gName 6)) (tSeq (tFor (CPX.iEnumT K (tCons (tVar 1) tNil)) (gTup K 2 (gCons (gName 8) (gCons (gName 9) gNil))) (tDrop (tBM K "list" rAppend (tVar 6) (tCons (tTup (tCons (tOp (rI CPow fun i j => .int (i * 2 ^ j.toNat)) (tC (.int 1)) (tVar 8)) (tCons (tVar 9) (tCons (tU (spD (WK K) 0 (mP 2 m_true_carry)) (tCons (tVar 9) (tCons (tVar 2) tNil)) tNil) (tCons (tU (spD (WK K) 0 (mP 2 m_leading_passes)) (tCons (tVar 9) (tCons (tVar 5) tNil)) tNil) tNil))))) tNil)))) (tSeq (tAsg (tLst tNil) (gName 7)) (tSeq (tFor (iEnum K (tCons (tU (spD (WK K) 0 (mP 4 m_options_of)) (tCons (tVar 0) (tCons (tVar 2) (tCons (tVar 3) (tCons (tVar 4) tNil)))) tNil) tNil)) (gTup K 2 (gCons (gName 10) (gCons (gName 11) gNil))) (tSeq (tAsg (tLc (iList K (tVar 6)) (gTup K 4 (gCons (gName 15) (gCons (gName 9) (gCons (gName 16) (gCons (gName 17) gNil))))) (tTest (tOp (rI0 fun i j => .bl (decide (j ≤ i))) (tVar 17) (tVar 10))) (tTup (tCons (tVar 15) (tCons (tVar 9) (tCons (tVar 16) tNil)))) [15, 9, 16, 17]) (gName 12)) (tSeq (tAsg (tLst tNil) (gName 13)) (tSeq (tFor (iList K (tVar 11)) (gName 14) (tDrop (tBM K "list" rAppend (tVar 13) (tCons (tCB (rSum K) (tCons (tLc (iList K (tVar 12)) (gTup K 3 (gCons (gName 15) (gCons (gName 9) (gCons (gName 16) gNil)))) (tB (tU (spD (WK K) 0 (mP 3 m_is_refuted)) (tCons (tVar 9) (tCons (tVar 14) (tCons (tVar 16) tNil))) tNil)) (tVar 15) [15, 9, 16]) tNil)) tNil)))) (tDrop (tBM K "list" rAppend (tVar 7) (tCons (tVar 13) tNil))))))) (tRet (tVar 7)))))))
def b_refuters : MS := (sSeq (sAsg (eU (mP 3 m_due_positions) (aCons (eVar 0) (aCons (eVar 2) (aCons (eVar 3) aNil))) aNil) (gN 5)) (sSeq (sAsgO 6 (aCap aNil)) (sSeq (sFor (iEnT (eVar 1)) (gTp (gCons0 (gN 8) (gCons0 (gN 9) gNil0)) 2) (sApp 6 (eTup (aCons (eBin gShl (eC (.int 1)) (eVar 8)) (aCons (eVar 9) (aCons (eU (mP 2 m_true_carry) (aCons (eVar 9) (aCons (eVar 2) aNil)) aNil) (aCons (eU (mP 2 m_leading_passes) (aCons (eVar 9) (aCons (eVar 5) aNil)) aNil) aNil))))))) (sSeq (sAsgO 7 (aCap aNil)) (sSeq (sFor (iEn (eU (mP 4 m_options_of) (aCons (eVar 0) (aCons (eVar 2) (aCons (eVar 3) (aCons (eVar 4) aNil)))) aNil)) (gTp (gCons0 (gN 10) (gCons0 (gN 11) gNil0)) 2) (sSeq (fun ρ => (sAsg (eNew (aComp [15, 9, 16, 17] (iLst (eVar 6)) (gTp (gCons0 (gN 15) (gCons0 (gN 9) (gCons0 (gN 16) (gCons0 (gN 17) gNil0)))) 4) (tOf (eBin gGe (eVar 17) (eVar 10))) (eTup (aCons (eVar 15) (aCons (eVar 9) (aCons (eVar 16) aNil)))))) (gN 12)) (freeze 6 ρ)) (sSeq (sAsgO 13 (aCap aNil)) (sSeq (sFor (iLst (eVar 11)) (gN 14) (sApp 13 (eCall cSum (aCons (eNew (aComp [15, 9, 16] (iLst (eVar 12)) (gTp (gCons0 (gN 15) (gCons0 (gN 9) (gCons0 (gN 16) gNil0))) 3) (tOf (eU (mP 3 m_is_refuted) (aCons (eVar 9) (aCons (eVar 14) (aCons (eVar 16) aNil))) aNil)) (eVar 15))) aNil)))) (fun ρ => (sApp 7 (eVar 13)) (freeze 13 ρ)))))) (fun ρ => (sRet (eVar 7)) (freeze 7 ρ)))))))
def m_refuters : List D → Option D := runB 18 b_refuters
theorem bk_refuters (T : Txt K mg) : BodyOk P w K mg base ["n", "trials", "output", "ring", "stuck", "due", "known", "found", "index", "trial", "place", "options", "asked", "row", "option", "bit", "carry", "lead"] "refuters" (defScope s_refuters) (defBody s_refuters) 3 (t_refuters K) := fun f cdv A outer s H E hr =>
  (pss_cons (ps_set (i := 5) sc_refuters.nd rfl (by first | exact Or.inl rfl | exact Or.inr rfl) (pe_u (g_due_positions T) (hr.mono (by decide)) (by rfl) (pa_cons (pv 0) (pa_cons (pv 2) (pa_cons (pv 3) pa_nil))))) (pss_cons (ps_set (i := 6) sc_refuters.nd rfl (by first | exact Or.inl rfl | exact Or.inr rfl) (pe_lst pa_nil)) (pss_cons (ps_for PassesOwn.never rfl (CPX.pi_enumT (by rfl) T.b_enumerate (pa_cons (pv 1) pa_nil)) (pg_tup rfl (pgs_cons (pg_name (i := 8) sc_refuters.nd rfl (by first | exact Or.inl rfl | exact Or.inr rfl)) (pgs_cons (pg_name (i := 9) sc_refuters.nd rfl (by first | exact Or.inl rfl | exact Or.inr rfl)) pgs_nil))) (pss_one (ps_expr (pe_bm PySem.F.plainAttrs_list PySem.F.slot_list_append PySem.F.type_list_append mt_append (pv 6) (pa_cons (pe_tup (pa_cons (pe_op op_shl pe_int (pv 8)) (pa_cons (pv 9) (pa_cons (pe_u (g_true_carry T) (hr.mono (by decide)) (by rfl) (pa_cons (pv 9) (pa_cons (pv 2) pa_nil))) (pa_cons (pe_u (g_leading_passes T) (hr.mono (by decide)) (by rfl) (pa_cons (pv 9) (pa_cons (pv 5) pa_nil))) pa_nil))))) pa_nil))))) (pss_cons (ps_set (i := 7) sc_refuters.nd rfl (by first | exact Or.inl rfl | exact Or.inr rfl) (pe_lst pa_nil)) (pss_cons (ps_for PassesOwn.never rfl (pi_enum (by rfl) T.b_enumerate (pa_cons (pe_u (g_options_of T) (hr.mono (by decide)) (by rfl) (pa_cons (pv 0) (pa_cons (pv 2) (pa_cons (pv 3) (pa_cons (pv 4) pa_nil))))) pa_nil)) (pg_tup rfl (pgs_cons (pg_name (i := 10) sc_refuters.nd rfl (by first | exact Or.inl rfl | exact Or.inr rfl)) (pgs_cons (pg_name (i := 11) sc_refuters.nd rfl (by first | exact Or.inl rfl | exact Or.inr rfl)) pgs_nil))) (pss_cons (ps_setLc (i := 12) (own := [("bit", 15), ("trial", 9), ("carry", 16), ("lead", 17)]) rfl sc_refuters.nd rfl rfl (sw_true rfl rfl rfl (by decide +kernel)) (pi_list (pv 6)) (blkOk_by (by rfl)) (fun _ _ _ _ _ => (pg_tup rfl (pgs_cons (pg_name (i := 15) sc_refuters.nd rfl (by first | exact Or.inl rfl | exact Or.inr rfl)) (pgs_cons (pg_name (i := 9) sc_refuters.nd rfl (by first | exact Or.inl rfl | exact Or.inr rfl)) (pgs_cons (pg_name (i := 16) sc_refuters.nd rfl (by first | exact Or.inl rfl | exact Or.inr rfl)) (pgs_cons (pg_name (i := 17) sc_refuters.nd rfl (by first | exact Or.inl rfl | exact Or.inr rfl)) pgs_nil)))))) (fun _ _ _ _ _ => pts_one (pt_cmpR op_ge (pv 17) (pv 10) (nomark _))) (fun _ _ _ _ _ => (pe_tup (pa_cons (pv 15) (pa_cons (pv 9) (pa_cons (pv 16) pa_nil)))))) (pss_cons (ps_set (i := 13) sc_refuters.nd rfl (by first | exact Or.inl rfl | exact Or.inr rfl) (pe_lst pa_nil)) (pss_cons (ps_for PassesOwn.never rfl (pi_list (pv 11)) (pg_name (i := 14) sc_refuters.nd rfl (by first | exact Or.inl rfl | exact Or.inr rfl)) (pss_one (ps_expr (pe_bm PySem.F.plainAttrs_list PySem.F.slot_list_append PySem.F.type_list_append mt_append (pv 13) (pa_cons (pe_callB (cr_sum rfl) (by rfl) T.b_sum (by decide +kernel) (pa_cons (pe_lc (own := [("bit", 15), ("trial", 9), ("carry", 16)]) rfl sc_refuters.nd (pi_list (pv 12)) (blkOk_by (by rfl)) (fun _ _ _ _ _ => (pg_tup rfl (pgs_cons (pg_name (i := 15) sc_refuters.nd rfl (by first | exact Or.inl rfl | exact Or.inr rfl)) (pgs_cons (pg_name (i := 9) sc_refuters.nd rfl (by first | exact Or.inl rfl | exact Or.inr rfl)) (pgs_cons (pg_name (i := 16) sc_refuters.nd rfl (by first | exact Or.inl rfl | exact Or.inr rfl)) pgs_nil))))) (fun _ _ _ _ _ => pts_one (pt_val (pe_u (g_is_refuted T) (hr.mono (by decide)) (by rfl) (pa_cons (pv 9) (pa_cons (pv 14) (pa_cons (pv 16) pa_nil)))))) (fun _ _ _ _ _ => (pv 15))) pa_nil)) pa_nil))))) (pss_one (ps_expr (pe_bm PySem.F.plainAttrs_list PySem.F.slot_list_append PySem.F.type_list_append mt_append (pv 7) (pa_cons (pv 13) pa_nil)))))))) (pss_one (ps_ret (pv 7))))))))
theorem sm_refuters (T : Txt K mg) : SmS (WK K) (t_refuters K) b_refuters :=
  (sms_seq (sms_asg (sm_u (sma_cons sm_var (sma_cons sm_var (sma_cons sm_var sma_nil))) sma_nil) tgs_name) (sms_seq (sms_asgO (sml_lst sma_nil)) (sms_seq (sms_for (smi_enumT sm_var) (tgs_tup (tgss_cons tgs_name (tgss_cons tgs_name tgss_nil))) (sms_app (sm_tup (sma_cons (sm_op s_shl (Sm.b sm_int) (Sm.b sm_var)) (sma_cons sm_var (sma_cons (sm_u (sma_cons sm_var (sma_cons sm_var sma_nil)) sma_nil) (sma_cons (sm_u (sma_cons sm_var (sma_cons sm_var sma_nil)) sma_nil) sma_nil))))))) (sms_seq (sms_asgO (sml_lst sma_nil)) (sms_seq (sms_for (smi_enum (sm_u (sma_cons sm_var (sma_cons sm_var (sma_cons sm_var (sma_cons sm_var sma_nil)))) sma_nil)) (tgs_tup (tgss_cons tgs_name (tgss_cons tgs_name tgss_nil))) (sms_seq (sms_freeze 6 (sms_asg (sm_of_l (sml_lc (vs := [15, 9, 16, 17]) (smi_list sm_var) (tgs_tup (tgss_cons tgs_name (tgss_cons tgs_name (tgss_cons tgs_name (tgss_cons tgs_name tgss_nil))))) (by decide) (smt_T (sm_op s_ge (Sm.b sm_var) (Sm.b sm_var))) (sm_tup (sma_cons sm_var (sma_cons sm_var (sma_cons sm_var sma_nil)))))) tgs_name)) (sms_seq (sms_asgO (sml_lst sma_nil)) (sms_seq (sms_for (smi_list sm_var) tgs_name (sms_app (sm_cb cs_sum (smab_cons (Sm.b (sm_of_l (sml_lc (vs := [15, 9, 16]) (smi_list sm_var) (tgs_tup (tgss_cons tgs_name (tgss_cons tgs_name (tgss_cons tgs_name tgss_nil)))) (by decide) (smt_B (sm_u (sma_cons sm_var (sma_cons sm_var (sma_cons sm_var sma_nil))) sma_nil)) sm_var))) (SmA.b sma_nil))))) (sms_freeze 13 (sms_app sm_var)))))) (sms_freeze 7 (sms_ret sm_var)))))))
theorem g_refuters (T : Txt K mg) : GoodD P w K mg base (WK K) 4 "refuters" [] (mP 5 m_refuters) := by
  obtain ⟨f, fd, hm, F⟩ := T.f_refuters
  exact good_of hm F (ok_def F sc_refuters (bk_refuters T) (sm_refuters T)) (F.bindsN fun _ _ _ _ _ _ us hl => match us, hl with | [_, _, _, _, _], _ => rfl)
theorem sc_row_with : FnScope ["due", "place", "option", "position"] ["due", "place", "option"] (defScope s_row_with) := ⟨rfl, rfl, rfl, by decide +kernel, rfl, by decide +kernel, by decide +kernel⟩
def t_row_with (K : PySem.W.Frag) : TS := (tSeq (tIfS (tTest (tOp rEq (tVar 2) (tC (.str "end")))) (tRet (tOrT K (tSl (rSlA K) (tVar 0) tNoPart (tPart (tVar 1))) (tTup (tCons (tC (.str "K")) tNil)))) tNext) (tSeq (tIfS (tOr (tTest (tOp rEq (tVar 2) (tC (.str "G")))) (tTest (tOp rEq (tVar 2) (tC (.int 0))))) (tRet (tTup (StX.tStar K (tSl (rSlA K) (tVar 0) tNoPart (tPart (tVar 1))) (tCons (tVar 2) tNil)))) tNext) (tRet (tTup (StX.tStar K (tSl (rSlA K) (tVar 0) tNoPart (tPart (tVar 1))) (tCons (tVar 2) (StX.tStar K (tLc (iTup K (tSl (rSlA K) (tVar 0) (tPart (tVar 1)) tNoPart)) (gName 3) (tTest (tOp rNe (tVar 3) (tVar 2))) (tVar 3) [3]) tNil)))))))
def b_row_with : MS := (sSeq (sIf (tOf (eBin (gEq false) (eVar 2) (eC (.str "end")))) (sRet (eOrT (eSlT (eVar 0) oNone (oSome (eVar 1))) (eTup (aCons (eC (.str "K")) aNil)))) sNext) (sSeq (sIf (mOr (tOf (eBin (gEq false) (eVar 2) (eC (.str "G")))) (tOf (eBin (gEq false) (eVar 2) (eC (.int 0))))) (sRet (eTup (aStar (eSlT (eVar 0) oNone (oSome (eVar 1))) (aCons (eVar 2) aNil)))) sNext) (sRet (eTup (aStar (eSlT (eVar 0) oNone (oSome (eVar 1))) (aCons (eVar 2) (aStar (eNew (aComp [3] (iTp (eSlT (eVar 0) (oSome (eVar 1)) oNone)) (gN 3) (tOf (eBin (gEq true) (eVar 3) (eVar 2))) (eVar 3))) aNil)))))))
def m_row_with : List D → Option D := runB 4 b_row_with
theorem bk_row_with (T : Txt K mg) : BodyOk P w K mg base ["due", "place", "option", "position"] "row_with" (defScope s_row_with) (defBody s_row_with) 0 (t_row_with K) := fun f cdv A outer s H E hr =>
  (pss_cons (ps_if (pt_cmpR op_eq (pv 2) (pe_glb T.c_END (by rfl)) (nomark _)) (pss_one (ps_ret (pe_orT2 (pe_slice sl_tupA (pv 0) po_none (po_some (pv 1))) (pe_tup (pa_cons (pe_glb T.c_KILL (by rfl)) pa_nil))))) pss_nil) (pss_cons (ps_if (PW.pt (pw_or (pt_cmpR op_eq (pv 2) (pe_glb T.c_GENERATE (by rfl)) (nomark _)) (pw_or1 (pt_cmpR op_eq (pv 2) pe_int (nomark _))))) (pss_one (ps_ret (pe_tup (StX.pa_star (pe_slice sl_tupA (pv 0) po_none (po_some (pv 1))) (pa_cons (pv 2) pa_nil))))) pss_nil) (pss_one (ps_ret (pe_tup (StX.pa_star (pe_slice sl_tupA (pv 0) po_none (po_some (pv 1))) (pa_cons (pv 2) (StX.pa_star (pe_lc (own := [("position", 3)]) rfl sc_row_with.nd (pi_tup (pe_slice sl_tupA (pv 0) (po_some (pv 1)) po_none)) (blkOk_by (by rfl)) (fun _ _ _ _ _ => (pg_name (i := 3) sc_row_with.nd rfl (by first | exact Or.inl rfl | exact Or.inr rfl))) (fun _ _ _ _ _ => pts_one (pt_cmpR op_ne (pv 3) (pv 2) (nomark _))) (fun _ _ _ _ _ => (pv 3))) pa_nil))))))))
theorem sm_row_with (T : Txt K mg) : SmS (WK K) (t_row_with K) b_row_with :=
  (sms_seq (sms_if (smt_T (sm_op s_eq (Sm.b sm_var) (Sm.b sm_str))) (sms_ret (sm_orT (sm_slT sm_var smo_none (smo_some sm_var)) (sm_tup (sma_cons sm_str sma_nil)))) sms_next) (sms_seq (sms_if (smt_or (smt_T (sm_op s_eq (Sm.b sm_var) (Sm.b sm_str))) (smt_T (sm_op s_eq (Sm.b sm_var) (Sm.b sm_int)))) (sms_ret (sm_tup (sma_star (sm_slT sm_var smo_none (smo_some sm_var)) (sma_cons sm_var sma_nil)))) sms_next) (sms_ret (sm_tup (sma_star (sm_slT sm_var smo_none (smo_some sm_var)) (sma_cons sm_var (sma_star (sm_of_l (sml_lc (vs := [3]) (smi_tup (sm_slT sm_var (smo_some sm_var) smo_none)) tgs_name (by decide) (smt_T (sm_op s_ne (Sm.b sm_var) (Sm.b sm_var))) sm_var)) sma_nil)))))))
theorem g_row_with (T : Txt K mg) : GoodD P w K mg base (WK K) 1 "row_with" [] (mP 3 m_row_with) := by
  obtain ⟨f, fd, hm, F⟩ := T.f_row_with
  exact good_of hm F (ok_def F sc_row_with (bk_row_with T) (sm_row_with T)) (F.bindsN fun _ _ _ _ _ _ us hl => match us, hl with | [_, _, _], _ => rfl)
end
end CP
/-! part CpL0 -/
set_option Elab.async false
set_option linter.all false
set_option maxRecDepth 100000
set_option maxHeartbeats 4000000
namespace CP
open PySem PySem.Spec PyProof.Rows L2 CPH
/-- as at the end of a positional list -/
def mStar (n : Nat) (c : List D → D) (m : List D → Option D) : List D → List D → Option D := fun ds es => if n ≤ ds.length ∧ Nat.ble ds.length 1000 = true then m (ds.take n ++ (es ++ [c (ds.drop n)])) else none
section
variable {P : Program} {w : World} {K : PySem.W.Frag} {mg : Str → Option Value} {base : Heap} {x qual : Str} {params : Arguments} {body : List Stmt} {scope : Scope} {dvs : List V} {kws : List (Str × V)} {f : Addr} {fd : FuncData} {N ps ks : List Str} {pv : Str} {k : Nat} {W : Wd} {t : TS} {mb : MS}
theorem zip3 {us : List Value} {t : Value} {ws : List Value} (h : us.length = ps.length) (h2 : ws.length = ks.length) : (ps ++ (ks ++ [pv])).zip (us ++ (ws ++ [t])) = ps.zip us ++ (ks.zip ws ++ [(pv, t)]) := by
  rw [List.zip_append h.symm, List.zip_append h2.symm]
  rfl
theorem good_star {c : List D → D} (hc : c = .tup ∨ c = .tpf) (hm : mg x = some (.ref f)) (F : FunD K x qual params body scope [] kws f fd) (S : FnScope N (ps ++ (ks ++ [pv])) scope) (hb : BodyOk P w K mg base N qual scope body k t) (hs : SmS W t mb)
    (hbind : ∀ (kV doc pm : Value) (an : Option Addr) (cdv ct : Value) (us rest ws : List Value), us.length = ps.length → ws.length = ks.length →
      bindArgs (PySem.W.fnOf x qual params body scope .none kV doc pm an cdv ct) ⟨us ++ rest, ks.zip ws⟩ = (newTuple rest >>= fun t => pure (ps.zip us ++ (ks.zip ws ++ [(pv, t)])))) :
    GoodD P w K mg base W (k + 1) x ks (mStar ps.length c (runB N.length mb)) := by
  refine ⟨f, hm, F.kp, fun A outer s H us ws vs zs Q hr e0 r rz hl ⟨G, ds, es, d, e, r1, r2, q, kk⟩ => ?_⟩
  obtain ⟨oc, od, dV, kV, doc, pm, an, cdv, ct, osl, rfl, lk, hcd, hD, _⟩ := F.ex
  obtain rfl : dV = .none := by
    rcases hD with ⟨_, h⟩ | ⟨h, _⟩
    · exact h
    · exact absurd rfl h
  unfold mStar at q
  split at q
  · rename_i hn
    have l1 : vs.length = ds.length := r1.length
    obtain ⟨u1, u2, rfl, ru1, ru2⟩ := StX.vals_split (ws := vs.take ps.length) (rest := vs.drop ps.length) (us := us) (by rw [List.take_append_drop]; exact r)
    have lu1 : u1.length = ps.length := by rw [← ru1.length, List.length_take]; omega
    have lb := Nat.le_of_ble_eq_true hn.2
    have lu2 : u2.length ≤ sizeLine := by
      rw [← ru2.length, List.length_drop, l1]
      exact Nat.le_trans (show ds.length - ps.length ≤ 100000 by omega) (by decide)
    have hfr : H s.heap.objs.size = Option.none := e0.hok.fresh (Nat.le_refl _)
    refine StX.run_bnd lk hcd S hr e0 (G := fun xs H2 => ∃ p o, H p = none ∧ o.cls = .type "tuple" ∧ o.dict = none ∧ xs = vs.take ps.length ++ (zs ++ [V.ref p]) ∧ H2 = upd H p (.frz o (.tup (vs.drop ps.length)))) (fun A' Ex' Q' h => ?_) fun s2 H2 xs ⟨p, o, hp, ho1, ho2, ex, eH⟩ hr' => ⟨t, PSs.nox (hb f cdv A outer s2 H2 _ hr'), ?_⟩
    · rw [hbind kV doc pm an cdv ct u1 u2 ws lu1 hl]
      refine wpAny_bind (wpAny_newTuple (wpAny_pure ?_) lu2)
      have g := Heap.get?_push_size s.heap (o := ({ cls := .type "tuple", data := .seq u2.toArray } : Obj)) rfl
      have new : ObjOk P w (upd H s.heap.objs.size (.frz ({ cls := .type "tuple", data := .seq u2.toArray } : Obj) (.tup (vs.drop ps.length)))) (s.heap.push ({ cls := .type "tuple", data := .seq u2.toArray } : Obj)) s.heap.objs.size (.frz ({ cls := .type "tuple", data := .seq u2.toArray } : Obj) (.tup (vs.drop ps.length))) :=
        ⟨g, by rw [ru2.length]; exact lu2, u2, ru2, ⟨_, g, rfl, _, rfl⟩⟩
      have un := StX.un_laid (fs := frs outer) (s := s) (o := ({ cls := .type "tuple", data := .seq u2.toArray } : Obj)) (u := .frz ({ cls := .type "tuple", data := .seq u2.toArray } : Obj) (.tup (vs.drop ps.length))) hfr
      have z := h _ _ (vs.take ps.length ++ (zs ++ [V.ref s.heap.objs.size])) (u1 ++ (ws ++ [Value.ref s.heap.objs.size])) (StX.env0_laid e0 new) un rfl (fun e s' z => z.elim) (ru1.append (rz.append (.cons rfl .nil)))
        (by rw [List.length_append, List.length_append, List.length_append, List.length_append, ru1.length, lu1, rz.length, hl] <;> rfl) ⟨_, _, hfr, rfl, rfl, rfl, rfl⟩
      rw [zip3 lu1 hl] at z
      exact z
    · subst ex eH
      have xe := Ext.new (o := .frz o (.tup (vs.drop ps.length))) e hp
      have rp : Rep W (upd G p (.frz o (.tup (vs.drop ps.length)))) (.ref p) (c (ds.drop ps.length)) := by
        rcases hc with rfl | rfl
        · exact .tup (.inl (.inr ⟨o, upd_same⟩)) ((r1.drop _).mono xe.f)
        · exact .tpf upd_same ho1 ho2 ((r1.drop _).mono xe.f)
      exact body_run hs xe.s (((r1.take _).mono xe.f).append ((r2.mono xe.f).append (.cons rp .nil))) q fun v F2 H3 e3 r3 => kk v F2 H3 (xe.trans e3) r3
  · cases q
/-- def f(p1, .., *, k1 = .., ..), the keywords all given -/
def mKw (n : Nat) (m : List D → Option D) : List D → List D → Option D := fun ds es => if ds.length = n then m (ds ++ es) else none
theorem good_kw (hm : mg x = some (.ref f)) (F : FunD K x qual params body scope [] kws f fd) (ok : FnOk P w K mg base CX0 k f fd (ps ++ ks) (spO W (ps ++ ks).length (runB N.length mb)))
    (hbind : ∀ (kV doc pm : Value) (an : Option Addr) (cdv ct : Value) (us ws : List Value), us.length = ps.length → ws.length = ks.length →
      bindArgs (PySem.W.fnOf x qual params body scope .none kV doc pm an cdv ct) ⟨us, ks.zip ws⟩ = pure (ps.zip us ++ ks.zip ws)) : GoodD P w K mg base W k x ks (mKw ps.length (runB N.length mb)) := by
  refine ⟨f, hm, F.kp, fun A outer s H us ws vs zs Q hr e0 r rz hl ⟨G, ds, es, d, e, r1, r2, q, kk⟩ => ?_⟩
  obtain ⟨oc, od, dV, kV, doc, pm, an, cdv, ct, osl, rfl, lk, hcd, hD, _⟩ := F.ex
  obtain rfl : dV = .none := by
    rcases hD with ⟨_, h⟩ | ⟨h, _⟩
    · exact h
    · exact absurd rfl h
  unfold mKw at q
  split at q
  · rename_i hn
    have lu : us.length = ps.length := by rw [← r.length, r1.length]; exact hn
    have b : BindsTo s (PySem.W.fnOf x qual params body scope .none kV doc pm an cdv ct) ⟨us, ks.zip ws⟩ ((ps ++ ks).zip (us ++ ws)) := by
      rw [List.zip_append lu.symm]
      exact .of_eq (hbind kV doc pm an cdv ct us ws lu hl)
    refine ok.run A outer s H ⟨us, ks.zip ws⟩ (us ++ ws) (vs ++ zs) Q _ hr e0 b (r.append rz) ⟨G, ds ++ es, d, e, r1.append r2, ?_, q, kk⟩
    have : es.length = ks.length := by rw [← r2.length, rz.length]; exact hl
    rw [List.length_append, List.length_append, this, hn]
  · cases q
end
/-! ### while -/
def mWhile (c : MT) (b : MS) : Nat → Env → Option Res
  | 0, _ => none
  | n + 1, ρ => (c ρ).bind fun x => if x = true then (b ρ).bind fun r => (match r with
    | .nx ρ' => mWhile c b n ρ'
    | .ct ρ' => mWhile c b n ρ'
    | .bk ρ' => some (.nx ρ')
    | .rt d => some (.rt d)) else some (.nx ρ)
def sWhile (n : Nat) (c : MT) (b : MS) : MS := fun ρ => mWhile c b n ρ
theorem sms_while {W : Wd} {n : Nat} {tc : TT} {tb : TS} {c : MT} {b : MS} (hc : SmT W tc c) (hb : SmS W tb b) : SmS W (tWhile tc tb) (sWhile n c b) := fun F0 H0 F H σ ρ r e g q Dd k => by
  refine ⟨fun m σ H => ∃ F ρ, Ext F0 H0 F H ∧ EnvR W H0 F H σ ρ ∧ mWhile c b m ρ = some r, ⟨n, F, ρ, e, g, q⟩, ?_⟩
  rintro m σ H ⟨F, ρ, e, g, q⟩
  cases m with
  | zero => cases q
  | succ m =>
    obtain ⟨x, h1, h2⟩ := Option.bind_eq_some_iff.mp q
    refine hc H0 F H σ ρ x e.s g h1 _ fun F1 H1 e1 => ?_
    cases x with
    | false =>
      cases h2
      exact k σ F1 H1 (e.trans e1) (g.ext e1)
    | true =>
      obtain ⟨r1, h3, h4⟩ := Option.bind_eq_some_iff.mp h2
      refine ⟨fun σ' H' => ∃ F ρ, Ext F0 H0 F H' ∧ EnvR W H0 F H' σ' ρ ∧ mWhile c b m ρ = some r, fun σ' H' z => ⟨m, Nat.lt_succ_self m, z⟩, ?_⟩
      refine hb F0 H0 F1 H1 σ ρ r1 (e.trans e1) (g.ext e1) h3 _ ?_
      cases r1 with
      | nx ρ' => exact fun σ' F' H' e' g' => ⟨F', ρ', e', g', h4⟩
      | ct ρ' => exact fun σ' F' H' e' g' => ⟨F', ρ', e', g', h4⟩
      | bk ρ' =>
        cases h4
        exact k
      | rt d =>
        cases h4
        exact k
end CP
/-! part CpL -/
set_option Elab.async false
set_option linter.all false
set_option maxRecDepth 100000
set_option maxHeartbeats 4000000
namespace CP
open PySem PySem.Spec PyProof.Rows L2 CPH
section
variable {P : Program} {w : World} {K : PySem.W.Frag} {mg : Str → Option Value} {base : Heap}
theorem sc_trial_with : FnScope ["n", "zero", "placed", "given", "position"] ["n", "zero", "placed"] (defScope s_trial_with) := ⟨rfl, rfl, rfl, by decide +kernel, rfl, by decide +kernel, by decide +kernel⟩
def t_trial_with (K : PySem.W.Frag) : TS := (tSeq (tAsg (tCB (CPX.rDictT K) (tCons (tVar 2) tNil)) (gName 3)) (tRet (tOp (fun x y H Q => ∃ i j, x = .str i ∧ y = .str j ∧ i.length + j.length ≤ sizeLine ∧ Q (.str (i ++ j)) H) (tBM K "str" (fun x xs H Q => ∃ a p, ∃ ys : List Str, x = .str a ∧ xs = [.ref p] ∧ (SqL K H p (ys.map V.str) ∨ SqT K H p (ys.map V.str)) ∧ (ys.map (·.length)).sum + ys.length * a.length ≤ 16777216 ∧ Q (.str (Txt.join a ys)) H) (tC (.str "")) (tCons (tLc (iRng3 (tCons (tVar 0) (tCons (tC (.int 0)) (tCons (tUn (rU fun i => .int (-i)) (tC (.int 1))) tNil)))) (gName 4) tYes (tDGet2 (tVar 3) (tVar 4) (tC (.str "P"))) [4]) tNil)) (tVar 1))))
def b_trial_with : MS := (sSeq (sAsg (eCall cDict (aCons (eVar 2) aNil)) (gN 3)) (sRet (eBin gAddS (eMeth "str" cJoin (eC (.str "")) (aCons (eNew (aComp [4] (iR3 (aCons (eVar 0) (aCons (eC (.int 0)) (aCons (eNeg (eC (.int 1))) aNil)))) (gN 4) (fun _ => some true) (eDGet2 (eVar 3) (eVar 4) (eC (.str "P"))))) aNil)) (eVar 1))))
def m_trial_with : List D → Option D := runB 5 b_trial_with
theorem bk_trial_with (T : Txt K mg) : BodyOk P w K mg base ["n", "zero", "placed", "given", "position"] "trial_with" (defScope s_trial_with) (defBody s_trial_with) 0 (t_trial_with K) := fun f cdv A outer s H E hr =>
  (pss_cons (ps_set (i := 3) sc_trial_with.nd rfl (by first | exact Or.inl rfl | exact Or.inr rfl) (pe_callTy (CPX.call_dictT rfl) (by rfl) T.b_dict (by decide +kernel) (pa_cons (pv 2) pa_nil))) (pss_one (ps_ret (pe_op op_add_str (pe_bm PySem.F.plainAttrs_str PySem.F.slot_str_join PySem.F.type_str_join mt_join pe_str (pa_cons (pe_lc (own := [("position", 4)]) rfl sc_trial_with.nd (pi_range3 (by rfl) T.b_range (pa_cons (pv 0) (pa_cons pe_int (pa_cons (pe_un un_neg pe_int) pa_nil)))) (blkOk_by (by rfl)) (fun _ _ _ _ _ => (pg_name (i := 4) sc_trial_with.nd rfl (by first | exact Or.inl rfl | exact Or.inr rfl))) (fun _ _ _ _ _ => pts_nil) (fun _ _ _ _ _ => (pe_dget2 (hu_of hr) (pv 3) (pv 4) (pe_glb T.c_PASS (by rfl)) ⟨rfl, rfl, rfl, rfl⟩))) pa_nil)) (pv 1)))))
theorem sm_trial_with (T : Txt K mg) : SmS (WK K) (t_trial_with K) b_trial_with :=
  (sms_seq (sms_asg (sm_cb cs_dict (smab_cons (Sm.b sm_var) (SmA.b sma_nil))) tgs_name) (sms_ret (sm_op s_addS (Sm.b (sm_bm mts_join (Sm.b sm_str) (smab_cons (Sm.b (sm_of_l (sml_lc (vs := [4]) (smi_r3 (sma_cons sm_var (sma_cons sm_int (sma_cons (sm_neg sm_int) sma_nil)))) tgs_name (by decide) smt_yes (sm_dget2 sm_var sm_var sm_str)))) (SmA.b sma_nil)))) (Sm.b sm_var))))
theorem g_trial_with (T : Txt K mg) : GoodD P w K mg base (WK K) 1 "trial_with" ["zero"] (mStar 1 .tpf m_trial_with) := by
  obtain ⟨f, fd, hm, F⟩ := T.f_trial_with
  exact good_star (ps := ["n"]) (pv := "placed") (ks := ["zero"]) (.inr rfl) hm F sc_trial_with (bk_trial_with T) (sm_trial_with T) (fun kV doc pm an cdv ct us rest ws hl hw => match us, hl, ws, hw with | [_], _, [_], _ => by cases rest <;> rfl)
theorem sc_parting_trial : FnScope ["n", "due", "place", "option", "ring", "zero", "first"] ["n", "due", "place", "option", "ring"] (defScope s_parting_trial) := ⟨rfl, rfl, rfl, by decide +kernel, rfl, by decide +kernel, by decide +kernel⟩
def t_parting_trial (K : PySem.W.Frag) : TS := (tSeq (tAsg (tU (spD (WK K) 0 (mP 1 m_zero_state)) (tCons (tVar 4) tNil) tNil) (gName 5)) (tSeq (tIfS (tTest (tOp rEq (tVar 3) (tC (.str "G")))) (tRet (tUK 1 (spD (WK K) 1 (mStar 1 .tpf m_trial_with)) (tCons (tVar 0) tNil) (tCons (tVar 5) tNil))) tNext) (tSeq (tAsg (tOp (rIx K) (tVar 1) (tVar 2)) (gName 6)) (tSeq (tIfS (tAnd (tTest (tOp rEq (tVar 3) (tC (.str "end")))) (tTest (tOp rEq (tVar 6) (tC (.int 0))))) (tRet (tUK 1 (spD (WK K) 1 (mStar 1 .tpf m_trial_with)) (tCons (tVar 0) tNil) (tCons (tC (.str "G")) tNil))) tNext) (tSeq (tIfS (tOr (tTest (tOp rEq (tVar 3) (tC (.str "end")))) (tTest (tOp rEq (tVar 3) (tC (.int 0))))) (tRet (tUK 1 (spD (WK K) 1 (mStar 1 .tpf m_trial_with)) (tCons (tVar 0) (tCons (tTup (tCons (tVar 6) (tCons (tC (.str "G")) tNil))) tNil)) (tCons (tVar 5) tNil))) tNext) (tSeq (tIfS (tTest (tOp rEq (tVar 6) (tC (.int 0)))) (tRet (tUK 1 (spD (WK K) 1 (mStar 1 .tpf m_trial_with)) (tCons (tVar 0) (tCons (tTup (tCons (tVar 3) (tCons (tC (.str "G")) tNil))) tNil)) (tCons (tVar 5) tNil))) tNext) (tRet (tUK 1 (spD (WK K) 1 (mStar 1 .tpf m_trial_with)) (tCons (tVar 0) (tCons (tTup (tCons (tVar 3) (tCons (tC (.str "G")) tNil))) (tCons (tTup (tCons (tVar 6) (tCons (tC (.str "K")) tNil))) tNil))) (tCons (tVar 5) tNil)))))))))
def b_parting_trial : MS := (sSeq (sAsg (eU (mP 1 m_zero_state) (aCons (eVar 4) aNil) aNil) (gN 5)) (sSeq (sIf (tOf (eBin (gEq false) (eVar 3) (eC (.str "G")))) (sRet (eUK 1 (mStar 1 .tpf m_trial_with) (aCons (eVar 0) aNil) (aCons (eVar 5) aNil))) sNext) (sSeq (sAsg (eBin gIx (eVar 1) (eVar 2)) (gN 6)) (sSeq (sIf (mAnd (tOf (eBin (gEq false) (eVar 3) (eC (.str "end")))) (tOf (eBin (gEq false) (eVar 6) (eC (.int 0))))) (sRet (eUK 1 (mStar 1 .tpf m_trial_with) (aCons (eVar 0) aNil) (aCons (eC (.str "G")) aNil))) sNext) (sSeq (sIf (mOr (tOf (eBin (gEq false) (eVar 3) (eC (.str "end")))) (tOf (eBin (gEq false) (eVar 3) (eC (.int 0))))) (sRet (eUK 1 (mStar 1 .tpf m_trial_with) (aCons (eVar 0) (aCons (eTup (aCons (eVar 6) (aCons (eC (.str "G")) aNil))) aNil)) (aCons (eVar 5) aNil))) sNext) (sSeq (sIf (tOf (eBin (gEq false) (eVar 6) (eC (.int 0)))) (sRet (eUK 1 (mStar 1 .tpf m_trial_with) (aCons (eVar 0) (aCons (eTup (aCons (eVar 3) (aCons (eC (.str "G")) aNil))) aNil)) (aCons (eVar 5) aNil))) sNext) (sRet (eUK 1 (mStar 1 .tpf m_trial_with) (aCons (eVar 0) (aCons (eTup (aCons (eVar 3) (aCons (eC (.str "G")) aNil))) (aCons (eTup (aCons (eVar 6) (aCons (eC (.str "K")) aNil))) aNil))) (aCons (eVar 5) aNil)))))))))
def m_parting_trial : List D → Option D := runB 7 b_parting_trial
theorem bk_parting_trial (T : Txt K mg) : BodyOk P w K mg base ["n", "due", "place", "option", "ring", "zero", "first"] "parting_trial" (defScope s_parting_trial) (defBody s_parting_trial) 1 (t_parting_trial K) := fun f cdv A outer s H E hr =>
  (pss_cons (ps_set (i := 5) sc_parting_trial.nd rfl (by first | exact Or.inl rfl | exact Or.inr rfl) (pe_u (g_zero_state T) (hr.mono (by decide)) (by rfl) (pa_cons (pv 4) pa_nil))) (pss_cons (ps_if (pt_cmpR op_eq (pv 3) (pe_glb T.c_GENERATE (by rfl)) (nomark _)) (pss_one (ps_ret (pe_uK (g_trial_with T) (hr.mono (by decide)) (by rfl) (pa_cons (pv 0) pa_nil) (pk_cons (pv 5) pk_nil)))) pss_nil) (pss_cons (ps_set (i := 6) sc_parting_trial.nd rfl (by first | exact Or.inl rfl | exact Or.inr rfl) (pe_ix ix_seq (pv 1) (pv 2) (fun _ _ => rfl))) (pss_cons (ps_if (PW.pt (pw_and (pt_cmpR op_eq (pv 3) (pe_glb T.c_END (by rfl)) (nomark _)) (pw_and1 (pt_cmpR op_eq (pv 6) pe_int (nomark _))))) (pss_one (ps_ret (pe_uK (g_trial_with T) (hr.mono (by decide)) (by rfl) (pa_cons (pv 0) pa_nil) (pk_cons (pe_glb T.c_GENERATE (by rfl)) pk_nil)))) pss_nil) (pss_cons (ps_if (PW.pt (pw_or (pt_cmpR op_eq (pv 3) (pe_glb T.c_END (by rfl)) (nomark _)) (pw_or1 (pt_cmpR op_eq (pv 3) pe_int (nomark _))))) (pss_one (ps_ret (pe_uK (g_trial_with T) (hr.mono (by decide)) (by rfl) (pa_cons (pv 0) (pa_cons (pe_tup (pa_cons (pv 6) (pa_cons (pe_glb T.c_GENERATE (by rfl)) pa_nil))) pa_nil)) (pk_cons (pv 5) pk_nil)))) pss_nil) (pss_cons (ps_if (pt_cmpR op_eq (pv 6) pe_int (nomark _)) (pss_one (ps_ret (pe_uK (g_trial_with T) (hr.mono (by decide)) (by rfl) (pa_cons (pv 0) (pa_cons (pe_tup (pa_cons (pv 3) (pa_cons (pe_glb T.c_GENERATE (by rfl)) pa_nil))) pa_nil)) (pk_cons (pv 5) pk_nil)))) pss_nil) (pss_one (ps_ret (pe_uK (g_trial_with T) (hr.mono (by decide)) (by rfl) (pa_cons (pv 0) (pa_cons (pe_tup (pa_cons (pv 3) (pa_cons (pe_glb T.c_GENERATE (by rfl)) pa_nil))) (pa_cons (pe_tup (pa_cons (pv 6) (pa_cons (pe_glb T.c_KILL (by rfl)) pa_nil))) pa_nil))) (pk_cons (pv 5) pk_nil))))))))))
theorem sm_parting_trial (T : Txt K mg) : SmS (WK K) (t_parting_trial K) b_parting_trial :=
  (sms_seq (sms_asg (sm_u (sma_cons sm_var sma_nil) sma_nil) tgs_name) (sms_seq (sms_if (smt_T (sm_op s_eq (Sm.b sm_var) (Sm.b sm_str))) (sms_ret (sm_uK (sma_cons sm_var sma_nil) (sma_cons sm_var sma_nil))) sms_next) (sms_seq (sms_asg (sm_op s_ix (Sm.b sm_var) (Sm.b sm_var)) tgs_name) (sms_seq (sms_if (smt_and (smt_T (sm_op s_eq (Sm.b sm_var) (Sm.b sm_str))) (smt_T (sm_op s_eq (Sm.b sm_var) (Sm.b sm_int)))) (sms_ret (sm_uK (sma_cons sm_var sma_nil) (sma_cons sm_str sma_nil))) sms_next) (sms_seq (sms_if (smt_or (smt_T (sm_op s_eq (Sm.b sm_var) (Sm.b sm_str))) (smt_T (sm_op s_eq (Sm.b sm_var) (Sm.b sm_int)))) (sms_ret (sm_uK (sma_cons sm_var (sma_cons (sm_tup (sma_cons sm_var (sma_cons sm_str sma_nil))) sma_nil)) (sma_cons sm_var sma_nil))) sms_next) (sms_seq (sms_if (smt_T (sm_op s_eq (Sm.b sm_var) (Sm.b sm_int))) (sms_ret (sm_uK (sma_cons sm_var (sma_cons (sm_tup (sma_cons sm_var (sma_cons sm_str sma_nil))) sma_nil)) (sma_cons sm_var sma_nil))) sms_next) (sms_ret (sm_uK (sma_cons sm_var (sma_cons (sm_tup (sma_cons sm_var (sma_cons sm_str sma_nil))) (sma_cons (sm_tup (sma_cons sm_var (sma_cons sm_str sma_nil))) sma_nil))) (sma_cons sm_var sma_nil)))))))))
theorem g_parting_trial (T : Txt K mg) : GoodD P w K mg base (WK K) 2 "parting_trial" [] (mP 5 m_parting_trial) := by
  obtain ⟨f, fd, hm, F⟩ := T.f_parting_trial
  exact good_of hm F (ok_def F sc_parting_trial (bk_parting_trial T) (sm_parting_trial T)) (F.bindsN fun _ _ _ _ _ _ us hl => match us, hl with | [_, _, _, _, _], _ => rfl)
theorem sc_least_bit : FnScope ["bits", "index"] ["bits"] (defScope s_least_bit) := ⟨rfl, rfl, rfl, by decide +kernel, rfl, by decide +kernel, by decide +kernel⟩
def t_least_bit (K : PySem.W.Frag) : TS := (tSeq (tAsg (tC (.int 0)) (gName 1)) (tSeq (tWhile (tTest (tOp rEq (tOp (rI0 fun i j => .int (Builtin.bitAnd i j)) (tOp (rI (fun _ j => 0 ≤ j) fun i j => .int (i / 2 ^ j.toNat)) (tVar 0) (tVar 1)) (tC (.int 1))) (tC (.int 0)))) (tAug 1 (tC (.int 1)) (ipI fun i j => i + j))) (tRet (tVar 1))))
def b_least_bit : MS := (sSeq (sAsg (eC (.int 0)) (gN 1)) (sSeq (sWhile 40 (tOf (eBin (gEq false) (eBin gAnd (eBin gShr (eVar 0) (eVar 1)) (eC (.int 1))) (eC (.int 0)))) (sAugI 1 (fun i j => i + j) (eC (.int 1)))) (sRet (eVar 1))))
def m_least_bit : List D → Option D := runB 2 b_least_bit
theorem bk_least_bit (T : Txt K mg) : BodyOk P w K mg base ["bits", "index"] "least_bit" (defScope s_least_bit) (defBody s_least_bit) 0 (t_least_bit K) := fun f cdv A outer s H E hr =>
  (pss_cons (ps_set (i := 1) sc_least_bit.nd rfl (by first | exact Or.inl rfl | exact Or.inr rfl) pe_int) (pss_cons (ps_while PassesOwn.never (pt_cmpR op_eq (pe_op op_and (pe_op op_shr (pv 0) (pv 1)) pe_int) pe_int (nomark _)) (pss_one (ps_aug (i := 1) sc_least_bit.nd rfl (by first | exact Or.inl rfl | exact Or.inr rfl) pe_int ip_add))) (pss_one (ps_ret (pv 1)))))
theorem sm_least_bit (T : Txt K mg) : SmS (WK K) (t_least_bit K) b_least_bit :=
  (sms_seq (sms_asg sm_int tgs_name) (sms_seq (sms_while (smt_T (sm_op s_eq (Sm.b (sm_op s_and (Sm.b (sm_op s_shr (Sm.b sm_var) (Sm.b sm_var))) (Sm.b sm_int))) (Sm.b sm_int))) (sms_aug sm_int)) (sms_ret sm_var)))
theorem g_least_bit (T : Txt K mg) : GoodD P w K mg base (WK K) 1 "least_bit" [] (mP 1 m_least_bit) := by
  obtain ⟨f, fd, hm, F⟩ := T.f_least_bit
  exact good_of hm F (ok_def F sc_least_bit (bk_least_bit T) (sm_least_bit T)) (F.bindsN fun _ _ _ _ _ _ us hl => match us, hl with | [_], _ => rfl)
theorem sc_open_option : FnScope ["n", "output", "table", "ring", "stuck", "place", "options", "option", "bits"] ["n", "output", "table", "ring", "stuck"] (defScope s_open_option) := ⟨rfl, rfl, rfl, by decide +kernel, rfl, by decide +kernel, by decide +kernel⟩
def t_open_option (K : PySem.W.Frag) : TS := (tSeq (tFor (iEnum K (tCons (tU (spD (WK K) 0 (mP 4 m_options_of)) (tCons (tVar 0) (tCons (tVar 1) (tCons (tVar 3) (tCons (tVar 4) tNil)))) tNil) tNil)) (gTup K 2 (gCons (gName 5) (gCons (gName 6) gNil))) (tFor (iZip K (tCons (tVar 6) (tCons (tOp (rIx K) (tVar 2) (tVar 5)) tNil))) (gTup K 2 (gCons (gName 7) (gCons (gName 8) gNil))) (tIfS (tTest (tOp rEq (tVar 8) (tC (.int 0)))) (tRet (tTup (tCons (tVar 5) (tCons (tVar 7) tNil)))) tNext))) (tRet (tC .non)))
def b_open_option : MS := (sSeq (sFor (iEn (eU (mP 4 m_options_of) (aCons (eVar 0) (aCons (eVar 1) (aCons (eVar 3) (aCons (eVar 4) aNil)))) aNil)) (gTp (gCons0 (gN 5) (gCons0 (gN 6) gNil0)) 2) (sFor (iZp lstOf lstOf (eVar 6) (eBin gIx (eVar 2) (eVar 5))) (gTp (gCons0 (gN 7) (gCons0 (gN 8) gNil0)) 2) (sIf (tOf (eBin (gEq false) (eVar 8) (eC (.int 0)))) (sRet (eTup (aCons (eVar 5) (aCons (eVar 7) aNil)))) sNext))) (sRet (eC .non)))
def m_open_option : List D → Option D := runB 9 b_open_option
theorem bk_open_option (T : Txt K mg) : BodyOk P w K mg base ["n", "output", "table", "ring", "stuck", "place", "options", "option", "bits"] "open_option" (defScope s_open_option) (defBody s_open_option) 2 (t_open_option K) := fun f cdv A outer s H E hr =>
  (pss_cons (ps_for PassesOwn.never rfl (pi_enum (by rfl) T.b_enumerate (pa_cons (pe_u (g_options_of T) (hr.mono (by decide)) (by rfl) (pa_cons (pv 0) (pa_cons (pv 1) (pa_cons (pv 3) (pa_cons (pv 4) pa_nil))))) pa_nil)) (pg_tup rfl (pgs_cons (pg_name (i := 5) sc_open_option.nd rfl (by first | exact Or.inl rfl | exact Or.inr rfl)) (pgs_cons (pg_name (i := 6) sc_open_option.nd rfl (by first | exact Or.inl rfl | exact Or.inr rfl)) pgs_nil))) (pss_one (ps_for PassesOwn.never rfl (pi_zip (by rfl) T.b_zip (pa_cons (pv 6) (pa_cons (pe_ix ix_seq (pv 2) (pv 5) (fun _ _ => rfl)) pa_nil))) (pg_tup rfl (pgs_cons (pg_name (i := 7) sc_open_option.nd rfl (by first | exact Or.inl rfl | exact Or.inr rfl)) (pgs_cons (pg_name (i := 8) sc_open_option.nd rfl (by first | exact Or.inl rfl | exact Or.inr rfl)) pgs_nil))) (pss_one (ps_if (pt_cmpR op_eq (pv 8) pe_int (nomark _)) (pss_one (ps_ret (pe_tup (pa_cons (pv 5) (pa_cons (pv 7) pa_nil))))) pss_nil))))) (pss_one (ps_ret pe_non)))
theorem sm_open_option (T : Txt K mg) : SmS (WK K) (t_open_option K) b_open_option :=
  (sms_seq (sms_for (smi_enum (sm_u (sma_cons sm_var (sma_cons sm_var (sma_cons sm_var (sma_cons sm_var sma_nil)))) sma_nil)) (tgs_tup (tgss_cons tgs_name (tgss_cons tgs_name tgss_nil))) (sms_for (smi_zipL sm_var (sm_op s_ix (Sm.b sm_var) (Sm.b sm_var))) (tgs_tup (tgss_cons tgs_name (tgss_cons tgs_name tgss_nil))) (sms_if (smt_T (sm_op s_eq (Sm.b sm_var) (Sm.b sm_int))) (sms_ret (sm_tup (sma_cons sm_var (sma_cons sm_var sma_nil)))) sms_next))) (sms_ret sm_non))
theorem g_open_option (T : Txt K mg) : GoodD P w K mg base (WK K) 3 "open_option" [] (mP 5 m_open_option) := by
  obtain ⟨f, fd, hm, F⟩ := T.f_open_option
  exact good_of hm F (ok_def F sc_open_option (bk_open_option T) (sm_open_option T)) (F.bindsN fun _ _ _ _ _ _ us hl => match us, hl with | [_, _, _, _, _], _ => rfl)
theorem sc_shortage : FnScope ["n", "output", "found", "ring", "due", "place", "option"] ["n", "output", "found", "ring"] (defScope s_shortage) := ⟨rfl, rfl, rfl, by decide +kernel, rfl, by decide +kernel, by decide +kernel⟩
def t_shortage (K : PySem.W.Frag) : TS := (tSeq (tAsg (tVar 2) (gTup K 2 (gCons (gName 5) (gCons (gName 6) gNil)))) (tSeq (tAsg (tU (spD (WK K) 0 (mP 3 m_due_positions)) (tCons (tVar 0) (tCons (tVar 1) (tCons (tVar 3) tNil))) tNil) (gName 4)) (tRet (tTup (tCons (tC (.str "short")) (tCons (tVar 1) (tCons (tU (spD (WK K) 0 (mP 3 m_row_with)) (tCons (tVar 4) (tCons (tVar 5) (tCons (tVar 6) tNil))) tNil) (tCons (tU (spD (WK K) 0 (mP 5 m_parting_trial)) (tCons (tVar 0) (tCons (tVar 4) (tCons (tVar 5) (tCons (tVar 6) (tCons (tVar 3) tNil))))) tNil) tNil))))))))
def b_shortage : MS := (sSeq (sAsg (eVar 2) (gTp (gCons0 (gN 5) (gCons0 (gN 6) gNil0)) 2)) (sSeq (sAsg (eU (mP 3 m_due_positions) (aCons (eVar 0) (aCons (eVar 1) (aCons (eVar 3) aNil))) aNil) (gN 4)) (sRet (eTup (aCons (eC (.str "short")) (aCons (eVar 1) (aCons (eU (mP 3 m_row_with) (aCons (eVar 4) (aCons (eVar 5) (aCons (eVar 6) aNil))) aNil) (aCons (eU (mP 5 m_parting_trial) (aCons (eVar 0) (aCons (eVar 4) (aCons (eVar 5) (aCons (eVar 6) (aCons (eVar 3) aNil))))) aNil) aNil))))))))
def m_shortage : List D → Option D := runB 7 b_shortage
theorem bk_shortage (T : Txt K mg) : BodyOk P w K mg base ["n", "output", "found", "ring", "due", "place", "option"] "shortage" (defScope s_shortage) (defBody s_shortage) 2 (t_shortage K) := fun f cdv A outer s H E hr =>
  (pss_cons (ps_asg (pv 2) (pg_tup rfl (pgs_cons (pg_name (i := 5) sc_shortage.nd rfl (by first | exact Or.inl rfl | exact Or.inr rfl)) (pgs_cons (pg_name (i := 6) sc_shortage.nd rfl (by first | exact Or.inl rfl | exact Or.inr rfl)) pgs_nil)))) (pss_cons (ps_set (i := 4) sc_shortage.nd rfl (by first | exact Or.inl rfl | exact Or.inr rfl) (pe_u (g_due_positions T) (hr.mono (by decide)) (by rfl) (pa_cons (pv 0) (pa_cons (pv 1) (pa_cons (pv 3) pa_nil))))) (pss_one (ps_ret (pe_tup (pa_cons (pe_glb T.c_SHORT (by rfl)) (pa_cons (pv 1) (pa_cons (pe_u (g_row_with T) (hr.mono (by decide)) (by rfl) (pa_cons (pv 4) (pa_cons (pv 5) (pa_cons (pv 6) pa_nil)))) (pa_cons (pe_u (g_parting_trial T) (hr.mono (by decide)) (by rfl) (pa_cons (pv 0) (pa_cons (pv 4) (pa_cons (pv 5) (pa_cons (pv 6) (pa_cons (pv 3) pa_nil)))))) pa_nil)))))))))
theorem sm_shortage (T : Txt K mg) : SmS (WK K) (t_shortage K) b_shortage :=
  (sms_seq (sms_asg sm_var (tgs_tup (tgss_cons tgs_name (tgss_cons tgs_name tgss_nil)))) (sms_seq (sms_asg (sm_u (sma_cons sm_var (sma_cons sm_var (sma_cons sm_var sma_nil))) sma_nil) tgs_name) (sms_ret (sm_tup (sma_cons sm_str (sma_cons sm_var (sma_cons (sm_u (sma_cons sm_var (sma_cons sm_var (sma_cons sm_var sma_nil))) sma_nil) (sma_cons (sm_u (sma_cons sm_var (sma_cons sm_var (sma_cons sm_var (sma_cons sm_var (sma_cons sm_var sma_nil))))) sma_nil) sma_nil))))))))
theorem g_shortage (T : Txt K mg) : GoodD P w K mg base (WK K) 3 "shortage" [] (mP 4 m_shortage) := by
  obtain ⟨f, fd, hm, F⟩ := T.f_shortage
  exact good_of hm F (ok_def F sc_shortage (bk_shortage T) (sm_shortage T)) (F.bindsN fun _ _ _ _ _ _ us hl => match us, hl with | [_, _, _, _], _ => rfl)
end
end CP
/-! part CpM -/
set_option Elab.async false
set_option linter.all false
set_option maxRecDepth 100000
set_option maxHeartbeats 4000000
namespace CP
open PySem PySem.Spec PyProof.Rows L2 CPH
section
variable {P : Program} {w : World} {K : PySem.W.Frag} {mg : Str → Option Value} {base : Heap}
theorem sc_judge : FnScope ["n", "outputs", "ring", "stuck", "trials", "tables", "output", "table", "found", "row", "bits"] ["n", "outputs", "ring", "stuck", "trials"] (defScope s_judge) := ⟨rfl, rfl, rfl, by decide +kernel, rfl, by decide +kernel, by decide +kernel⟩
def t_judge (K : PySem.W.Frag) : TS := (tSeq (tAsg (tLst tNil) (gName 5)) (tSeq (tFor (iTup K (tU (spD (WK K) 0 (mP 3 m_outputs_asked)) (tCons (tVar 0) (tCons (tVar 1) (tCons (tVar 2) tNil))) tNil)) (gName 6) (tSeq (tAsg (tU (spD (WK K) 0 (mP 5 m_refuters)) (tCons (tVar 0) (tCons (tVar 4) (tCons (tVar 6) (tCons (tVar 2) (tCons (tVar 3) tNil))))) tNil) (gName 7)) (tSeq (tAsg (tU (spD (WK K) 0 (mP 5 m_open_option)) (tCons (tVar 0) (tCons (tVar 6) (tCons (tVar 7) (tCons (tVar 2) (tCons (tVar 3) tNil))))) tNil) (gName 8)) (tSeq (tIfS (tTest (tOp (fun x y H Q => y = .non ∧ Q (.bl (!decide (x = .non))) H) (tVar 8) (tC .non))) (tRet (tU (spD (WK K) 0 (mP 4 m_shortage)) (tCons (tVar 0) (tCons (tVar 6) (tCons (tVar 8) (tCons (tVar 2) tNil)))) tNil)) tNext) (tDrop (tBM K "list" rAppend (tVar 5) (tCons (tCB (fun xs H Q => ∃ p ys, xs = [.ref p] ∧ ((SqL K H p ys ∧ ∀ l, H l = none → Q (.ref l) (upd H l (.tup ys))) ∨ (SqT K H p ys ∧ Q (.ref p) H))) (tCons (tLc (iList K (tVar 7)) (gName 9) tYes (tCB (fun xs H Q => ∃ p ys, xs = [.ref p] ∧ ((SqL K H p ys ∧ ∀ l, H l = none → Q (.ref l) (upd H l (.tup ys))) ∨ (SqT K H p ys ∧ Q (.ref p) H))) (tCons (tLc (iList K (tVar 9)) (gName 10) tYes (tU (spD (WK K) 0 (mP 1 m_least_bit)) (tCons (tVar 10) tNil) tNil) [10]) tNil)) [9]) tNil)) tNil))))))) (tRet (tTup (tCons (tC (.str "enough")) (tCons (tCB (fun xs H Q => ∃ p ys, xs = [.ref p] ∧ ((SqL K H p ys ∧ ∀ l, H l = none → Q (.ref l) (upd H l (.tup ys))) ∨ (SqT K H p ys ∧ Q (.ref p) H))) (tCons (tVar 5) tNil)) tNil))))))
def b_judge : MS := (sSeq (sAsgO 5 (aCap aNil)) (sSeq (sFor (iTp (eU (mP 3 m_outputs_asked) (aCons (eVar 0) (aCons (eVar 1) (aCons (eVar 2) aNil))) aNil)) (gN 6) (sSeq (sAsg (eU (mP 5 m_refuters) (aCons (eVar 0) (aCons (eVar 4) (aCons (eVar 6) (aCons (eVar 2) (aCons (eVar 3) aNil))))) aNil) (gN 7)) (sSeq (sAsg (eU (mP 5 m_open_option) (aCons (eVar 0) (aCons (eVar 6) (aCons (eVar 7) (aCons (eVar 2) (aCons (eVar 3) aNil))))) aNil) (gN 8)) (sSeq (sIf (tOf (eBin (gIsN true) (eVar 8) (eC .non))) (sRet (eU (mP 4 m_shortage) (aCons (eVar 0) (aCons (eVar 6) (aCons (eVar 8) (aCons (eVar 2) aNil)))) aNil)) sNext) (sApp 5 (eCall cTuple (aCons (eNew (aComp [9] (iLst (eVar 7)) (gN 9) (fun _ => some true) (eCall cTuple (aCons (eNew (aComp [10] (iLst (eVar 9)) (gN 10) (fun _ => some true) (eU (mP 1 m_least_bit) (aCons (eVar 10) aNil) aNil))) aNil)))) aNil))))))) (sRet (eTup (aCons (eC (.str "enough")) (aCons (eCall cTuple (aCons (eOwn 5) aNil)) aNil))))))
def m_judge : List D → Option D := runB 11 b_judge
theorem bk_judge (T : Txt K mg) : BodyOk P w K mg base ["n", "outputs", "ring", "stuck", "trials", "tables", "output", "table", "found", "row", "bits"] "judge" (defScope s_judge) (defBody s_judge) 4 (t_judge K) := fun f cdv A outer s H E hr =>
  (pss_cons (ps_set (i := 5) sc_judge.nd rfl (by first | exact Or.inl rfl | exact Or.inr rfl) (pe_lst pa_nil)) (pss_cons (ps_for PassesOwn.never rfl (pi_tup (pe_u (g_outputs_asked T) (hr.mono (by decide)) (by rfl) (pa_cons (pv 0) (pa_cons (pv 1) (pa_cons (pv 2) pa_nil))))) (pg_name (i := 6) sc_judge.nd rfl (by first | exact Or.inl rfl | exact Or.inr rfl)) (pss_cons (ps_set (i := 7) sc_judge.nd rfl (by first | exact Or.inl rfl | exact Or.inr rfl) (pe_u (g_refuters T) (hr.mono (by decide)) (by rfl) (pa_cons (pv 0) (pa_cons (pv 4) (pa_cons (pv 6) (pa_cons (pv 2) (pa_cons (pv 3) pa_nil))))))) (pss_cons (ps_set (i := 8) sc_judge.nd rfl (by first | exact Or.inl rfl | exact Or.inr rfl) (pe_u (g_open_option T) (hr.mono (by decide)) (by rfl) (pa_cons (pv 0) (pa_cons (pv 6) (pa_cons (pv 7) (pa_cons (pv 2) (pa_cons (pv 3) pa_nil))))))) (pss_cons (ps_if (pt_cmpR op_notN (pv 8) pe_non (nomark _)) (pss_one (ps_ret (pe_u (g_shortage T) (hr.mono (by decide)) (by rfl) (pa_cons (pv 0) (pa_cons (pv 6) (pa_cons (pv 8) (pa_cons (pv 2) pa_nil))))))) pss_nil) (pss_one (ps_expr (pe_bm PySem.F.plainAttrs_list PySem.F.slot_list_append PySem.F.type_list_append mt_append (pv 5) (pa_cons (pe_callTy call_tuple_of (by rfl) T.b_tuple (by decide +kernel) (pa_cons (pe_lc (own := [("row", 9)]) rfl sc_judge.nd (pi_list (pv 7)) (blkOk_by (by rfl)) (fun _ _ _ _ _ => (pg_name (i := 9) sc_judge.nd rfl (by first | exact Or.inl rfl | exact Or.inr rfl))) (fun _ _ _ _ _ => pts_nil) (fun _ _ _ _ _ => (pe_callTy call_tuple_of (by rfl) T.b_tuple (by decide +kernel) (pa_cons (pe_lc (own := [("bits", 10)]) rfl sc_judge.nd (pi_list (pv 9)) (blkOk_by (by rfl)) (fun _ _ _ _ _ => (pg_name (i := 10) sc_judge.nd rfl (by first | exact Or.inl rfl | exact Or.inr rfl))) (fun _ _ _ _ _ => pts_nil) (fun _ _ _ _ _ => (pe_u (g_least_bit T) (hr.mono (by decide)) (by rfl) (pa_cons (pv 10) pa_nil)))) pa_nil)))) pa_nil)) pa_nil)))))))) (pss_one (ps_ret (pe_tup (pa_cons (pe_glb T.c_ENOUGH (by rfl)) (pa_cons (pe_callTy call_tuple_of (by rfl) T.b_tuple (by decide +kernel) (pa_cons (pv 5) pa_nil)) pa_nil)))))))
theorem sm_judge (T : Txt K mg) : SmS (WK K) (t_judge K) b_judge :=
  (sms_seq (sms_asgO (sml_lst sma_nil)) (sms_seq (sms_for (smi_tup (sm_u (sma_cons sm_var (sma_cons sm_var (sma_cons sm_var sma_nil))) sma_nil)) tgs_name (sms_seq (sms_asg (sm_u (sma_cons sm_var (sma_cons sm_var (sma_cons sm_var (sma_cons sm_var (sma_cons sm_var sma_nil))))) sma_nil) tgs_name) (sms_seq (sms_asg (sm_u (sma_cons sm_var (sma_cons sm_var (sma_cons sm_var (sma_cons sm_var (sma_cons sm_var sma_nil))))) sma_nil) tgs_name) (sms_seq (sms_if (smt_T (sm_op s_notN (Sm.b sm_var) (Sm.b sm_non))) (sms_ret (sm_u (sma_cons sm_var (sma_cons sm_var (sma_cons sm_var (sma_cons sm_var sma_nil)))) sma_nil)) sms_next) (sms_app (sm_cb cs_tuple (smab_cons (Sm.b (sm_of_l (sml_lc (vs := [9]) (smi_list sm_var) tgs_name (by decide) smt_yes (sm_cb cs_tuple (smab_cons (Sm.b (sm_of_l (sml_lc (vs := [10]) (smi_list sm_var) tgs_name (by decide) smt_yes (sm_u (sma_cons sm_var sma_nil) sma_nil)))) (SmA.b sma_nil)))))) (SmA.b sma_nil)))))))) (sms_ret (sm_tup (sma_cons sm_str (sma_cons (sm_cb cs_tuple (smab_cons smb_own (SmA.b sma_nil))) sma_nil))))))
theorem g_judge (T : Txt K mg) : GoodD P w K mg base (WK K) 5 "judge" ["outputs", "ring", "stuck"] (mStar 1 .tup m_judge) := by
  obtain ⟨f, fd, hm, F⟩ := T.f_judge
  exact good_star (ps := ["n"]) (pv := "trials") (ks := ["outputs", "ring", "stuck"]) (.inl rfl) hm F sc_judge (bk_judge T) (sm_judge T) (fun kV doc pm an cdv ct us rest ws hl hw => match us, hl, ws, hw with | [_], _, [_, _, _], _ => by cases rest <;> rfl)
theorem sc_is_enough : FnScope ["n", "outputs", "ring", "stuck", "trials"] ["n", "outputs", "ring", "stuck", "trials"] (defScope s_is_enough) := ⟨rfl, rfl, rfl, by decide +kernel, rfl, by decide +kernel, by decide +kernel⟩
def t_is_enough (K : PySem.W.Frag) : TS := (tRet (tOp rEq (tOp (rIx K) (tUK 3 (spD (WK K) 3 (mStar 1 .tup m_judge)) (tCons (tVar 0) (StX.tStar K (tVar 4) tNil)) (tCons (tVar 1) (tCons (tVar 2) (tCons (tVar 3) tNil)))) (tC (.int 0))) (tC (.str "enough"))))
def b_is_enough : MS := (sRet (eBin (gEq false) (eBin gIx (eUK 3 (mStar 1 .tup m_judge) (aCons (eVar 0) (aStar (eVar 4) aNil)) (aCons (eVar 1) (aCons (eVar 2) (aCons (eVar 3) aNil)))) (eC (.int 0))) (eC (.str "enough"))))
def m_is_enough : List D → Option D := runB 5 b_is_enough
theorem bk_is_enough (T : Txt K mg) : BodyOk P w K mg base ["n", "outputs", "ring", "stuck", "trials"] "is_enough" (defScope s_is_enough) (defBody s_is_enough) 5 (t_is_enough K) := fun f cdv A outer s H E hr =>
  (pss_one (ps_ret (pe_cmpR op_eq (pe_ix ix_seq (pe_uSK (g_judge T) (hr.mono (by decide)) (by rfl) (pa_cons (pv 0) (StX.pa_star (pv 4) pa_nil)) (pk_cons (pv 1) (pk_cons (pv 2) (pk_cons (pv 3) pk_nil)))) pe_int (fun _ _ => rfl)) (pe_glb T.c_ENOUGH (by rfl)) (nomark _))))
theorem sm_is_enough (T : Txt K mg) : SmS (WK K) (t_is_enough K) b_is_enough :=
  (sms_ret (sm_op s_eq (Sm.b (sm_op s_ix (Sm.b (sm_uK (sma_cons sm_var (sma_star sm_var sma_nil)) (sma_cons sm_var (sma_cons sm_var (sma_cons sm_var sma_nil))))) (Sm.b sm_int))) (Sm.b sm_str)))
theorem g_is_enough (T : Txt K mg) : GoodD P w K mg base (WK K) 6 "is_enough" ["outputs", "ring", "stuck"] (mStar 1 .tup m_is_enough) := by
  obtain ⟨f, fd, hm, F⟩ := T.f_is_enough
  exact good_star (ps := ["n"]) (pv := "trials") (ks := ["outputs", "ring", "stuck"]) (.inl rfl) hm F sc_is_enough (bk_is_enough T) (sm_is_enough T) (fun kV doc pm an cdv ct us rest ws hl hw => match us, hl, ws, hw with | [_], _, [_, _, _], _ => by cases rest <;> rfl)
theorem sc_settled : FnScope ["n", "ring", "stuck", "trials", "found", "output"] ["n", "ring", "stuck", "trials"] (defScope s_settled) := ⟨rfl, rfl, rfl, by decide +kernel, rfl, by decide +kernel, by decide +kernel⟩
def t_settled (K : PySem.W.Frag) : TS := (tSeq (tAsg (tLst tNil) (gName 4)) (tSeq (tFor (iTup K (tU (spD (WK K) 0 (mP 2 m_output_positions)) (tCons (tVar 0) (tCons (tVar 1) tNil)) tNil)) (gName 5) (tIfS (tB (tUK 3 (spD (WK K) 3 (mStar 1 .tup m_is_enough)) (tCons (tVar 0) (StX.tStar K (tVar 3) tNil)) (tCons (tTup (tCons (tVar 5) tNil)) (tCons (tVar 1) (tCons (tVar 2) tNil))))) (tDrop (tBM K "list" rAppend (tVar 4) (tCons (tVar 5) tNil))) tNext)) (tRet (tCB (fun xs H Q => ∃ p ys, xs = [.ref p] ∧ ((SqL K H p ys ∧ ∀ l, H l = none → Q (.ref l) (upd H l (.tup ys))) ∨ (SqT K H p ys ∧ Q (.ref p) H))) (tCons (tVar 4) tNil)))))
def b_settled : MS := (sSeq (sAsgO 4 (aCap aNil)) (sSeq (sFor (iTp (eU (mP 2 m_output_positions) (aCons (eVar 0) (aCons (eVar 1) aNil)) aNil)) (gN 5) (sIf (tOf (eUK 3 (mStar 1 .tup m_is_enough) (aCons (eVar 0) (aStar (eVar 3) aNil)) (aCons (eTup (aCons (eVar 5) aNil)) (aCons (eVar 1) (aCons (eVar 2) aNil))))) (sApp 4 (eVar 5)) sNext)) (sRet (eCall cTuple (aCons (eOwn 4) aNil)))))
def m_settled : List D → Option D := runB 6 b_settled
theorem bk_settled (T : Txt K mg) : BodyOk P w K mg base ["n", "ring", "stuck", "trials", "found", "output"] "settled" (defScope s_settled) (defBody s_settled) 6 (t_settled K) := fun f cdv A outer s H E hr =>
  (pss_cons (ps_set (i := 4) sc_settled.nd rfl (by first | exact Or.inl rfl | exact Or.inr rfl) (pe_lst pa_nil)) (pss_cons (ps_for PassesOwn.never rfl (pi_tup (pe_u (g_output_positions T) (hr.mono (by decide)) (by rfl) (pa_cons (pv 0) (pa_cons (pv 1) pa_nil)))) (pg_name (i := 5) sc_settled.nd rfl (by first | exact Or.inl rfl | exact Or.inr rfl)) (pss_one (ps_if (pt_val (pe_uSK (g_is_enough T) (hr.mono (by decide)) (by rfl) (pa_cons (pv 0) (StX.pa_star (pv 3) pa_nil)) (pk_cons (pe_tup (pa_cons (pv 5) pa_nil)) (pk_cons (pv 1) (pk_cons (pv 2) pk_nil))))) (pss_one (ps_expr (pe_bm PySem.F.plainAttrs_list PySem.F.slot_list_append PySem.F.type_list_append mt_append (pv 4) (pa_cons (pv 5) pa_nil)))) pss_nil))) (pss_one (ps_ret (pe_callTy call_tuple_of (by rfl) T.b_tuple (by decide +kernel) (pa_cons (pv 4) pa_nil))))))
theorem sm_settled (T : Txt K mg) : SmS (WK K) (t_settled K) b_settled :=
  (sms_seq (sms_asgO (sml_lst sma_nil)) (sms_seq (sms_for (smi_tup (sm_u (sma_cons sm_var (sma_cons sm_var sma_nil)) sma_nil)) tgs_name (sms_if (smt_B (sm_uK (sma_cons sm_var (sma_star sm_var sma_nil)) (sma_cons (sm_tup (sma_cons sm_var sma_nil)) (sma_cons sm_var (sma_cons sm_var sma_nil))))) (sms_app sm_var) sms_next)) (sms_ret (sm_cb cs_tuple (smab_cons smb_own (SmA.b sma_nil))))))
theorem g_settled (T : Txt K mg) : GoodD P w K mg base (WK K) 7 "settled" ["ring", "stuck"] (mStar 1 .tup m_settled) := by
  obtain ⟨f, fd, hm, F⟩ := T.f_settled
  exact good_star (ps := ["n"]) (pv := "trials") (ks := ["ring", "stuck"]) (.inl rfl) hm F sc_settled (bk_settled T) (sm_settled T) (fun kV doc pm an cdv ct us rest ws hl hw => match us, hl, ws, hw with | [_], _, [_, _], _ => by cases rest <;> rfl)
theorem sc_first_ones : FnScope ["positions", "found", "position"] ["positions"] (defScope s_first_ones) := ⟨rfl, rfl, rfl, by decide +kernel, rfl, by decide +kernel, by decide +kernel⟩
def t_first_ones (K : PySem.W.Frag) : TS := (tSeq (tAsg (tLst tNil) (gName 1)) (tSeq (tFor (iTup K (tVar 0)) (gName 2) (tSeq (tIfS (tAnd (tTest (tOp (rNeD K) (tVar 1) (tLst tNil))) (tTest (tOp rEq (tOp (rIx K) (tVar 1) (tUn (rU fun i => .int (-i)) (tC (.int 1)))) (tC (.int 0))))) tBreak tNext) (tIfS (tTest (tOp (rIn K true) (tVar 2) (tVar 1))) (tDrop (tBM K "list" rAppend (tVar 1) (tCons (tVar 2) tNil))) tNext))) (tRet (tCB (fun xs H Q => ∃ p ys, xs = [.ref p] ∧ ((SqL K H p ys ∧ ∀ l, H l = none → Q (.ref l) (upd H l (.tup ys))) ∨ (SqT K H p ys ∧ Q (.ref p) H))) (tCons (tVar 1) tNil)))))
def b_first_ones : MS := (sSeq (sAsgO 1 (aCap aNil)) (sSeq (sFor (iTp (eVar 0)) (gN 2) (sSeq (sIf (mAnd (tOf (eBin (gEqD true) (eOwn 1) (eLst aNil))) (tOf (eBin (gEq false) (eBin gIx (eOwn 1) (eNeg (eC (.int 1)))) (eC (.int 0))))) sBreak sNext) (sIf (tOf (eBin (gIn true) (eVar 2) (eOwn 1))) (sApp 1 (eVar 2)) sNext))) (sRet (eCall cTuple (aCons (eOwn 1) aNil)))))
def m_first_ones : List D → Option D := runB 3 b_first_ones
theorem bk_first_ones (T : Txt K mg) : BodyOk P w K mg base ["positions", "found", "position"] "first_ones" (defScope s_first_ones) (defBody s_first_ones) 0 (t_first_ones K) := fun f cdv A outer s H E hr =>
  (pss_cons (ps_set (i := 1) sc_first_ones.nd rfl (by first | exact Or.inl rfl | exact Or.inr rfl) (pe_lst pa_nil)) (pss_cons (ps_for PassesOwn.never rfl (pi_tup (pv 0)) (pg_name (i := 2) sc_first_ones.nd rfl (by first | exact Or.inl rfl | exact Or.inr rfl)) (pss_cons (ps_if (PW.pt (pw_and (pt_cmpR (op_neD hr.units) (pv 1) (pe_lst pa_nil) (nomark _)) (pw_and1 (pt_cmpR op_eq (pe_ix ix_seq (pv 1) (pe_un un_neg pe_int) (fun _ _ => rfl)) pe_int (nomark _))))) (pss_one ps_break) pss_nil) (pss_one (ps_if (pt_cmpR op_notIn_seq (pv 2) (pv 1) (by rfl)) (pss_one (ps_expr (pe_bm PySem.F.plainAttrs_list PySem.F.slot_list_append PySem.F.type_list_append mt_append (pv 1) (pa_cons (pv 2) pa_nil)))) pss_nil)))) (pss_one (ps_ret (pe_callTy call_tuple_of (by rfl) T.b_tuple (by decide +kernel) (pa_cons (pv 1) pa_nil))))))
theorem sm_first_ones (T : Txt K mg) : SmS (WK K) (t_first_ones K) b_first_ones :=
  (sms_seq (sms_asgO (sml_lst sma_nil)) (sms_seq (sms_for (smi_tup sm_var) tgs_name (sms_seq (sms_if (smt_and (smt_T (sm_op s_neD smb_own (Sm.b (sm_lst sma_nil)))) (smt_T (sm_op s_eq (Sm.b (sm_op s_ix smb_own (Sm.b (sm_neg sm_int)))) (Sm.b sm_int)))) sms_break sms_next) (sms_if (smt_T (sm_op s_in (Sm.b sm_var) smb_own)) (sms_app sm_var) sms_next))) (sms_ret (sm_cb cs_tuple (smab_cons smb_own (SmA.b sma_nil))))))
theorem g_first_ones (T : Txt K mg) : GoodD P w K mg base (WK K) 1 "first_ones" [] (mP 1 m_first_ones) := by
  obtain ⟨f, fd, hm, F⟩ := T.f_first_ones
  exact good_of hm F (ok_def F sc_first_ones (bk_first_ones T) (sm_first_ones T)) (F.bindsN fun _ _ _ _ _ _ us hl => match us, hl with | [_], _ => rfl)
end
end CP
/-! part CpN -/
set_option Elab.async false
set_option linter.all false
set_option maxRecDepth 100000
set_option maxHeartbeats 4000000
namespace CP
open PySem PySem.Spec PyProof.Rows L2 CPH
section
variable {P : Program} {w : World} {K : PySem.W.Frag} {mg : Str → Option Value} {base : Heap}
theorem sc_is_cell : FnScope ["value", "lowest", "top"] ["value", "lowest", "top"] (defScope s_is_cell) := ⟨rfl, rfl, rfl, by decide +kernel, rfl, by decide +kernel, by decide +kernel⟩
def t_is_cell (K : PySem.W.Frag) : TS := (tRet (tAndV (tU (spD (WK K) 0 (mP 2 m_is_row)) (tCons (tVar 0) (tCons (tC (.int 2)) tNil)) tNil) (tAndV (tU (spD (WK K) 0 (mP 3 m_is_between)) (tCons (tOp (rIx K) (tVar 0) (tC (.int 0))) (tCons (tVar 1) (tCons (tOp (rI0 fun i j => .int (i - j)) (tVar 2) (tC (.int 1))) tNil))) tNil) (tU (spD (WK K) 0 (mP 3 m_is_between)) (tCons (tOp (rIx K) (tVar 0) (tC (.int 1))) (tCons (tVar 1) (tCons (tOp (rI0 fun i j => .int (i - j)) (tVar 2) (tC (.int 1))) tNil))) tNil))))
def b_is_cell : MS := (sRet (eAndV (eU (mP 2 m_is_row) (aCons (eVar 0) (aCons (eC (.int 2)) aNil)) aNil) (eAndV (eU (mP 3 m_is_between) (aCons (eBin gIx (eVar 0) (eC (.int 0))) (aCons (eVar 1) (aCons (eBin gSubI (eVar 2) (eC (.int 1))) aNil))) aNil) (eU (mP 3 m_is_between) (aCons (eBin gIx (eVar 0) (eC (.int 1))) (aCons (eVar 1) (aCons (eBin gSubI (eVar 2) (eC (.int 1))) aNil))) aNil))))
def m_is_cell : List D → Option D := runB 3 b_is_cell
theorem bk_is_cell (T : Txt K mg) : BodyOk P w K mg base ["value", "lowest", "top"] "is_cell" (defScope s_is_cell) (defBody s_is_cell) 1 (t_is_cell K) := fun f cdv A outer s H E hr =>
  (pss_one (ps_ret (pe_and (pe_u (g_is_row T) (hr.mono (by decide)) (by rfl) (pa_cons (pv 0) (pa_cons pe_int pa_nil))) (pe_and (pe_u (g_is_between T) (hr.mono (by decide)) (by rfl) (pa_cons (pe_ix ix_seq (pv 0) pe_int (fun _ _ => rfl)) (pa_cons (pv 1) (pa_cons (pe_op op_sub (pv 2) pe_int) pa_nil)))) (pe_one (pe_u (g_is_between T) (hr.mono (by decide)) (by rfl) (pa_cons (pe_ix ix_seq (pv 0) pe_int (fun _ _ => rfl)) (pa_cons (pv 1) (pa_cons (pe_op op_sub (pv 2) pe_int) pa_nil)))))))))
theorem sm_is_cell (T : Txt K mg) : SmS (WK K) (t_is_cell K) b_is_cell :=
  (sms_ret (sm_andV (sm_u (sma_cons sm_var (sma_cons sm_int sma_nil)) sma_nil) (sm_andV (sm_u (sma_cons (sm_op s_ix (Sm.b sm_var) (Sm.b sm_int)) (sma_cons sm_var (sma_cons (sm_op s_sub (Sm.b sm_var) (Sm.b sm_int)) sma_nil))) sma_nil) (sm_u (sma_cons (sm_op s_ix (Sm.b sm_var) (Sm.b sm_int)) (sma_cons sm_var (sma_cons (sm_op s_sub (Sm.b sm_var) (Sm.b sm_int)) sma_nil))) sma_nil))))
theorem g_is_cell (T : Txt K mg) : GoodD P w K mg base (WK K) 2 "is_cell" [] (mP 3 m_is_cell) := by
  obtain ⟨f, fd, hm, F⟩ := T.f_is_cell
  exact good_of hm F (ok_def F sc_is_cell (bk_is_cell T) (sm_is_cell T)) (F.bindsN fun _ _ _ _ _ _ us hl => match us, hl with | [_, _, _], _ => rfl)
theorem sc_checked_cells : FnScope ["n", "cells", "lowest", "index", "cell"] ["n", "cells", "lowest"] (defScope s_checked_cells) := ⟨rfl, rfl, rfl, by decide +kernel, rfl, by decide +kernel, by decide +kernel⟩
def t_checked_cells (K : PySem.W.Frag) : TS := (tSeq (tIfS (tOr (tNot (tB (tU (spD (WK K) 0 (mP 1 m_is_sequence)) (tCons (tVar 1) tNil) tNil))) (tTest (tOp (rI0 fun i j => .bl (decide (j < i))) (tCB (fun xs H Q => ∃ x n, xs = [x] ∧ LenV K x H n ∧ Q (.int n) H) (tCons (tVar 1) tNil)) (tC (.int 150))))) tNever tNext) (tSeq (tFor (iEnum K (tCons (tVar 1) tNil)) (gTup K 2 (gCons (gName 3) (gCons (gName 4) gNil))) (tIfS (tNot (tB (tU (spD (WK K) 0 (mP 3 m_is_cell)) (tCons (tVar 4) (tCons (tVar 2) (tCons (tOp (rI0 fun i j => .int (i + j)) (tOp (rI0 fun i j => .int (i + j)) (tVar 0) (tC (.int 1))) (tVar 3)) tNil))) tNil))) tNever tNext)) (tRet (tCB (fun xs H Q => ∃ p ys, xs = [.ref p] ∧ ((SqL K H p ys ∧ ∀ l, H l = none → Q (.ref l) (upd H l (.tup ys))) ∨ (SqT K H p ys ∧ Q (.ref p) H))) (tCons (tVar 1) tNil)))))
def b_checked_cells : MS := (sSeq (sIf (mOr (mNot (tOf (eU (mP 1 m_is_sequence) (aCons (eVar 1) aNil) aNil))) (tOf (eBin gGt (eCall cLen (aCons (eVar 1) aNil)) (eC (.int 150))))) sNever sNext) (sSeq (sFor (iEn (eVar 1)) (gTp (gCons0 (gN 3) (gCons0 (gN 4) gNil0)) 2) (sIf (mNot (tOf (eU (mP 3 m_is_cell) (aCons (eVar 4) (aCons (eVar 2) (aCons (eBin gAdd (eBin gAdd (eVar 0) (eC (.int 1))) (eVar 3)) aNil))) aNil))) sNever sNext)) (sRet (eCall cTuple (aCons (eVar 1) aNil)))))
def m_checked_cells : List D → Option D := runB 5 b_checked_cells
theorem bk_checked_cells (T : Txt K mg) : BodyOk P w K mg base ["n", "cells", "lowest", "index", "cell"] "checked_cells" (defScope s_checked_cells) (defBody s_checked_cells) 2 (t_checked_cells K) := fun f cdv A outer s H E hr =>
  (pss_cons (ps_if (PW.pt (pw_or (pt_not (pt_val (pe_u (g_is_sequence T) (hr.mono (by decide)) (by rfl) (pa_cons (pv 1) pa_nil)))) (pw_or1 (pt_cmpR op_gt (pe_callB call_len (by rfl) T.b_len (by decide +kernel) (pa_cons (pv 1) pa_nil)) (pe_glb T.c_MOST_CELLS (by rfl)) (nomark _))))) (pss_one (ps_never)) pss_nil) (pss_cons (ps_for PassesOwn.never rfl (pi_enum (by rfl) T.b_enumerate (pa_cons (pv 1) pa_nil)) (pg_tup rfl (pgs_cons (pg_name (i := 3) sc_checked_cells.nd rfl (by first | exact Or.inl rfl | exact Or.inr rfl)) (pgs_cons (pg_name (i := 4) sc_checked_cells.nd rfl (by first | exact Or.inl rfl | exact Or.inr rfl)) pgs_nil))) (pss_one (ps_if (pt_not (pt_val (pe_u (g_is_cell T) (hr.mono (by decide)) (by rfl) (pa_cons (pv 4) (pa_cons (pv 2) (pa_cons (pe_op op_add (pe_op op_add (pv 0) pe_int) (pv 3)) pa_nil)))))) (pss_one (ps_never)) pss_nil))) (pss_one (ps_ret (pe_callTy call_tuple_of (by rfl) T.b_tuple (by decide +kernel) (pa_cons (pv 1) pa_nil))))))
theorem sm_checked_cells (T : Txt K mg) : SmS (WK K) (t_checked_cells K) b_checked_cells :=
  (sms_seq (sms_if (smt_or (smt_not (smt_B (sm_u (sma_cons sm_var sma_nil) sma_nil))) (smt_T (sm_op s_gt (Sm.b (sm_cb cs_len (smab_cons (Sm.b sm_var) (SmA.b sma_nil)))) (Sm.b sm_int)))) sms_never sms_next) (sms_seq (sms_for (smi_enum sm_var) (tgs_tup (tgss_cons tgs_name (tgss_cons tgs_name tgss_nil))) (sms_if (smt_not (smt_B (sm_u (sma_cons sm_var (sma_cons sm_var (sma_cons (sm_op s_add (Sm.b (sm_op s_add (Sm.b sm_var) (Sm.b sm_int))) (Sm.b sm_var)) sma_nil))) sma_nil))) sms_never sms_next)) (sms_ret (sm_cb cs_tuple (smab_cons (Sm.b sm_var) (SmA.b sma_nil))))))
theorem g_checked_cells (T : Txt K mg) : GoodD P w K mg base (WK K) 3 "checked_cells" [] (mP 3 m_checked_cells) := by
  obtain ⟨f, fd, hm, F⟩ := T.f_checked_cells
  exact good_of hm F (ok_def F sc_checked_cells (bk_checked_cells T) (sm_checked_cells T)) (F.bindsN fun _ _ _ _ _ _ us hl => match us, hl with | [_, _, _], _ => rfl)
theorem sc_checked_outputs : FnScope ["n", "many", "outputs", "lowest", "index", "node"] ["n", "many", "outputs", "lowest"] (defScope s_checked_outputs) := ⟨rfl, rfl, rfl, by decide +kernel, rfl, by decide +kernel, by decide +kernel⟩
def t_checked_outputs (K : PySem.W.Frag) : TS := (tSeq (tIfS (tOr (tNot (tB (tU (spD (WK K) 0 (mP 1 m_is_sequence)) (tCons (tVar 2) tNil) tNil))) (tTest (tOp rNe (tCB (fun xs H Q => ∃ x n, xs = [x] ∧ LenV K x H n ∧ Q (.int n) H) (tCons (tVar 2) tNil)) (tOp (rI0 fun i j => .int (i - j)) (tOp (rI0 fun i j => .int (i + j)) (tVar 0) (tC (.int 1))) (tVar 3))))) tNever tNext) (tSeq (tFor (iEnum K (tCons (tVar 2) tNil)) (gTup K 2 (gCons (gName 4) (gCons (gName 5) gNil))) (tIfS (tNot (tB (tU (spD (WK K) 0 (mP 3 m_is_between)) (tCons (tVar 5) (tCons (tVar 3) (tCons (tOp (rI0 fun i j => .int (i + j)) (tVar 0) (tVar 1)) tNil))) tNil))) tNever tNext)) (tRet (tCB (fun xs H Q => ∃ p ys, xs = [.ref p] ∧ ((SqL K H p ys ∧ ∀ l, H l = none → Q (.ref l) (upd H l (.tup ys))) ∨ (SqT K H p ys ∧ Q (.ref p) H))) (tCons (tVar 2) tNil)))))
def b_checked_outputs : MS := (sSeq (sIf (mOr (mNot (tOf (eU (mP 1 m_is_sequence) (aCons (eVar 2) aNil) aNil))) (tOf (eBin (gEq true) (eCall cLen (aCons (eVar 2) aNil)) (eBin gSubI (eBin gAdd (eVar 0) (eC (.int 1))) (eVar 3))))) sNever sNext) (sSeq (sFor (iEn (eVar 2)) (gTp (gCons0 (gN 4) (gCons0 (gN 5) gNil0)) 2) (sIf (mNot (tOf (eU (mP 3 m_is_between) (aCons (eVar 5) (aCons (eVar 3) (aCons (eBin gAdd (eVar 0) (eVar 1)) aNil))) aNil))) sNever sNext)) (sRet (eCall cTuple (aCons (eVar 2) aNil)))))
def m_checked_outputs : List D → Option D := runB 6 b_checked_outputs
theorem bk_checked_outputs (T : Txt K mg) : BodyOk P w K mg base ["n", "many", "outputs", "lowest", "index", "node"] "checked_outputs" (defScope s_checked_outputs) (defBody s_checked_outputs) 1 (t_checked_outputs K) := fun f cdv A outer s H E hr =>
  (pss_cons (ps_if (PW.pt (pw_or (pt_not (pt_val (pe_u (g_is_sequence T) (hr.mono (by decide)) (by rfl) (pa_cons (pv 2) pa_nil)))) (pw_or1 (pt_cmpR op_ne (pe_callB call_len (by rfl) T.b_len (by decide +kernel) (pa_cons (pv 2) pa_nil)) (pe_op op_sub (pe_op op_add (pv 0) pe_int) (pv 3)) (nomark _))))) (pss_one (ps_never)) pss_nil) (pss_cons (ps_for PassesOwn.never rfl (pi_enum (by rfl) T.b_enumerate (pa_cons (pv 2) pa_nil)) (pg_tup rfl (pgs_cons (pg_name (i := 4) sc_checked_outputs.nd rfl (by first | exact Or.inl rfl | exact Or.inr rfl)) (pgs_cons (pg_name (i := 5) sc_checked_outputs.nd rfl (by first | exact Or.inl rfl | exact Or.inr rfl)) pgs_nil))) (pss_one (ps_if (pt_not (pt_val (pe_u (g_is_between T) (hr.mono (by decide)) (by rfl) (pa_cons (pv 5) (pa_cons (pv 3) (pa_cons (pe_op op_add (pv 0) (pv 1)) pa_nil)))))) (pss_one (ps_never)) pss_nil))) (pss_one (ps_ret (pe_callTy call_tuple_of (by rfl) T.b_tuple (by decide +kernel) (pa_cons (pv 2) pa_nil))))))
theorem sm_checked_outputs (T : Txt K mg) : SmS (WK K) (t_checked_outputs K) b_checked_outputs :=
  (sms_seq (sms_if (smt_or (smt_not (smt_B (sm_u (sma_cons sm_var sma_nil) sma_nil))) (smt_T (sm_op s_ne (Sm.b (sm_cb cs_len (smab_cons (Sm.b sm_var) (SmA.b sma_nil)))) (Sm.b (sm_op s_sub (Sm.b (sm_op s_add (Sm.b sm_var) (Sm.b sm_int))) (Sm.b sm_var)))))) sms_never sms_next) (sms_seq (sms_for (smi_enum sm_var) (tgs_tup (tgss_cons tgs_name (tgss_cons tgs_name tgss_nil))) (sms_if (smt_not (smt_B (sm_u (sma_cons sm_var (sma_cons sm_var (sma_cons (sm_op s_add (Sm.b sm_var) (Sm.b sm_var)) sma_nil))) sma_nil))) sms_never sms_next)) (sms_ret (sm_cb cs_tuple (smab_cons (Sm.b sm_var) (SmA.b sma_nil))))))
theorem g_checked_outputs (T : Txt K mg) : GoodD P w K mg base (WK K) 2 "checked_outputs" [] (mP 4 m_checked_outputs) := by
  obtain ⟨f, fd, hm, F⟩ := T.f_checked_outputs
  exact good_of hm F (ok_def F sc_checked_outputs (bk_checked_outputs T) (sm_checked_outputs T)) (F.bindsN fun _ _ _ _ _ _ us hl => match us, hl with | [_, _, _, _], _ => rfl)
theorem sc_node_states : FnScope ["n", "cells", "trial", "stuck", "found", "index", "joined", "position", "upper", "lower"] ["n", "cells", "trial", "stuck"] (defScope s_node_states) := ⟨rfl, rfl, rfl, by decide +kernel, rfl, by decide +kernel, by decide +kernel⟩
def t_node_states (K : PySem.W.Frag) : TS := (tSeq (tAsg (tLc (iRng1 (tCons (tOp (rI0 fun i j => .int (i + j)) (tVar 0) (tC (.int 1))) tNil)) (gName 7) tYes (tU (spD (WK K) 0 (mP 2 m_state_at)) (tCons (tVar 2) (tCons (tVar 7) tNil)) tNil) [7]) (gName 4)) (tSeq (tFor (CPX.iEnumT K (tCons (tVar 1) tNil)) (gTup K 2 (gCons (gName 5) (gCons (gTup K 2 (gCons (gName 8) (gCons (gName 9) gNil))) gNil))) (tSeq (tAsg (tIf (tTest (tOp rEq (tOp (rIx K) (tVar 4) (tVar 8)) (tC (.str "P")))) (tOp (rIx K) (tVar 4) (tVar 9)) (tOp (rIx K) (tVar 4) (tVar 8))) (gName 6)) (tDrop (tBM K "list" rAppend (tVar 4) (tCons (tDGet2 (tVar 3) (tVar 5) (tVar 6)) tNil))))) (tRet (tVar 4))))
def b_node_states : MS := (sSeq (sAsgO 4 (aComp [7] (iR1 (aCons (eBin gAdd (eVar 0) (eC (.int 1))) aNil)) (gN 7) (fun _ => some true) (eU (mP 2 m_state_at) (aCons (eVar 2) (aCons (eVar 7) aNil)) aNil))) (sSeq (sFor (iEnT (eVar 1)) (gTp (gCons0 (gN 5) (gCons0 (gTp (gCons0 (gN 8) (gCons0 (gN 9) gNil0)) 2) gNil0)) 2) (sSeq (sAsg (eIf (tOf (eBin (gEq false) (eBin gIx (eOwn 4) (eVar 8)) (eC (.str "P")))) (eBin gIx (eOwn 4) (eVar 9)) (eBin gIx (eOwn 4) (eVar 8))) (gN 6)) (sApp 4 (eDGet2 (eVar 3) (eVar 5) (eVar 6))))) (fun ρ => (sRet (eVar 4)) (freeze 4 ρ))))
def m_node_states : List D → Option D := runB 10 b_node_states
theorem bk_node_states (T : Txt K mg) : BodyOk P w K mg base ["n", "cells", "trial", "stuck", "found", "index", "joined", "position", "upper", "lower"] "node_states" (defScope s_node_states) (defBody s_node_states) 1 (t_node_states K) := fun f cdv A outer s H E hr =>
  (pss_cons (ps_setLc (i := 4) (own := [("position", 7)]) rfl sc_node_states.nd rfl rfl (sw_true rfl rfl rfl (by decide +kernel)) (pi_range1 (by rfl) T.b_range (pa_cons (pe_op op_add (pv 0) pe_int) pa_nil)) (blkOk_by (by rfl)) (fun _ _ _ _ _ => (pg_name (i := 7) sc_node_states.nd rfl (by first | exact Or.inl rfl | exact Or.inr rfl))) (fun _ _ _ _ _ => pts_nil) (fun _ _ _ _ _ => (pe_u (g_state_at T) (hr.mono (by decide)) (by rfl) (pa_cons (pv 2) (pa_cons (pv 7) pa_nil))))) (pss_cons (ps_for PassesOwn.never rfl (CPX.pi_enumT (by rfl) T.b_enumerate (pa_cons (pv 1) pa_nil)) (pg_tup rfl (pgs_cons (pg_name (i := 5) sc_node_states.nd rfl (by first | exact Or.inl rfl | exact Or.inr rfl)) (pgs_cons (pg_tup rfl (pgs_cons (pg_name (i := 8) sc_node_states.nd rfl (by first | exact Or.inl rfl | exact Or.inr rfl)) (pgs_cons (pg_name (i := 9) sc_node_states.nd rfl (by first | exact Or.inl rfl | exact Or.inr rfl)) pgs_nil))) pgs_nil))) (pss_cons (ps_set (i := 6) sc_node_states.nd rfl (by first | exact Or.inl rfl | exact Or.inr rfl) (pe_ifExp (pt_cmpR op_eq (pe_ix ix_seq (pv 4) (pv 8) (fun _ _ => rfl)) (pe_glb T.c_PASS (by rfl)) (nomark _)) (pe_ix ix_seq (pv 4) (pv 9) (fun _ _ => rfl)) (pe_ix ix_seq (pv 4) (pv 8) (fun _ _ => rfl)))) (pss_one (ps_expr (pe_bm PySem.F.plainAttrs_list PySem.F.slot_list_append PySem.F.type_list_append mt_append (pv 4) (pa_cons (pe_dget2 (hu_of hr) (pv 3) (pv 5) (pv 6) ⟨rfl, rfl, rfl, rfl⟩) pa_nil)))))) (pss_one (ps_ret (pv 4)))))
theorem sm_node_states (T : Txt K mg) : SmS (WK K) (t_node_states K) b_node_states :=
  (sms_seq (sms_asgO (sml_lc (vs := [7]) (smi_r1 (sma_cons (sm_op s_add (Sm.b sm_var) (Sm.b sm_int)) sma_nil)) tgs_name (by decide) smt_yes (sm_u (sma_cons sm_var (sma_cons sm_var sma_nil)) sma_nil))) (sms_seq (sms_for (smi_enumT sm_var) (tgs_tup (tgss_cons tgs_name (tgss_cons (tgs_tup (tgss_cons tgs_name (tgss_cons tgs_name tgss_nil))) tgss_nil))) (sms_seq (sms_asg (sm_if (smt_T (sm_op s_eq (Sm.b (sm_op s_ix smb_own (Sm.b sm_var))) (Sm.b sm_str))) (sm_op s_ix smb_own (Sm.b sm_var)) (sm_op s_ix smb_own (Sm.b sm_var))) tgs_name) (sms_app (sm_dget2 sm_var sm_var sm_var)))) (sms_freeze 4 (sms_ret sm_var))))
theorem g_node_states (T : Txt K mg) : GoodD P w K mg base (WK K) 2 "node_states" [] (mP 4 m_node_states) := by
  obtain ⟨f, fd, hm, F⟩ := T.f_node_states
  exact good_of hm F (ok_def F sc_node_states (bk_node_states T) (sm_node_states T)) (F.bindsN fun _ _ _ _ _ _ us hl => match us, hl with | [_, _, _, _], _ => rfl)
theorem sc_checked_stuck : FnScope ["stuck", "many", "least", "index", "entry"] ["stuck", "many"] (defScope s_checked_stuck) := ⟨rfl, rfl, rfl, by decide +kernel, rfl, by decide +kernel, by decide +kernel⟩
def t_checked_stuck (K : PySem.W.Frag) : TS := (tSeq (tIfS (tNot (tB (tU (spD (WK K) 0 (mP 1 m_is_sequence)) (tCons (tVar 0) tNil) tNil))) tNever tNext) (tSeq (tAsg (tC (.int 0)) (gName 2)) (tSeq (tFor (iEnum K (tCons (tVar 0) tNil)) (gTup K 2 (gCons (gName 3) (gCons (gName 4) gNil))) (tSeq (tIfS (tOr (tNot (tB (tU (spD (WK K) 0 (mP 2 m_is_row)) (tCons (tVar 4) (tCons (tC (.int 2)) tNil)) tNil))) (tOr (tNot (tB (tU (spD (WK K) 0 (mP 3 m_is_between)) (tCons (tOp (rIx K) (tVar 4) (tC (.int 0))) (tCons (tVar 2) (tCons (tOp (rI0 fun i j => .int (i - j)) (tVar 1) (tC (.int 1))) tNil))) tNil))) (tNot (tB (tU (spD (WK K) 0 (mP 1 m_is_state)) (tCons (tOp (rIx K) (tVar 4) (tC (.int 1))) tNil) tNil))))) tNever tNext) (tAsg (tOp (rI0 fun i j => .int (i + j)) (tOp (rIx K) (tVar 4) (tC (.int 0))) (tC (.int 1))) (gName 2)))) (tRet (tCB (CPX.rTupF K) (tCons (tVar 0) tNil))))))
def b_checked_stuck : MS := (sSeq (sIf (mNot (tOf (eU (mP 1 m_is_sequence) (aCons (eVar 0) aNil) aNil))) sNever sNext) (sSeq (sAsg (eC (.int 0)) (gN 2)) (sSeq (sFor (iEn (eVar 0)) (gTp (gCons0 (gN 3) (gCons0 (gN 4) gNil0)) 2) (sSeq (sIf (mOr (mNot (tOf (eU (mP 2 m_is_row) (aCons (eVar 4) (aCons (eC (.int 2)) aNil)) aNil))) (mOr (mNot (tOf (eU (mP 3 m_is_between) (aCons (eBin gIx (eVar 4) (eC (.int 0))) (aCons (eVar 2) (aCons (eBin gSubI (eVar 1) (eC (.int 1))) aNil))) aNil))) (mNot (tOf (eU (mP 1 m_is_state) (aCons (eBin gIx (eVar 4) (eC (.int 1))) aNil) aNil))))) sNever sNext) (sAsg (eBin gAdd (eBin gIx (eVar 4) (eC (.int 0))) (eC (.int 1))) (gN 2)))) (sRet (eCall cTupF (aCons (eVar 0) aNil))))))
def m_checked_stuck : List D → Option D := runB 5 b_checked_stuck
theorem bk_checked_stuck (T : Txt K mg) : BodyOk P w K mg base ["stuck", "many", "least", "index", "entry"] "checked_stuck" (defScope s_checked_stuck) (defBody s_checked_stuck) 2 (t_checked_stuck K) := fun f cdv A outer s H E hr =>
  (pss_cons (ps_if (pt_not (pt_val (pe_u (g_is_sequence T) (hr.mono (by decide)) (by rfl) (pa_cons (pv 0) pa_nil)))) (pss_one (ps_never)) pss_nil) (pss_cons (ps_set (i := 2) sc_checked_stuck.nd rfl (by first | exact Or.inl rfl | exact Or.inr rfl) pe_int) (pss_cons (ps_for PassesOwn.never rfl (pi_enum (by rfl) T.b_enumerate (pa_cons (pv 0) pa_nil)) (pg_tup rfl (pgs_cons (pg_name (i := 3) sc_checked_stuck.nd rfl (by first | exact Or.inl rfl | exact Or.inr rfl)) (pgs_cons (pg_name (i := 4) sc_checked_stuck.nd rfl (by first | exact Or.inl rfl | exact Or.inr rfl)) pgs_nil))) (pss_cons (ps_if (PW.pt (pw_or (pt_not (pt_val (pe_u (g_is_row T) (hr.mono (by decide)) (by rfl) (pa_cons (pv 4) (pa_cons pe_int pa_nil))))) (pw_or (pt_not (pt_val (pe_u (g_is_between T) (hr.mono (by decide)) (by rfl) (pa_cons (pe_ix ix_seq (pv 4) pe_int (fun _ _ => rfl)) (pa_cons (pv 2) (pa_cons (pe_op op_sub (pv 1) pe_int) pa_nil)))))) (pw_or1 (pt_not (pt_val (pe_u (g_is_state T) (hr.mono (by decide)) (by rfl) (pa_cons (pe_ix ix_seq (pv 4) pe_int (fun _ _ => rfl)) pa_nil)))))))) (pss_one (ps_never)) pss_nil) (pss_one (ps_set (i := 2) sc_checked_stuck.nd rfl (by first | exact Or.inl rfl | exact Or.inr rfl) (pe_op op_add (pe_ix ix_seq (pv 4) pe_int (fun _ _ => rfl)) pe_int))))) (pss_one (ps_ret (pe_callTy CPX.call_tupF (by rfl) T.b_tuple (by decide +kernel) (pa_cons (pv 0) pa_nil)))))))
theorem sm_checked_stuck (T : Txt K mg) : SmS (WK K) (t_checked_stuck K) b_checked_stuck :=
  (sms_seq (sms_if (smt_not (smt_B (sm_u (sma_cons sm_var sma_nil) sma_nil))) sms_never sms_next) (sms_seq (sms_asg sm_int tgs_name) (sms_seq (sms_for (smi_enum sm_var) (tgs_tup (tgss_cons tgs_name (tgss_cons tgs_name tgss_nil))) (sms_seq (sms_if (smt_or (smt_not (smt_B (sm_u (sma_cons sm_var (sma_cons sm_int sma_nil)) sma_nil))) (smt_or (smt_not (smt_B (sm_u (sma_cons (sm_op s_ix (Sm.b sm_var) (Sm.b sm_int)) (sma_cons sm_var (sma_cons (sm_op s_sub (Sm.b sm_var) (Sm.b sm_int)) sma_nil))) sma_nil))) (smt_not (smt_B (sm_u (sma_cons (sm_op s_ix (Sm.b sm_var) (Sm.b sm_int)) sma_nil) sma_nil))))) sms_never sms_next) (sms_asg (sm_op s_add (Sm.b (sm_op s_ix (Sm.b sm_var) (Sm.b sm_int))) (Sm.b sm_int)) tgs_name))) (sms_ret (sm_cb cs_tupF (smab_cons (Sm.b sm_var) (SmA.b sma_nil)))))))
theorem g_checked_stuck (T : Txt K mg) : GoodD P w K mg base (WK K) 3 "checked_stuck" [] (mP 2 m_checked_stuck) := by
  obtain ⟨f, fd, hm, F⟩ := T.f_checked_stuck
  exact good_of hm F (ok_def F sc_checked_stuck (bk_checked_stuck T) (sm_checked_stuck T)) (F.bindsN fun _ _ _ _ _ _ us hl => match us, hl with | [_, _], _ => rfl)
theorem sc_joined_rows : FnScope ["upper", "lower", "found", "entry"] ["upper", "lower"] (defScope s_joined_rows) := ⟨rfl, rfl, rfl, by decide +kernel, rfl, by decide +kernel, by decide +kernel⟩
def t_joined_rows (K : PySem.W.Frag) : TS := (tSeq (tAsg (tLst (StX.tStar K (tVar 0) tNil)) (gName 2)) (tSeq (tFor (iTup K (tVar 1)) (gName 3) (tSeq (tIfS (tAnd (tTest (tOp (rNeD K) (tVar 2) (tLst tNil))) (tTest (tOp (rIn K false) (tOp (rIx K) (tVar 2) (tUn (rU fun i => .int (-i)) (tC (.int 1)))) (tTup (tCons (tC (.int 0)) (tCons (tC (.str "G")) (tCons (tC (.str "K")) tNil))))))) tBreak tNext) (tIfS (tTest (tOp (rIn K true) (tVar 3) (tVar 2))) (tDrop (tBM K "list" rAppend (tVar 2) (tCons (tVar 3) tNil))) tNext))) (tRet (tCB (fun xs H Q => ∃ p ys, xs = [.ref p] ∧ ((SqL K H p ys ∧ ∀ l, H l = none → Q (.ref l) (upd H l (.tup ys))) ∨ (SqT K H p ys ∧ Q (.ref p) H))) (tCons (tVar 2) tNil)))))
def b_joined_rows : MS := (sSeq (sAsgO 2 (aCap (aStar (eVar 0) aNil))) (sSeq (sFor (iTp (eVar 1)) (gN 3) (sSeq (sIf (mAnd (tOf (eBin (gEqD true) (eOwn 2) (eLst aNil))) (tOf (eBin (gIn false) (eBin gIx (eOwn 2) (eNeg (eC (.int 1)))) (eTup (aCons (eC (.int 0)) (aCons (eC (.str "G")) (aCons (eC (.str "K")) aNil))))))) sBreak sNext) (sIf (tOf (eBin (gIn true) (eVar 3) (eOwn 2))) (sApp 2 (eVar 3)) sNext))) (sRet (eCall cTuple (aCons (eOwn 2) aNil)))))
def m_joined_rows : List D → Option D := runB 4 b_joined_rows
theorem bk_joined_rows (T : Txt K mg) : BodyOk P w K mg base ["upper", "lower", "found", "entry"] "joined_rows" (defScope s_joined_rows) (defBody s_joined_rows) 0 (t_joined_rows K) := fun f cdv A outer s H E hr =>
  (pss_cons (ps_set (i := 2) sc_joined_rows.nd rfl (by first | exact Or.inl rfl | exact Or.inr rfl) (pe_lst (StX.pa_star (pv 0) pa_nil))) (pss_cons (ps_for PassesOwn.never rfl (pi_tup (pv 1)) (pg_name (i := 3) sc_joined_rows.nd rfl (by first | exact Or.inl rfl | exact Or.inr rfl)) (pss_cons (ps_if (PW.pt (pw_and (pt_cmpR (op_neD hr.units) (pv 2) (pe_lst pa_nil) (nomark _)) (pw_and1 (pt_cmpR op_in_seq (pe_ix ix_seq (pv 2) (pe_un un_neg pe_int) (fun _ _ => rfl)) (pe_tup (pa_cons pe_int (pa_cons pe_str (pa_cons pe_str pa_nil)))) (by rfl))))) (pss_one ps_break) pss_nil) (pss_one (ps_if (pt_cmpR op_notIn_seq (pv 3) (pv 2) (by rfl)) (pss_one (ps_expr (pe_bm PySem.F.plainAttrs_list PySem.F.slot_list_append PySem.F.type_list_append mt_append (pv 2) (pa_cons (pv 3) pa_nil)))) pss_nil)))) (pss_one (ps_ret (pe_callTy call_tuple_of (by rfl) T.b_tuple (by decide +kernel) (pa_cons (pv 2) pa_nil))))))
theorem sm_joined_rows (T : Txt K mg) : SmS (WK K) (t_joined_rows K) b_joined_rows :=
  (sms_seq (sms_asgO (sml_lst (sma_star sm_var sma_nil))) (sms_seq (sms_for (smi_tup sm_var) tgs_name (sms_seq (sms_if (smt_and (smt_T (sm_op s_neD smb_own (Sm.b (sm_lst sma_nil)))) (smt_T (sm_op s_in (Sm.b (sm_op s_ix smb_own (Sm.b (sm_neg sm_int)))) (Sm.b (sm_tup (sma_cons sm_int (sma_cons sm_str (sma_cons sm_str sma_nil)))))))) sms_break sms_next) (sms_if (smt_T (sm_op s_in (Sm.b sm_var) smb_own)) (sms_app sm_var) sms_next))) (sms_ret (sm_cb cs_tuple (smab_cons smb_own (SmA.b sma_nil))))))
theorem g_joined_rows (T : Txt K mg) : GoodD P w K mg base (WK K) 1 "joined_rows" [] (mP 2 m_joined_rows) := by
  obtain ⟨f, fd, hm, F⟩ := T.f_joined_rows
  exact good_of hm F (ok_def F sc_joined_rows (bk_joined_rows T) (sm_joined_rows T)) (F.bindsN fun _ _ _ _ _ _ us hl => match us, hl with | [_, _], _ => rfl)
theorem sc_node_rows : FnScope ["n", "cells", "stuck", "found", "index", "position", "upper", "lower"] ["n", "cells", "stuck"] (defScope s_node_rows) := ⟨rfl, rfl, rfl, by decide +kernel, rfl, by decide +kernel, by decide +kernel⟩
def t_node_rows (K : PySem.W.Frag) : TS := (tSeq (tAsg (tLc (iRng1 (tCons (tOp (rI0 fun i j => .int (i + j)) (tVar 0) (tC (.int 1))) tNil)) (gName 5) tYes (tTup (tCons (tVar 5) tNil)) [5]) (gName 3)) (tSeq (tFor (CPX.iEnumT K (tCons (tVar 1) tNil)) (gTup K 2 (gCons (gName 4) (gCons (gTup K 2 (gCons (gName 6) (gCons (gName 7) gNil))) gNil))) (tIfS (tB (tDIn (tVar 4) (tVar 2))) (tDrop (tBM K "list" rAppend (tVar 3) (tCons (tIf (tTest (tOp rEq (tDGet (tVar 2) (tVar 4)) (tC (.str "P")))) (tTup tNil) (tTup (tCons (tDGet (tVar 2) (tVar 4)) tNil))) tNil))) (tDrop (tBM K "list" rAppend (tVar 3) (tCons (tU (spD (WK K) 0 (mP 2 m_joined_rows)) (tCons (tOp (rIx K) (tVar 3) (tVar 6)) (tCons (tOp (rIx K) (tVar 3) (tVar 7)) tNil)) tNil) tNil))))) (tRet (tVar 3))))
def b_node_rows : MS := (sSeq (sAsgO 3 (aComp [5] (iR1 (aCons (eBin gAdd (eVar 0) (eC (.int 1))) aNil)) (gN 5) (fun _ => some true) (eTup (aCons (eVar 5) aNil)))) (sSeq (sFor (iEnT (eVar 1)) (gTp (gCons0 (gN 4) (gCons0 (gTp (gCons0 (gN 6) (gCons0 (gN 7) gNil0)) 2) gNil0)) 2) (sIf (tOf (eDIn (eVar 4) (eVar 2))) (sApp 3 (eIf (tOf (eBin (gEq false) (eDGet (eVar 2) (eVar 4)) (eC (.str "P")))) (eTup aNil) (eTup (aCons (eDGet (eVar 2) (eVar 4)) aNil)))) (sApp 3 (eU (mP 2 m_joined_rows) (aCons (eBin gIx (eOwn 3) (eVar 6)) (aCons (eBin gIx (eOwn 3) (eVar 7)) aNil)) aNil)))) (fun ρ => (sRet (eVar 3)) (freeze 3 ρ))))
def m_node_rows : List D → Option D := runB 8 b_node_rows
theorem bk_node_rows (T : Txt K mg) : BodyOk P w K mg base ["n", "cells", "stuck", "found", "index", "position", "upper", "lower"] "node_rows" (defScope s_node_rows) (defBody s_node_rows) 1 (t_node_rows K) := fun f cdv A outer s H E hr =>
  (pss_cons (ps_setLc (i := 3) (own := [("position", 5)]) rfl sc_node_rows.nd rfl rfl (sw_true rfl rfl rfl (by decide +kernel)) (pi_range1 (by rfl) T.b_range (pa_cons (pe_op op_add (pv 0) pe_int) pa_nil)) (blkOk_by (by rfl)) (fun _ _ _ _ _ => (pg_name (i := 5) sc_node_rows.nd rfl (by first | exact Or.inl rfl | exact Or.inr rfl))) (fun _ _ _ _ _ => pts_nil) (fun _ _ _ _ _ => (pe_tup (pa_cons (pv 5) pa_nil)))) (pss_cons (ps_for PassesOwn.never rfl (CPX.pi_enumT (by rfl) T.b_enumerate (pa_cons (pv 1) pa_nil)) (pg_tup rfl (pgs_cons (pg_name (i := 4) sc_node_rows.nd rfl (by first | exact Or.inl rfl | exact Or.inr rfl)) (pgs_cons (pg_tup rfl (pgs_cons (pg_name (i := 6) sc_node_rows.nd rfl (by first | exact Or.inl rfl | exact Or.inr rfl)) (pgs_cons (pg_name (i := 7) sc_node_rows.nd rfl (by first | exact Or.inl rfl | exact Or.inr rfl)) pgs_nil))) pgs_nil))) (pss_one (ps_if (pt_cmp (pc_din (hu_of hr) (pv 4) (pv 2))) (pss_one (ps_expr (pe_bm PySem.F.plainAttrs_list PySem.F.slot_list_append PySem.F.type_list_append mt_append (pv 3) (pa_cons (pe_ifExp (pt_cmpR op_eq (pe_dget (hu_of hr) (pv 2) (pv 4) (fun _ _ => rfl)) (pe_glb T.c_PASS (by rfl)) (nomark _)) (pe_tup pa_nil) (pe_tup (pa_cons (pe_dget (hu_of hr) (pv 2) (pv 4) (fun _ _ => rfl)) pa_nil))) pa_nil)))) (pss_one (ps_expr (pe_bm PySem.F.plainAttrs_list PySem.F.slot_list_append PySem.F.type_list_append mt_append (pv 3) (pa_cons (pe_u (g_joined_rows T) (hr.mono (by decide)) (by rfl) (pa_cons (pe_ix ix_seq (pv 3) (pv 6) (fun _ _ => rfl)) (pa_cons (pe_ix ix_seq (pv 3) (pv 7) (fun _ _ => rfl)) pa_nil))) pa_nil))))))) (pss_one (ps_ret (pv 3)))))
theorem sm_node_rows (T : Txt K mg) : SmS (WK K) (t_node_rows K) b_node_rows :=
  (sms_seq (sms_asgO (sml_lc (vs := [5]) (smi_r1 (sma_cons (sm_op s_add (Sm.b sm_var) (Sm.b sm_int)) sma_nil)) tgs_name (by decide) smt_yes (sm_tup (sma_cons sm_var sma_nil)))) (sms_seq (sms_for (smi_enumT sm_var) (tgs_tup (tgss_cons tgs_name (tgss_cons (tgs_tup (tgss_cons tgs_name (tgss_cons tgs_name tgss_nil))) tgss_nil))) (sms_if (smt_B (sm_din sm_var sm_var)) (sms_app (sm_if (smt_T (sm_op s_eq (Sm.b (sm_dget sm_var sm_var)) (Sm.b sm_str))) (sm_tup sma_nil) (sm_tup (sma_cons (sm_dget sm_var sm_var) sma_nil)))) (sms_app (sm_u (sma_cons (sm_op s_ix smb_own (Sm.b sm_var)) (sma_cons (sm_op s_ix smb_own (Sm.b sm_var)) sma_nil)) sma_nil)))) (sms_freeze 3 (sms_ret sm_var))))
theorem g_node_rows (T : Txt K mg) : GoodD P w K mg base (WK K) 2 "node_rows" [] (mP 3 m_node_rows) := by
  obtain ⟨f, fd, hm, F⟩ := T.f_node_rows
  exact good_of hm F (ok_def F sc_node_rows (bk_node_rows T) (sm_node_rows T)) (F.bindsN fun _ _ _ _ _ _ us hl => match us, hl with | [_, _, _], _ => rfl)
theorem sc_ends_with_letter : FnScope ["row"] ["row"] (defScope s_ends_with_letter) := ⟨rfl, rfl, rfl, by decide +kernel, rfl, by decide +kernel, by decide +kernel⟩
def t_ends_with_letter (K : PySem.W.Frag) : TS := (tRet (tAndV (tIsi K "str" (tOp (rIx K) (tVar 0) (tUn (rU fun i => .int (-i)) (tC (.int 1))))) (tOp (rIn K false) (tOp (rIx K) (tVar 0) (tUn (rU fun i => .int (-i)) (tC (.int 1)))) (tTup (tCons (tC (.str "G")) (tCons (tC (.str "K")) tNil))))))
def b_ends_with_letter : MS := (sRet (eAndV (eIsi "str" (eBin gIx (eVar 0) (eNeg (eC (.int 1))))) (eBin (gIn false) (eBin gIx (eVar 0) (eNeg (eC (.int 1)))) (eTup (aCons (eC (.str "G")) (aCons (eC (.str "K")) aNil))))))
def m_ends_with_letter : List D → Option D := runB 1 b_ends_with_letter
theorem bk_ends_with_letter (T : Txt K mg) : BodyOk P w K mg base ["row"] "ends_with_letter" (defScope s_ends_with_letter) (defBody s_ends_with_letter) 0 (t_ends_with_letter K) := fun f cdv A outer s H E hr =>
  (pss_one (ps_ret (pe_and (pe_callB call_isi (by rfl) T.b_isinstance (by decide +kernel) (pa_cons (pe_ix ix_seq (pv 0) (pe_un un_neg pe_int) (fun _ _ => rfl)) (pa_cons (pe_bltn (by rfl) T.b_str (by decide +kernel) rfl) pa_nil))) (pe_one (pe_cmpR op_in_seq (pe_ix ix_seq (pv 0) (pe_un un_neg pe_int) (fun _ _ => rfl)) (pe_tup (pa_cons (pe_glb T.c_GENERATE (by rfl)) (pa_cons (pe_glb T.c_KILL (by rfl)) pa_nil))) (by rfl))))))
theorem sm_ends_with_letter (T : Txt K mg) : SmS (WK K) (t_ends_with_letter K) b_ends_with_letter :=
  (sms_ret (sm_andV (sm_isi (Sm.b (sm_op s_ix (Sm.b sm_var) (Sm.b (sm_neg sm_int))))) (sm_op s_in (Sm.b (sm_op s_ix (Sm.b sm_var) (Sm.b (sm_neg sm_int)))) (Sm.b (sm_tup (sma_cons sm_str (sma_cons sm_str sma_nil)))))))
theorem g_ends_with_letter (T : Txt K mg) : GoodD P w K mg base (WK K) 1 "ends_with_letter" [] (mP 1 m_ends_with_letter) := by
  obtain ⟨f, fd, hm, F⟩ := T.f_ends_with_letter
  exact good_of hm F (ok_def F sc_ends_with_letter (bk_ends_with_letter T) (sm_ends_with_letter T)) (F.bindsN fun _ _ _ _ _ _ us hl => match us, hl with | [_], _ => rfl)
theorem sc_are_row_positions : FnScope ["n", "values", "ring", "value"] ["n", "values", "ring"] (defScope s_are_row_positions) := ⟨rfl, rfl, rfl, by decide +kernel, rfl, by decide +kernel, by decide +kernel⟩
def t_are_row_positions (K : PySem.W.Frag) : TS := (tSeq (tIfS (tNot (tB (tCB (rAll K) (tCons (tLc (iTup K (tVar 1)) (gName 3) tYes (tU (spD (WK K) 0 (mP 3 m_is_between)) (tCons (tVar 3) (tCons (tCB (fun xs H Q => (∃ i, xs = [.int i] ∧ Q (.int i) H) ∨ ∃ k, xs = [.bl k] ∧ Q (.int (if k then 1 else 0)) H) (tCons (tVar 2) tNil)) (tCons (tVar 0) tNil))) tNil) [3]) tNil)))) (tRet (tC (.bl false))) tNext) (tRet (tAndV (tOp rEq (CPX.tLenSetT K (tVar 1)) (tCB (fun xs H Q => ∃ x n, xs = [x] ∧ LenV K x H n ∧ Q (.int n) H) (tCons (tVar 1) tNil))) (tOp (rIn K true) (tC (.int 0)) (tSl (rSlA K) (tVar 1) tNoPart (tPart (tUn (rU fun i => .int (-i)) (tC (.int 1)))))))))
def b_are_row_positions : MS := (sSeq (sIf (mNot (tOf (eCall cAll (aCons (eNew (aComp [3] (iTp (eVar 1)) (gN 3) (fun _ => some true) (eU (mP 3 m_is_between) (aCons (eVar 3) (aCons (eCall cInt (aCons (eVar 2) aNil)) (aCons (eVar 0) aNil))) aNil))) aNil)))) (sRet (eC (.bool false))) sNext) (sRet (eAndV (eBin (gEq false) (eLenSet (eVar 1)) (eCall cLen (aCons (eVar 1) aNil))) (eBin (gIn true) (eC (.int 0)) (eSlT (eVar 1) oNone (oSome (eNeg (eC (.int 1)))))))))
def m_are_row_positions : List D → Option D := runB 4 b_are_row_positions
theorem bk_are_row_positions (T : Txt K mg) : BodyOk P w K mg base ["n", "values", "ring", "value"] "are_row_positions" (defScope s_are_row_positions) (defBody s_are_row_positions) 1 (t_are_row_positions K) := fun f cdv A outer s H E hr =>
  (pss_cons (ps_if (pt_not (pt_val (pe_callB (cr_all rfl) (by rfl) T.b_all (by decide +kernel) (pa_cons (pe_lc (own := [("value", 3)]) rfl sc_are_row_positions.nd (pi_tup (pv 1)) (blkOk_by (by rfl)) (fun _ _ _ _ _ => (pg_name (i := 3) sc_are_row_positions.nd rfl (by first | exact Or.inl rfl | exact Or.inr rfl))) (fun _ _ _ _ _ => pts_nil) (fun _ _ _ _ _ => (pe_u (g_is_between T) (hr.mono (by decide)) (by rfl) (pa_cons (pv 3) (pa_cons (pe_callTy call_int1 (by rfl) T.b_int (by decide +kernel) (pa_cons (pv 2) pa_nil)) (pa_cons (pv 0) pa_nil)))))) pa_nil)))) (pss_one (ps_ret pe_bl)) pss_nil) (pss_one (ps_ret (pe_and (pe_cmpR op_eq (CPX.pe_lenSetT (by rfl) T.b_len (by rfl) T.b_set (pv 1)) (pe_callB call_len (by rfl) T.b_len (by decide +kernel) (pa_cons (pv 1) pa_nil)) (nomark _)) (pe_one (pe_cmpR op_notIn_seq pe_int (pe_slice sl_tupA (pv 1) po_none (po_some (pe_un un_neg pe_int))) (by rfl)))))))
theorem sm_are_row_positions (T : Txt K mg) : SmS (WK K) (t_are_row_positions K) b_are_row_positions :=
  (sms_seq (sms_if (smt_not (smt_B (sm_cb cs_all (smab_cons (Sm.b (sm_of_l (sml_lc (vs := [3]) (smi_tup sm_var) tgs_name (by decide) smt_yes (sm_u (sma_cons sm_var (sma_cons (sm_cb cs_int (smab_cons (Sm.b sm_var) (SmA.b sma_nil))) (sma_cons sm_var sma_nil))) sma_nil)))) (SmA.b sma_nil))))) (sms_ret sm_bl) sms_next) (sms_ret (sm_andV (sm_op s_eq (Sm.b (sm_lenSet sm_var)) (Sm.b (sm_cb cs_len (smab_cons (Sm.b sm_var) (SmA.b sma_nil))))) (sm_op s_in (Sm.b sm_int) (Sm.b (sm_slT sm_var smo_none (smo_some (sm_neg sm_int))))))))
theorem g_are_row_positions (T : Txt K mg) : GoodD P w K mg base (WK K) 2 "are_row_positions" [] (mP 3 m_are_row_positions) := by
  obtain ⟨f, fd, hm, F⟩ := T.f_are_row_positions
  exact good_of hm F (ok_def F sc_are_row_positions (bk_are_row_positions T) (sm_are_row_positions T)) (F.bindsN fun _ _ _ _ _ _ us hl => match us, hl with | [_, _, _], _ => rfl)
theorem sc_need_row : FnScope ["n", "row", "ring", "positions"] ["n", "row", "ring"] (defScope s_need_row) := ⟨rfl, rfl, rfl, by decide +kernel, rfl, by decide +kernel, by decide +kernel⟩
def t_need_row (K : PySem.W.Frag) : TS := (tSeq (tIfS (tOr (tNot (tB (tIsi K "tuple" (tVar 1)))) (tTest (tOp (rEqD K) (tVar 1) (tTup tNil)))) tNever tNext) (tSeq (tAsg (tVar 1) (gName 3)) (tSeq (tIfS (tAnd (tNot (tB (tVar 2))) (tB (tU (spD (WK K) 0 (mP 1 m_ends_with_letter)) (tCons (tVar 1) tNil) tNil))) (tAsg (tSl (rSlA K) (tVar 1) tNoPart (tPart (tUn (rU fun i => .int (-i)) (tC (.int 1))))) (gName 3)) tNext) (tIfS (tOr (tNot (tB (tU (spD (WK K) 0 (mP 3 m_are_row_positions)) (tCons (tVar 0) (tCons (tVar 3) (tCons (tVar 2) tNil))) tNil))) (tAnd (tTest (tOp (rI0 fun i j => .bl (decide (i < j))) (tCB (fun xs H Q => ∃ x n, xs = [x] ∧ LenV K x H n ∧ Q (.int n) H) (tCons (tVar 3) tNil)) (tCB (fun xs H Q => ∃ x n, xs = [x] ∧ LenV K x H n ∧ Q (.int n) H) (tCons (tVar 1) tNil)))) (tTest (tOp (rIn K false) (tC (.int 0)) (tVar 3))))) tNever tNext))))
def b_need_row : MS := (sSeq (sIf (mOr (mNot (tOf (eIsi "tuple" (eVar 1)))) (tOf (eBin (gEqD false) (eVar 1) (eTup aNil)))) sNever sNext) (sSeq (sAsg (eVar 1) (gN 3)) (sSeq (sIf (mAnd (mNot (tOf (eVar 2))) (tOf (eU (mP 1 m_ends_with_letter) (aCons (eVar 1) aNil) aNil))) (sAsg (eSlT (eVar 1) oNone (oSome (eNeg (eC (.int 1))))) (gN 3)) sNext) (sIf (mOr (mNot (tOf (eU (mP 3 m_are_row_positions) (aCons (eVar 0) (aCons (eVar 3) (aCons (eVar 2) aNil))) aNil))) (mAnd (tOf (eBin gLt (eCall cLen (aCons (eVar 3) aNil)) (eCall cLen (aCons (eVar 1) aNil)))) (tOf (eBin (gIn false) (eC (.int 0)) (eVar 3))))) sNever sNext))))
def m_need_row : List D → Option D := runB 4 b_need_row
theorem bk_need_row (T : Txt K mg) : BodyOk P w K mg base ["n", "row", "ring", "positions"] "need_row" (defScope s_need_row) (defBody s_need_row) 2 (t_need_row K) := fun f cdv A outer s H E hr =>
  (pss_cons (ps_if (PW.pt (pw_or (pt_not (pt_val (pe_callB call_isi (by rfl) T.b_isinstance (by decide +kernel) (pa_cons (pv 1) (pa_cons (pe_bltn (by rfl) T.b_tuple (by decide +kernel) rfl) pa_nil))))) (pw_or1 (pt_cmpR (op_eqD hr.units) (pv 1) (pe_tup pa_nil) (nomark _))))) (pss_one (ps_never)) pss_nil) (pss_cons (ps_set (i := 3) sc_need_row.nd rfl (by first | exact Or.inl rfl | exact Or.inr rfl) (pv 1)) (pss_cons (ps_if (PW.pt (pw_and (pt_not (pt_val (pv 2))) (pw_and1 (pt_val (pe_u (g_ends_with_letter T) (hr.mono (by decide)) (by rfl) (pa_cons (pv 1) pa_nil)))))) (pss_one (ps_set (i := 3) sc_need_row.nd rfl (by first | exact Or.inl rfl | exact Or.inr rfl) (pe_slice sl_tupA (pv 1) po_none (po_some (pe_un un_neg pe_int))))) pss_nil) (pss_one (ps_if (PW.pt (pw_or (pt_not (pt_val (pe_u (g_are_row_positions T) (hr.mono (by decide)) (by rfl) (pa_cons (pv 0) (pa_cons (pv 3) (pa_cons (pv 2) pa_nil)))))) (pw_or1 (PW.pt (pw_and (pt_cmpR op_lt (pe_callB call_len (by rfl) T.b_len (by decide +kernel) (pa_cons (pv 3) pa_nil)) (pe_callB call_len (by rfl) T.b_len (by decide +kernel) (pa_cons (pv 1) pa_nil)) (nomark _)) (pw_and1 (pt_cmpR op_in_seq pe_int (pv 3) (by rfl)))))))) (pss_one (ps_never)) pss_nil)))))
theorem sm_need_row (T : Txt K mg) : SmS (WK K) (t_need_row K) b_need_row :=
  (sms_seq (sms_if (smt_or (smt_not (smt_B (sm_isi (Sm.b sm_var)))) (smt_T (sm_op s_eqD (Sm.b sm_var) (Sm.b (sm_tup sma_nil))))) sms_never sms_next) (sms_seq (sms_asg sm_var tgs_name) (sms_seq (sms_if (smt_and (smt_not (smt_B sm_var)) (smt_B (sm_u (sma_cons sm_var sma_nil) sma_nil))) (sms_asg (sm_slT sm_var smo_none (smo_some (sm_neg sm_int))) tgs_name) sms_next) (sms_if (smt_or (smt_not (smt_B (sm_u (sma_cons sm_var (sma_cons sm_var (sma_cons sm_var sma_nil))) sma_nil))) (smt_and (smt_T (sm_op s_lt (Sm.b (sm_cb cs_len (smab_cons (Sm.b sm_var) (SmA.b sma_nil)))) (Sm.b (sm_cb cs_len (smab_cons (Sm.b sm_var) (SmA.b sma_nil)))))) (smt_T (sm_op s_in (Sm.b sm_int) (Sm.b sm_var))))) sms_never sms_next))))
theorem g_need_row (T : Txt K mg) : GoodD P w K mg base (WK K) 3 "need_row" [] (mP 3 m_need_row) := by
  obtain ⟨f, fd, hm, F⟩ := T.f_need_row
  exact good_of hm F (ok_def F sc_need_row (bk_need_row T) (sm_need_row T)) (F.bindsN fun _ _ _ _ _ _ us hl => match us, hl with | [_, _, _], _ => rfl)
end
end CP
/-! part CpO -/
set_option Elab.async false
set_option linter.all false
set_option maxRecDepth 100000
set_option maxHeartbeats 4000000
namespace CP
open PySem PySem.Spec PyProof.Rows L2 CPH
section
variable {P : Program} {w : World} {K : PySem.W.Frag} {mg : Str → Option Value} {base : Heap}
theorem sc_holds_index : FnScope ["trials", "thing", "output", "due", "place", "option"] ["trials", "thing", "output", "due", "place", "option"] (defScope s_holds_index) := ⟨rfl, rfl, rfl, by decide +kernel, rfl, by decide +kernel, by decide +kernel⟩
def t_holds_index (K : PySem.W.Frag) : TS := (tSeq (tIfS (tOr (tNot (tB (tU (spD (WK K) 0 (mP 3 m_is_between)) (tCons (tVar 1) (tCons (tC (.int 0)) (tCons (tOp (rI0 fun i j => .int (i - j)) (tCB (fun xs H Q => ∃ x n, xs = [x] ∧ LenV K x H n ∧ Q (.int n) H) (tCons (tVar 0) tNil)) (tC (.int 1))) tNil))) tNil))) (tTest (tOp (rI0 fun i j => .bl (decide (i < j))) (tU (spD (WK K) 0 (mP 2 m_leading_passes)) (tCons (tOp (rIx K) (tVar 0) (tVar 1)) (tCons (tVar 3) tNil)) tNil) (tVar 4)))) (tRet (tC (.bl false))) tNext) (tRet (tU (spD (WK K) 0 (mP 3 m_is_refuted)) (tCons (tOp (rIx K) (tVar 0) (tVar 1)) (tCons (tVar 5) (tCons (tU (spD (WK K) 0 (mP 2 m_true_carry)) (tCons (tOp (rIx K) (tVar 0) (tVar 1)) (tCons (tVar 2) tNil)) tNil) tNil))) tNil)))
def b_holds_index : MS := (sSeq (sIf (mOr (mNot (tOf (eU (mP 3 m_is_between) (aCons (eVar 1) (aCons (eC (.int 0)) (aCons (eBin gSubI (eCall cLen (aCons (eVar 0) aNil)) (eC (.int 1))) aNil))) aNil))) (tOf (eBin gLt (eU (mP 2 m_leading_passes) (aCons (eBin gIx (eVar 0) (eVar 1)) (aCons (eVar 3) aNil)) aNil) (eVar 4)))) (sRet (eC (.bool false))) sNext) (sRet (eU (mP 3 m_is_refuted) (aCons (eBin gIx (eVar 0) (eVar 1)) (aCons (eVar 5) (aCons (eU (mP 2 m_true_carry) (aCons (eBin gIx (eVar 0) (eVar 1)) (aCons (eVar 2) aNil)) aNil) aNil))) aNil)))
def m_holds_index : List D → Option D := runB 6 b_holds_index
theorem bk_holds_index (T : Txt K mg) : BodyOk P w K mg base ["trials", "thing", "output", "due", "place", "option"] "holds_index" (defScope s_holds_index) (defBody s_holds_index) 3 (t_holds_index K) := fun f cdv A outer s H E hr =>
  (pss_cons (ps_if (PW.pt (pw_or (pt_not (pt_val (pe_u (g_is_between T) (hr.mono (by decide)) (by rfl) (pa_cons (pv 1) (pa_cons pe_int (pa_cons (pe_op op_sub (pe_callB call_len (by rfl) T.b_len (by decide +kernel) (pa_cons (pv 0) pa_nil)) pe_int) pa_nil)))))) (pw_or1 (pt_cmpR op_lt (pe_u (g_leading_passes T) (hr.mono (by decide)) (by rfl) (pa_cons (pe_ix ix_seq (pv 0) (pv 1) (fun _ _ => rfl)) (pa_cons (pv 3) pa_nil))) (pv 4) (nomark _))))) (pss_one (ps_ret pe_bl)) pss_nil) (pss_one (ps_ret (pe_u (g_is_refuted T) (hr.mono (by decide)) (by rfl) (pa_cons (pe_ix ix_seq (pv 0) (pv 1) (fun _ _ => rfl)) (pa_cons (pv 5) (pa_cons (pe_u (g_true_carry T) (hr.mono (by decide)) (by rfl) (pa_cons (pe_ix ix_seq (pv 0) (pv 1) (fun _ _ => rfl)) (pa_cons (pv 2) pa_nil))) pa_nil)))))))
theorem sm_holds_index (T : Txt K mg) : SmS (WK K) (t_holds_index K) b_holds_index :=
  (sms_seq (sms_if (smt_or (smt_not (smt_B (sm_u (sma_cons sm_var (sma_cons sm_int (sma_cons (sm_op s_sub (Sm.b (sm_cb cs_len (smab_cons (Sm.b sm_var) (SmA.b sma_nil)))) (Sm.b sm_int)) sma_nil))) sma_nil))) (smt_T (sm_op s_lt (Sm.b (sm_u (sma_cons (sm_op s_ix (Sm.b sm_var) (Sm.b sm_var)) (sma_cons sm_var sma_nil)) sma_nil)) (Sm.b sm_var)))) (sms_ret sm_bl) sms_next) (sms_ret (sm_u (sma_cons (sm_op s_ix (Sm.b sm_var) (Sm.b sm_var)) (sma_cons sm_var (sma_cons (sm_u (sma_cons (sm_op s_ix (Sm.b sm_var) (Sm.b sm_var)) (sma_cons sm_var sma_nil)) sma_nil) sma_nil))) sma_nil)))
theorem g_holds_index (T : Txt K mg) : GoodD P w K mg base (WK K) 4 "holds_index" [] (mP 6 m_holds_index) := by
  obtain ⟨f, fd, hm, F⟩ := T.f_holds_index
  exact good_of hm F (ok_def F sc_holds_index (bk_holds_index T) (sm_holds_index T)) (F.bindsN fun _ _ _ _ _ _ us hl => match us, hl with | [_, _, _, _, _, _], _ => rfl)
theorem sc_holds_table : FnScope ["n", "trials", "thing", "output", "ring", "stuck", "due", "places", "place", "options", "option", "index"] ["n", "trials", "thing", "output", "ring", "stuck"] (defScope s_holds_table) := ⟨rfl, rfl, rfl, by decide +kernel, rfl, by decide +kernel, by decide +kernel⟩
def t_holds_table (K : PySem.W.Frag) : TS := (tSeq (tAsg (tU (spD (WK K) 0 (mP 3 m_due_positions)) (tCons (tVar 0) (tCons (tVar 3) (tCons (tVar 4) tNil))) tNil) (gName 6)) (tSeq (tAsg (tU (spD (WK K) 0 (mP 4 m_options_of)) (tCons (tVar 0) (tCons (tVar 3) (tCons (tVar 4) (tCons (tVar 5) tNil)))) tNil) (gName 7)) (tSeq (tIfS (tNot (tB (tU (spD (WK K) 0 (mP 2 m_is_row)) (tCons (tVar 2) (tCons (tCB (fun xs H Q => ∃ x n, xs = [x] ∧ LenV K x H n ∧ Q (.int n) H) (tCons (tVar 7) tNil)) tNil)) tNil))) (tRet (tC (.bl false))) tNext) (tSeq (tFor (iEnum K (tCons (tVar 7) tNil)) (gTup K 2 (gCons (gName 8) (gCons (gName 9) gNil))) (tSeq (tIfS (tNot (tB (tU (spD (WK K) 0 (mP 2 m_is_row)) (tCons (tOp (rIx K) (tVar 2) (tVar 8)) (tCons (tCB (fun xs H Q => ∃ x n, xs = [x] ∧ LenV K x H n ∧ Q (.int n) H) (tCons (tVar 9) tNil)) tNil)) tNil))) (tRet (tC (.bl false))) tNext) (tFor (CPX.iZipM K (tCons (tVar 9) (tCons (tOp (rIx K) (tVar 2) (tVar 8)) tNil))) (gTup K 2 (gCons (gName 10) (gCons (gName 11) gNil))) (tIfS (tNot (tB (tU (spD (WK K) 0 (mP 6 m_holds_index)) (tCons (tVar 1) (tCons (tVar 11) (tCons (tVar 3) (tCons (tVar 6) (tCons (tVar 8) (tCons (tVar 10) tNil)))))) tNil))) (tRet (tC (.bl false))) tNext)))) (tRet (tC (.bl true)))))))
def b_holds_table : MS := (sSeq (sAsg (eU (mP 3 m_due_positions) (aCons (eVar 0) (aCons (eVar 3) (aCons (eVar 4) aNil))) aNil) (gN 6)) (sSeq (sAsg (eU (mP 4 m_options_of) (aCons (eVar 0) (aCons (eVar 3) (aCons (eVar 4) (aCons (eVar 5) aNil)))) aNil) (gN 7)) (sSeq (sIf (mNot (tOf (eU (mP 2 m_is_row) (aCons (eVar 2) (aCons (eCall cLen (aCons (eVar 7) aNil)) aNil)) aNil))) (sRet (eC (.bool false))) sNext) (sSeq (sFor (iEn (eVar 7)) (gTp (gCons0 (gN 8) (gCons0 (gN 9) gNil0)) 2) (sSeq (sIf (mNot (tOf (eU (mP 2 m_is_row) (aCons (eBin gIx (eVar 2) (eVar 8)) (aCons (eCall cLen (aCons (eVar 9) aNil)) aNil)) aNil))) (sRet (eC (.bool false))) sNext) (sFor (iZpE lstOf tupOf (eVar 9) (eBin gIx (eVar 2) (eVar 8))) (gTp (gCons0 (gN 10) (gCons0 (gN 11) gNil0)) 2) (sIf (mNot (tOf (eU (mP 6 m_holds_index) (aCons (eVar 1) (aCons (eVar 11) (aCons (eVar 3) (aCons (eVar 6) (aCons (eVar 8) (aCons (eVar 10) aNil)))))) aNil))) (sRet (eC (.bool false))) sNext)))) (sRet (eC (.bool true)))))))
def m_holds_table : List D → Option D := runB 12 b_holds_table
theorem bk_holds_table (T : Txt K mg) : BodyOk P w K mg base ["n", "trials", "thing", "output", "ring", "stuck", "due", "places", "place", "options", "option", "index"] "holds_table" (defScope s_holds_table) (defBody s_holds_table) 4 (t_holds_table K) := fun f cdv A outer s H E hr =>
  (pss_cons (ps_set (i := 6) sc_holds_table.nd rfl (by first | exact Or.inl rfl | exact Or.inr rfl) (pe_u (g_due_positions T) (hr.mono (by decide)) (by rfl) (pa_cons (pv 0) (pa_cons (pv 3) (pa_cons (pv 4) pa_nil))))) (pss_cons (ps_set (i := 7) sc_holds_table.nd rfl (by first | exact Or.inl rfl | exact Or.inr rfl) (pe_u (g_options_of T) (hr.mono (by decide)) (by rfl) (pa_cons (pv 0) (pa_cons (pv 3) (pa_cons (pv 4) (pa_cons (pv 5) pa_nil)))))) (pss_cons (ps_if (pt_not (pt_val (pe_u (g_is_row T) (hr.mono (by decide)) (by rfl) (pa_cons (pv 2) (pa_cons (pe_callB call_len (by rfl) T.b_len (by decide +kernel) (pa_cons (pv 7) pa_nil)) pa_nil))))) (pss_one (ps_ret pe_bl)) pss_nil) (pss_cons (ps_for PassesOwn.never rfl (pi_enum (by rfl) T.b_enumerate (pa_cons (pv 7) pa_nil)) (pg_tup rfl (pgs_cons (pg_name (i := 8) sc_holds_table.nd rfl (by first | exact Or.inl rfl | exact Or.inr rfl)) (pgs_cons (pg_name (i := 9) sc_holds_table.nd rfl (by first | exact Or.inl rfl | exact Or.inr rfl)) pgs_nil))) (pss_cons (ps_if (pt_not (pt_val (pe_u (g_is_row T) (hr.mono (by decide)) (by rfl) (pa_cons (pe_ix ix_seq (pv 2) (pv 8) (fun _ _ => rfl)) (pa_cons (pe_callB call_len (by rfl) T.b_len (by decide +kernel) (pa_cons (pv 9) pa_nil)) pa_nil))))) (pss_one (ps_ret pe_bl)) pss_nil) (pss_one (ps_for PassesOwn.never rfl (CPX.pi_zipM (by rfl) T.b_zip (pa_cons (pv 9) (pa_cons (pe_ix ix_seq (pv 2) (pv 8) (fun _ _ => rfl)) pa_nil))) (pg_tup rfl (pgs_cons (pg_name (i := 10) sc_holds_table.nd rfl (by first | exact Or.inl rfl | exact Or.inr rfl)) (pgs_cons (pg_name (i := 11) sc_holds_table.nd rfl (by first | exact Or.inl rfl | exact Or.inr rfl)) pgs_nil))) (pss_one (ps_if (pt_not (pt_val (pe_u (g_holds_index T) (hr.mono (by decide)) (by rfl) (pa_cons (pv 1) (pa_cons (pv 11) (pa_cons (pv 3) (pa_cons (pv 6) (pa_cons (pv 8) (pa_cons (pv 10) pa_nil))))))))) (pss_one (ps_ret pe_bl)) pss_nil)))))) (pss_one (ps_ret pe_bl))))))
theorem sm_holds_table (T : Txt K mg) : SmS (WK K) (t_holds_table K) b_holds_table :=
  (sms_seq (sms_asg (sm_u (sma_cons sm_var (sma_cons sm_var (sma_cons sm_var sma_nil))) sma_nil) tgs_name) (sms_seq (sms_asg (sm_u (sma_cons sm_var (sma_cons sm_var (sma_cons sm_var (sma_cons sm_var sma_nil)))) sma_nil) tgs_name) (sms_seq (sms_if (smt_not (smt_B (sm_u (sma_cons sm_var (sma_cons (sm_cb cs_len (smab_cons (Sm.b sm_var) (SmA.b sma_nil))) sma_nil)) sma_nil))) (sms_ret sm_bl) sms_next) (sms_seq (sms_for (smi_enum sm_var) (tgs_tup (tgss_cons tgs_name (tgss_cons tgs_name tgss_nil))) (sms_seq (sms_if (smt_not (smt_B (sm_u (sma_cons (sm_op s_ix (Sm.b sm_var) (Sm.b sm_var)) (sma_cons (sm_cb cs_len (smab_cons (Sm.b sm_var) (SmA.b sma_nil))) sma_nil)) sma_nil))) (sms_ret sm_bl) sms_next) (sms_for (smi_zipM sm_var (sm_op s_ix (Sm.b sm_var) (Sm.b sm_var))) (tgs_tup (tgss_cons tgs_name (tgss_cons tgs_name tgss_nil))) (sms_if (smt_not (smt_B (sm_u (sma_cons sm_var (sma_cons sm_var (sma_cons sm_var (sma_cons sm_var (sma_cons sm_var (sma_cons sm_var sma_nil)))))) sma_nil))) (sms_ret sm_bl) sms_next)))) (sms_ret sm_bl)))))
theorem g_holds_table (T : Txt K mg) : GoodD P w K mg base (WK K) 5 "holds_table" [] (mP 6 m_holds_table) := by
  obtain ⟨f, fd, hm, F⟩ := T.f_holds_table
  exact good_of hm F (ok_def F sc_holds_table (bk_holds_table T) (sm_holds_table T)) (F.bindsN fun _ _ _ _ _ _ us hl => match us, hl with | [_, _, _, _, _, _], _ => rfl)
theorem sc_is_letter : FnScope ["thing"] ["thing"] (defScope s_is_letter) := ⟨rfl, rfl, rfl, by decide +kernel, rfl, by decide +kernel, by decide +kernel⟩
def t_is_letter (K : PySem.W.Frag) : TS := (tRet (tAndV (tIsi K "str" (tVar 0)) (tOp (rIn K false) (tVar 0) (tTup (tCons (tC (.str "G")) (tCons (tC (.str "K")) tNil))))))
def b_is_letter : MS := (sRet (eAndV (eIsi "str" (eVar 0)) (eBin (gIn false) (eVar 0) (eTup (aCons (eC (.str "G")) (aCons (eC (.str "K")) aNil))))))
def m_is_letter : List D → Option D := runB 1 b_is_letter
theorem bk_is_letter (T : Txt K mg) : BodyOk P w K mg base ["thing"] "is_letter" (defScope s_is_letter) (defBody s_is_letter) 0 (t_is_letter K) := fun f cdv A outer s H E hr =>
  (pss_one (ps_ret (pe_and (pe_callB call_isi (by rfl) T.b_isinstance (by decide +kernel) (pa_cons (pv 0) (pa_cons (pe_bltn (by rfl) T.b_str (by decide +kernel) rfl) pa_nil))) (pe_one (pe_cmpR op_in_seq (pv 0) (pe_tup (pa_cons (pe_glb T.c_GENERATE (by rfl)) (pa_cons (pe_glb T.c_KILL (by rfl)) pa_nil))) (by rfl))))))
theorem sm_is_letter (T : Txt K mg) : SmS (WK K) (t_is_letter K) b_is_letter :=
  (sms_ret (sm_andV (sm_isi (Sm.b sm_var)) (sm_op s_in (Sm.b sm_var) (Sm.b (sm_tup (sma_cons sm_str (sma_cons sm_str sma_nil)))))))
theorem g_is_letter (T : Txt K mg) : GoodD P w K mg base (WK K) 1 "is_letter" [] (mP 1 m_is_letter) := by
  obtain ⟨f, fd, hm, F⟩ := T.f_is_letter
  exact good_of hm F (ok_def F sc_is_letter (bk_is_letter T) (sm_is_letter T)) (F.bindsN fun _ _ _ _ _ _ us hl => match us, hl with | [_], _ => rfl)
theorem sc_is_row_of : FnScope ["n", "thing", "ring", "stuck", "places", "entry"] ["n", "thing", "ring", "stuck"] (defScope s_is_row_of) := ⟨rfl, rfl, rfl, by decide +kernel, rfl, by decide +kernel, by decide +kernel⟩
def t_is_row_of (K : PySem.W.Frag) : TS := (tSeq (tIfS (tOr (tNot (tB (tIsi K "tuple" (tVar 1)))) (tTest (tOp (rEqD K) (tVar 1) (tTup tNil)))) (tRet (tC (.bl false))) tNext) (tSeq (tAsg (tIf (tAnd (tB (tVar 3)) (tB (tU (spD (WK K) 0 (mP 1 m_is_letter)) (tCons (tOp (rIx K) (tVar 1) (tUn (rU fun i => .int (-i)) (tC (.int 1)))) tNil) tNil))) (tSl (rSlA K) (tVar 1) tNoPart (tPart (tUn (rU fun i => .int (-i)) (tC (.int 1))))) (tVar 1)) (gName 4)) (tSeq (tIfS (tOr (tNot (tB (tCB (rAll K) (tCons (tLc (iTup K (tVar 4)) (gName 5) tYes (tU (spD (WK K) 0 (mP 3 m_is_between)) (tCons (tVar 5) (tCons (tCB (fun xs H Q => (∃ i, xs = [.int i] ∧ Q (.int i) H) ∨ ∃ k, xs = [.bl k] ∧ Q (.int (if k then 1 else 0)) H) (tCons (tVar 2) tNil)) (tCons (tVar 0) tNil))) tNil) [5]) tNil)))) (tTest (tOp rNe (CPX.tLenSetT K (tVar 4)) (tCB (fun xs H Q => ∃ x n, xs = [x] ∧ LenV K x H n ∧ Q (.int n) H) (tCons (tVar 4) tNil))))) (tRet (tC (.bl false))) tNext) (tRet (tOp (rIn K true) (tC (.int 0)) (tSl (rSlA K) (tVar 1) tNoPart (tPart (tUn (rU fun i => .int (-i)) (tC (.int 1))))))))))
def b_is_row_of : MS := (sSeq (sIf (mOr (mNot (tOf (eIsi "tuple" (eVar 1)))) (tOf (eBin (gEqD false) (eVar 1) (eTup aNil)))) (sRet (eC (.bool false))) sNext) (sSeq (sAsg (eIf (mAnd (tOf (eVar 3)) (tOf (eU (mP 1 m_is_letter) (aCons (eBin gIx (eVar 1) (eNeg (eC (.int 1)))) aNil) aNil))) (eSlT (eVar 1) oNone (oSome (eNeg (eC (.int 1))))) (eVar 1)) (gN 4)) (sSeq (sIf (mOr (mNot (tOf (eCall cAll (aCons (eNew (aComp [5] (iTp (eVar 4)) (gN 5) (fun _ => some true) (eU (mP 3 m_is_between) (aCons (eVar 5) (aCons (eCall cInt (aCons (eVar 2) aNil)) (aCons (eVar 0) aNil))) aNil))) aNil)))) (tOf (eBin (gEq true) (eLenSet (eVar 4)) (eCall cLen (aCons (eVar 4) aNil))))) (sRet (eC (.bool false))) sNext) (sRet (eBin (gIn true) (eC (.int 0)) (eSlT (eVar 1) oNone (oSome (eNeg (eC (.int 1))))))))))
def m_is_row_of : List D → Option D := runB 6 b_is_row_of
theorem bk_is_row_of (T : Txt K mg) : BodyOk P w K mg base ["n", "thing", "ring", "stuck", "places", "entry"] "is_row_of" (defScope s_is_row_of) (defBody s_is_row_of) 1 (t_is_row_of K) := fun f cdv A outer s H E hr =>
  (pss_cons (ps_if (PW.pt (pw_or (pt_not (pt_val (pe_callB call_isi (by rfl) T.b_isinstance (by decide +kernel) (pa_cons (pv 1) (pa_cons (pe_bltn (by rfl) T.b_tuple (by decide +kernel) rfl) pa_nil))))) (pw_or1 (pt_cmpR (op_eqD hr.units) (pv 1) (pe_tup pa_nil) (nomark _))))) (pss_one (ps_ret pe_bl)) pss_nil) (pss_cons (ps_set (i := 4) sc_is_row_of.nd rfl (by first | exact Or.inl rfl | exact Or.inr rfl) (pe_ifExp (PW.pt (pw_and (pt_val (pv 3)) (pw_and1 (pt_val (pe_u (g_is_letter T) (hr.mono (by decide)) (by rfl) (pa_cons (pe_ix ix_seq (pv 1) (pe_un un_neg pe_int) (fun _ _ => rfl)) pa_nil)))))) (pe_slice sl_tupA (pv 1) po_none (po_some (pe_un un_neg pe_int))) (pv 1))) (pss_cons (ps_if (PW.pt (pw_or (pt_not (pt_val (pe_callB (cr_all rfl) (by rfl) T.b_all (by decide +kernel) (pa_cons (pe_lc (own := [("entry", 5)]) rfl sc_is_row_of.nd (pi_tup (pv 4)) (blkOk_by (by rfl)) (fun _ _ _ _ _ => (pg_name (i := 5) sc_is_row_of.nd rfl (by first | exact Or.inl rfl | exact Or.inr rfl))) (fun _ _ _ _ _ => pts_nil) (fun _ _ _ _ _ => (pe_u (g_is_between T) (hr.mono (by decide)) (by rfl) (pa_cons (pv 5) (pa_cons (pe_callTy call_int1 (by rfl) T.b_int (by decide +kernel) (pa_cons (pv 2) pa_nil)) (pa_cons (pv 0) pa_nil)))))) pa_nil)))) (pw_or1 (pt_cmpR op_ne (CPX.pe_lenSetT (by rfl) T.b_len (by rfl) T.b_set (pv 4)) (pe_callB call_len (by rfl) T.b_len (by decide +kernel) (pa_cons (pv 4) pa_nil)) (nomark _))))) (pss_one (ps_ret pe_bl)) pss_nil) (pss_one (ps_ret (pe_cmpR op_notIn_seq pe_int (pe_slice sl_tupA (pv 1) po_none (po_some (pe_un un_neg pe_int))) (by rfl)))))))
theorem sm_is_row_of (T : Txt K mg) : SmS (WK K) (t_is_row_of K) b_is_row_of :=
  (sms_seq (sms_if (smt_or (smt_not (smt_B (sm_isi (Sm.b sm_var)))) (smt_T (sm_op s_eqD (Sm.b sm_var) (Sm.b (sm_tup sma_nil))))) (sms_ret sm_bl) sms_next) (sms_seq (sms_asg (sm_if (smt_and (smt_B sm_var) (smt_B (sm_u (sma_cons (sm_op s_ix (Sm.b sm_var) (Sm.b (sm_neg sm_int))) sma_nil) sma_nil))) (sm_slT sm_var smo_none (smo_some (sm_neg sm_int))) sm_var) tgs_name) (sms_seq (sms_if (smt_or (smt_not (smt_B (sm_cb cs_all (smab_cons (Sm.b (sm_of_l (sml_lc (vs := [5]) (smi_tup sm_var) tgs_name (by decide) smt_yes (sm_u (sma_cons sm_var (sma_cons (sm_cb cs_int (smab_cons (Sm.b sm_var) (SmA.b sma_nil))) (sma_cons sm_var sma_nil))) sma_nil)))) (SmA.b sma_nil))))) (smt_T (sm_op s_ne (Sm.b (sm_lenSet sm_var)) (Sm.b (sm_cb cs_len (smab_cons (Sm.b sm_var) (SmA.b sma_nil))))))) (sms_ret sm_bl) sms_next) (sms_ret (sm_op s_in (Sm.b sm_int) (Sm.b (sm_slT sm_var smo_none (smo_some (sm_neg sm_int)))))))))
theorem g_is_row_of (T : Txt K mg) : GoodD P w K mg base (WK K) 2 "is_row_of" [] (mP 4 m_is_row_of) := by
  obtain ⟨f, fd, hm, F⟩ := T.f_is_row_of
  exact good_of hm F (ok_def F sc_is_row_of (bk_is_row_of T) (sm_is_row_of T)) (F.bindsN fun _ _ _ _ _ _ us hl => match us, hl with | [_, _, _, _], _ => rfl)
theorem sc_row_carry : FnScope ["row", "trial", "entry", "state"] ["row", "trial"] (defScope s_row_carry) := ⟨rfl, rfl, rfl, by decide +kernel, rfl, by decide +kernel, by decide +kernel⟩
def t_row_carry (K : PySem.W.Frag) : TS := (tSeq (tFor (iTup K (tVar 0)) (gName 2) (tSeq (tAsg (tIf (tB (tU (spD (WK K) 0 (mP 1 m_is_letter)) (tCons (tVar 2) tNil) tNil)) (tVar 2) (tU (spD (WK K) 0 (mP 2 m_state_at)) (tCons (tVar 1) (tCons (tVar 2) tNil)) tNil)) (gName 3)) (tIfS (tTest (tOp rNe (tVar 3) (tC (.str "P")))) (tRet (tU (spD (WK K) 0 (mP 1 m_carry_of)) (tCons (tVar 3) tNil) tNil)) tNext))) (tRet (tC (.int 0))))
def b_row_carry : MS := (sSeq (sFor (iTp (eVar 0)) (gN 2) (sSeq (sAsg (eIf (tOf (eU (mP 1 m_is_letter) (aCons (eVar 2) aNil) aNil)) (eVar 2) (eU (mP 2 m_state_at) (aCons (eVar 1) (aCons (eVar 2) aNil)) aNil)) (gN 3)) (sIf (tOf (eBin (gEq true) (eVar 3) (eC (.str "P")))) (sRet (eU (mP 1 m_carry_of) (aCons (eVar 3) aNil) aNil)) sNext))) (sRet (eC (.int 0))))
def m_row_carry : List D → Option D := runB 4 b_row_carry
theorem bk_row_carry (T : Txt K mg) : BodyOk P w K mg base ["row", "trial", "entry", "state"] "row_carry" (defScope s_row_carry) (defBody s_row_carry) 1 (t_row_carry K) := fun f cdv A outer s H E hr =>
  (pss_cons (ps_for PassesOwn.never rfl (pi_tup (pv 0)) (pg_name (i := 2) sc_row_carry.nd rfl (by first | exact Or.inl rfl | exact Or.inr rfl)) (pss_cons (ps_set (i := 3) sc_row_carry.nd rfl (by first | exact Or.inl rfl | exact Or.inr rfl) (pe_ifExp (pt_val (pe_u (g_is_letter T) (hr.mono (by decide)) (by rfl) (pa_cons (pv 2) pa_nil))) (pv 2) (pe_u (g_state_at T) (hr.mono (by decide)) (by rfl) (pa_cons (pv 1) (pa_cons (pv 2) pa_nil))))) (pss_one (ps_if (pt_cmpR op_ne (pv 3) (pe_glb T.c_PASS (by rfl)) (nomark _)) (pss_one (ps_ret (pe_u (g_carry_of T) (hr.mono (by decide)) (by rfl) (pa_cons (pv 3) pa_nil)))) pss_nil)))) (pss_one (ps_ret pe_int)))
theorem sm_row_carry (T : Txt K mg) : SmS (WK K) (t_row_carry K) b_row_carry :=
  (sms_seq (sms_for (smi_tup sm_var) tgs_name (sms_seq (sms_asg (sm_if (smt_B (sm_u (sma_cons sm_var sma_nil) sma_nil)) sm_var (sm_u (sma_cons sm_var (sma_cons sm_var sma_nil)) sma_nil)) tgs_name) (sms_if (smt_T (sm_op s_ne (Sm.b sm_var) (Sm.b sm_str))) (sms_ret (sm_u (sma_cons sm_var sma_nil) sma_nil)) sms_next))) (sms_ret sm_int))
theorem g_row_carry (T : Txt K mg) : GoodD P w K mg base (WK K) 2 "row_carry" [] (mP 2 m_row_carry) := by
  obtain ⟨f, fd, hm, F⟩ := T.f_row_carry
  exact good_of hm F (ok_def F sc_row_carry (bk_row_carry T) (sm_row_carry T)) (F.bindsN fun _ _ _ _ _ _ us hl => match us, hl with | [_, _], _ => rfl)
theorem sc_holds_short : FnScope ["n", "trials", "thing", "asked", "ring", "stuck", "word", "output", "row", "other", "trial"] ["n", "trials", "thing", "asked", "ring", "stuck"] (defScope s_holds_short) := ⟨rfl, rfl, rfl, by decide +kernel, rfl, by decide +kernel, by decide +kernel⟩
def t_holds_short (K : PySem.W.Frag) : TS := (tSeq (tAsg (tVar 2) (gTup K 4 (gCons (gName 6) (gCons (gName 7) (gCons (gName 8) (gCons (gName 9) gNil)))))) (tSeq (tIfS (tOr (tNot (tB (tU (spD (WK K) 0 (mP 3 m_is_between)) (tCons (tVar 7) (tCons (tC (.int 0)) (tCons (tVar 0) tNil))) tNil))) (tOr (tTest (tOp (rIn K true) (tVar 7) (tVar 3))) (tNot (tB (tU (spD (WK K) 0 (mP 4 m_is_row_of)) (tCons (tVar 0) (tCons (tVar 8) (tCons (tVar 4) (tCons (tVar 5) tNil)))) tNil))))) (tRet (tC (.bl false))) tNext) (tSeq (tIfS (tNot (tIfT (tB (tVar 4)) (tB (tU (spD (WK K) 0 (mP 2 m_is_ring_trial)) (tCons (tVar 9) (tCons (tVar 0) tNil)) tNil)) (tB (tU (spD (WK K) 0 (mP 2 m_is_trial)) (tCons (tVar 9) (tCons (tVar 0) tNil)) tNil)))) (tRet (tC (.bl false))) tNext) (tSeq (tIfS (tTest (tOp (rNeD K) (tLc (iList K (tVar 1)) (gName 10) (tTest (tOp rNe (tU (spD (WK K) 0 (mP 2 m_row_carry)) (tCons (tVar 8) (tCons (tVar 10) tNil)) tNil) (tU (spD (WK K) 0 (mP 2 m_true_carry)) (tCons (tVar 10) (tCons (tVar 7) tNil)) tNil))) (tVar 10) [10]) (tLst tNil))) (tRet (tC (.bl false))) tNext) (tRet (tOp rNe (tU (spD (WK K) 0 (mP 2 m_row_carry)) (tCons (tVar 8) (tCons (tVar 9) tNil)) tNil) (tU (spD (WK K) 0 (mP 2 m_true_carry)) (tCons (tVar 9) (tCons (tVar 7) tNil)) tNil)))))))
def b_holds_short : MS := (sSeq (sAsg (eVar 2) (gTp (gCons0 (gN 6) (gCons0 (gN 7) (gCons0 (gN 8) (gCons0 (gN 9) gNil0)))) 4)) (sSeq (sIf (mOr (mNot (tOf (eU (mP 3 m_is_between) (aCons (eVar 7) (aCons (eC (.int 0)) (aCons (eVar 0) aNil))) aNil))) (mOr (tOf (eBin (gIn true) (eVar 7) (eVar 3))) (mNot (tOf (eU (mP 4 m_is_row_of) (aCons (eVar 0) (aCons (eVar 8) (aCons (eVar 4) (aCons (eVar 5) aNil)))) aNil))))) (sRet (eC (.bool false))) sNext) (sSeq (sIf (mNot (mIfT (tOf (eVar 4)) (tOf (eU (mP 2 m_is_ring_trial) (aCons (eVar 9) (aCons (eVar 0) aNil)) aNil)) (tOf (eU (mP 2 m_is_trial) (aCons (eVar 9) (aCons (eVar 0) aNil)) aNil)))) (sRet (eC (.bool false))) sNext) (sSeq (sIf (tOf (eBin (gEqD true) (eNew (aComp [10] (iLst (eVar 1)) (gN 10) (tOf (eBin (gEq true) (eU (mP 2 m_row_carry) (aCons (eVar 8) (aCons (eVar 10) aNil)) aNil) (eU (mP 2 m_true_carry) (aCons (eVar 10) (aCons (eVar 7) aNil)) aNil))) (eVar 10))) (eLst aNil))) (sRet (eC (.bool false))) sNext) (sRet (eBin (gEq true) (eU (mP 2 m_row_carry) (aCons (eVar 8) (aCons (eVar 9) aNil)) aNil) (eU (mP 2 m_true_carry) (aCons (eVar 9) (aCons (eVar 7) aNil)) aNil)))))))
def m_holds_short : List D → Option D := runB 11 b_holds_short
theorem bk_holds_short (T : Txt K mg) : BodyOk P w K mg base ["n", "trials", "thing", "asked", "ring", "stuck", "word", "output", "row", "other", "trial"] "holds_short" (defScope s_holds_short) (defBody s_holds_short) 3 (t_holds_short K) := fun f cdv A outer s H E hr =>
  (pss_cons (ps_asg (pv 2) (pg_tup rfl (pgs_cons (pg_name (i := 6) sc_holds_short.nd rfl (by first | exact Or.inl rfl | exact Or.inr rfl)) (pgs_cons (pg_name (i := 7) sc_holds_short.nd rfl (by first | exact Or.inl rfl | exact Or.inr rfl)) (pgs_cons (pg_name (i := 8) sc_holds_short.nd rfl (by first | exact Or.inl rfl | exact Or.inr rfl)) (pgs_cons (pg_name (i := 9) sc_holds_short.nd rfl (by first | exact Or.inl rfl | exact Or.inr rfl)) pgs_nil)))))) (pss_cons (ps_if (PW.pt (pw_or (pt_not (pt_val (pe_u (g_is_between T) (hr.mono (by decide)) (by rfl) (pa_cons (pv 7) (pa_cons pe_int (pa_cons (pv 0) pa_nil)))))) (pw_or (pt_cmpR op_notIn_seq (pv 7) (pv 3) (by rfl)) (pw_or1 (pt_not (pt_val (pe_u (g_is_row_of T) (hr.mono (by decide)) (by rfl) (pa_cons (pv 0) (pa_cons (pv 8) (pa_cons (pv 4) (pa_cons (pv 5) pa_nil))))))))))) (pss_one (ps_ret pe_bl)) pss_nil) (pss_cons (ps_if (pt_not (pt_ifExp (pt_val (pv 4)) (pt_val (pe_u (g_is_ring_trial T) (hr.mono (by decide)) (by rfl) (pa_cons (pv 9) (pa_cons (pv 0) pa_nil)))) (pt_val (pe_u (g_is_trial T) (hr.mono (by decide)) (by rfl) (pa_cons (pv 9) (pa_cons (pv 0) pa_nil)))))) (pss_one (ps_ret pe_bl)) pss_nil) (pss_cons (ps_if (pt_cmpR (op_neD hr.units) (pe_lc (own := [("trial", 10)]) rfl sc_holds_short.nd (pi_list (pv 1)) (blkOk_by (by rfl)) (fun _ _ _ _ _ => (pg_name (i := 10) sc_holds_short.nd rfl (by first | exact Or.inl rfl | exact Or.inr rfl))) (fun _ _ _ _ _ => pts_one (pt_cmpR op_ne (pe_u (g_row_carry T) (hr.mono (by decide)) (by rfl) (pa_cons (pv 8) (pa_cons (pv 10) pa_nil))) (pe_u (g_true_carry T) (hr.mono (by decide)) (by rfl) (pa_cons (pv 10) (pa_cons (pv 7) pa_nil))) (nomark _))) (fun _ _ _ _ _ => (pv 10))) (pe_lst pa_nil) (nomark _)) (pss_one (ps_ret pe_bl)) pss_nil) (pss_one (ps_ret (pe_cmpR op_ne (pe_u (g_row_carry T) (hr.mono (by decide)) (by rfl) (pa_cons (pv 8) (pa_cons (pv 9) pa_nil))) (pe_u (g_true_carry T) (hr.mono (by decide)) (by rfl) (pa_cons (pv 9) (pa_cons (pv 7) pa_nil))) (nomark _))))))))
theorem sm_holds_short (T : Txt K mg) : SmS (WK K) (t_holds_short K) b_holds_short :=
  (sms_seq (sms_asg sm_var (tgs_tup (tgss_cons tgs_name (tgss_cons tgs_name (tgss_cons tgs_name (tgss_cons tgs_name tgss_nil)))))) (sms_seq (sms_if (smt_or (smt_not (smt_B (sm_u (sma_cons sm_var (sma_cons sm_int (sma_cons sm_var sma_nil))) sma_nil))) (smt_or (smt_T (sm_op s_in (Sm.b sm_var) (Sm.b sm_var))) (smt_not (smt_B (sm_u (sma_cons sm_var (sma_cons sm_var (sma_cons sm_var (sma_cons sm_var sma_nil)))) sma_nil))))) (sms_ret sm_bl) sms_next) (sms_seq (sms_if (smt_not (smt_if (smt_B sm_var) (smt_B (sm_u (sma_cons sm_var (sma_cons sm_var sma_nil)) sma_nil)) (smt_B (sm_u (sma_cons sm_var (sma_cons sm_var sma_nil)) sma_nil)))) (sms_ret sm_bl) sms_next) (sms_seq (sms_if (smt_T (sm_op s_neD (Sm.b (sm_of_l (sml_lc (vs := [10]) (smi_list sm_var) tgs_name (by decide) (smt_T (sm_op s_ne (Sm.b (sm_u (sma_cons sm_var (sma_cons sm_var sma_nil)) sma_nil)) (Sm.b (sm_u (sma_cons sm_var (sma_cons sm_var sma_nil)) sma_nil)))) sm_var))) (Sm.b (sm_lst sma_nil)))) (sms_ret sm_bl) sms_next) (sms_ret (sm_op s_ne (Sm.b (sm_u (sma_cons sm_var (sma_cons sm_var sma_nil)) sma_nil)) (Sm.b (sm_u (sma_cons sm_var (sma_cons sm_var sma_nil)) sma_nil))))))))
theorem g_holds_short (T : Txt K mg) : GoodD P w K mg base (WK K) 4 "holds_short" [] (mP 6 m_holds_short) := by
  obtain ⟨f, fd, hm, F⟩ := T.f_holds_short
  exact good_of hm F (ok_def F sc_holds_short (bk_holds_short T) (sm_holds_short T)) (F.bindsN fun _ _ _ _ _ _ us hl => match us, hl with | [_, _, _, _, _, _], _ => rfl)
theorem sc_check_judgement : FnScope ["n", "trials", "thing", "outputs", "ring", "stuck", "asked", "table", "output"] ["n", "trials", "thing", "outputs", "ring", "stuck"] (defScope s_check_judgement) := ⟨rfl, rfl, rfl, by decide +kernel, rfl, by decide +kernel, by decide +kernel⟩
def t_check_judgement (K : PySem.W.Frag) : TS := (tSeq (tIfS (tOr (tNot (tB (tIsi K "tuple" (tVar 2)))) (tOr (tTest (tOp (rEqD K) (tVar 2) (tTup tNil))) (tNot (tB (tIsi K "str" (tOp (rIx K) (tVar 2) (tC (.int 0)))))))) (tRet (tC (.bl false))) tNext) (tSeq (tAsg (tU (spD (WK K) 0 (mP 3 m_outputs_asked)) (tCons (tVar 0) (tCons (tVar 3) (tCons (tVar 4) tNil))) tNil) (gName 6)) (tSeq (tIfS (tTest (tOp rEq (tOp (rIx K) (tVar 2) (tC (.int 0))) (tC (.str "short")))) (tRet (tAndV (tOp rEq (tCB (fun xs H Q => ∃ x n, xs = [x] ∧ LenV K x H n ∧ Q (.int n) H) (tCons (tVar 2) tNil)) (tC (.int 4))) (tU (spD (WK K) 0 (mP 6 m_holds_short)) (tCons (tVar 0) (tCons (tVar 1) (tCons (tVar 2) (tCons (tVar 6) (tCons (tVar 4) (tCons (tVar 5) tNil)))))) tNil))) tNext) (tSeq (tIfS (tOr (tTest (tOp rNe (tOp (rIx K) (tVar 2) (tC (.int 0))) (tC (.str "enough")))) (tOr (tTest (tOp rNe (tCB (fun xs H Q => ∃ x n, xs = [x] ∧ LenV K x H n ∧ Q (.int n) H) (tCons (tVar 2) tNil)) (tC (.int 2)))) (tNot (tB (tU (spD (WK K) 0 (mP 2 m_is_row)) (tCons (tOp (rIx K) (tVar 2) (tC (.int 1))) (tCons (tCB (fun xs H Q => ∃ x n, xs = [x] ∧ LenV K x H n ∧ Q (.int n) H) (tCons (tVar 6) tNil)) tNil)) tNil))))) (tRet (tC (.bl false))) tNext) (tRet (tCB (rAll K) (tCons (tLc (RZ.iZipA K (tCons (tOp (rIx K) (tVar 2) (tC (.int 1))) (tCons (tVar 6) tNil))) (gTup K 2 (gCons (gName 7) (gCons (gName 8) gNil))) tYes (tU (spD (WK K) 0 (mP 6 m_holds_table)) (tCons (tVar 0) (tCons (tVar 1) (tCons (tVar 7) (tCons (tVar 8) (tCons (tVar 4) (tCons (tVar 5) tNil)))))) tNil) [7, 8]) tNil)))))))
def b_check_judgement : MS := (sSeq (sIf (mOr (mNot (tOf (eIsi "tuple" (eVar 2)))) (mOr (tOf (eBin (gEqD false) (eVar 2) (eTup aNil))) (mNot (tOf (eIsi "str" (eBin gIx (eVar 2) (eC (.int 0)))))))) (sRet (eC (.bool false))) sNext) (sSeq (sAsg (eU (mP 3 m_outputs_asked) (aCons (eVar 0) (aCons (eVar 3) (aCons (eVar 4) aNil))) aNil) (gN 6)) (sSeq (sIf (tOf (eBin (gEq false) (eBin gIx (eVar 2) (eC (.int 0))) (eC (.str "short")))) (sRet (eAndV (eBin (gEq false) (eCall cLen (aCons (eVar 2) aNil)) (eC (.int 4))) (eU (mP 6 m_holds_short) (aCons (eVar 0) (aCons (eVar 1) (aCons (eVar 2) (aCons (eVar 6) (aCons (eVar 4) (aCons (eVar 5) aNil)))))) aNil))) sNext) (sSeq (sIf (mOr (tOf (eBin (gEq true) (eBin gIx (eVar 2) (eC (.int 0))) (eC (.str "enough")))) (mOr (tOf (eBin (gEq true) (eCall cLen (aCons (eVar 2) aNil)) (eC (.int 2)))) (mNot (tOf (eU (mP 2 m_is_row) (aCons (eBin gIx (eVar 2) (eC (.int 1))) (aCons (eCall cLen (aCons (eVar 6) aNil)) aNil)) aNil))))) (sRet (eC (.bool false))) sNext) (sRet (eCall cAll (aCons (eNew (aComp [7, 8] (iZpE tupOf tupOf (eBin gIx (eVar 2) (eC (.int 1))) (eVar 6)) (gTp (gCons0 (gN 7) (gCons0 (gN 8) gNil0)) 2) (fun _ => some true) (eU (mP 6 m_holds_table) (aCons (eVar 0) (aCons (eVar 1) (aCons (eVar 7) (aCons (eVar 8) (aCons (eVar 4) (aCons (eVar 5) aNil)))))) aNil))) aNil)))))))
def m_check_judgement : List D → Option D := runB 9 b_check_judgement
theorem bk_check_judgement (T : Txt K mg) : BodyOk P w K mg base ["n", "trials", "thing", "outputs", "ring", "stuck", "asked", "table", "output"] "check_judgement" (defScope s_check_judgement) (defBody s_check_judgement) 5 (t_check_judgement K) := fun f cdv A outer s H E hr =>
  (pss_cons (ps_if (PW.pt (pw_or (pt_not (pt_val (pe_callB call_isi (by rfl) T.b_isinstance (by decide +kernel) (pa_cons (pv 2) (pa_cons (pe_bltn (by rfl) T.b_tuple (by decide +kernel) rfl) pa_nil))))) (pw_or (pt_cmpR (op_eqD hr.units) (pv 2) (pe_tup pa_nil) (nomark _)) (pw_or1 (pt_not (pt_val (pe_callB call_isi (by rfl) T.b_isinstance (by decide +kernel) (pa_cons (pe_ix ix_seq (pv 2) pe_int (fun _ _ => rfl)) (pa_cons (pe_bltn (by rfl) T.b_str (by decide +kernel) rfl) pa_nil))))))))) (pss_one (ps_ret pe_bl)) pss_nil) (pss_cons (ps_set (i := 6) sc_check_judgement.nd rfl (by first | exact Or.inl rfl | exact Or.inr rfl) (pe_u (g_outputs_asked T) (hr.mono (by decide)) (by rfl) (pa_cons (pv 0) (pa_cons (pv 3) (pa_cons (pv 4) pa_nil))))) (pss_cons (ps_if (pt_cmpR op_eq (pe_ix ix_seq (pv 2) pe_int (fun _ _ => rfl)) (pe_glb T.c_SHORT (by rfl)) (nomark _)) (pss_one (ps_ret (pe_and (pe_cmpR op_eq (pe_callB call_len (by rfl) T.b_len (by decide +kernel) (pa_cons (pv 2) pa_nil)) pe_int (nomark _)) (pe_one (pe_u (g_holds_short T) (hr.mono (by decide)) (by rfl) (pa_cons (pv 0) (pa_cons (pv 1) (pa_cons (pv 2) (pa_cons (pv 6) (pa_cons (pv 4) (pa_cons (pv 5) pa_nil))))))))))) pss_nil) (pss_cons (ps_if (PW.pt (pw_or (pt_cmpR op_ne (pe_ix ix_seq (pv 2) pe_int (fun _ _ => rfl)) (pe_glb T.c_ENOUGH (by rfl)) (nomark _)) (pw_or (pt_cmpR op_ne (pe_callB call_len (by rfl) T.b_len (by decide +kernel) (pa_cons (pv 2) pa_nil)) pe_int (nomark _)) (pw_or1 (pt_not (pt_val (pe_u (g_is_row T) (hr.mono (by decide)) (by rfl) (pa_cons (pe_ix ix_seq (pv 2) pe_int (fun _ _ => rfl)) (pa_cons (pe_callB call_len (by rfl) T.b_len (by decide +kernel) (pa_cons (pv 6) pa_nil)) pa_nil))))))))) (pss_one (ps_ret pe_bl)) pss_nil) (pss_one (ps_ret (pe_callB (cr_all rfl) (by rfl) T.b_all (by decide +kernel) (pa_cons (pe_lc (own := [("table", 7), ("output", 8)]) rfl sc_check_judgement.nd (RZ.pi_zipA (by rfl) T.b_zip (pa_cons (pe_ix ix_seq (pv 2) pe_int (fun _ _ => rfl)) (pa_cons (pv 6) pa_nil))) (blkOk_by (by rfl)) (fun _ _ _ _ _ => (pg_tup rfl (pgs_cons (pg_name (i := 7) sc_check_judgement.nd rfl (by first | exact Or.inl rfl | exact Or.inr rfl)) (pgs_cons (pg_name (i := 8) sc_check_judgement.nd rfl (by first | exact Or.inl rfl | exact Or.inr rfl)) pgs_nil)))) (fun _ _ _ _ _ => pts_nil) (fun _ _ _ _ _ => (pe_u (g_holds_table T) (hr.mono (by decide)) (by rfl) (pa_cons (pv 0) (pa_cons (pv 1) (pa_cons (pv 7) (pa_cons (pv 8) (pa_cons (pv 4) (pa_cons (pv 5) pa_nil))))))))) pa_nil))))))))
theorem sm_check_judgement (T : Txt K mg) : SmS (WK K) (t_check_judgement K) b_check_judgement :=
  (sms_seq (sms_if (smt_or (smt_not (smt_B (sm_isi (Sm.b sm_var)))) (smt_or (smt_T (sm_op s_eqD (Sm.b sm_var) (Sm.b (sm_tup sma_nil)))) (smt_not (smt_B (sm_isi (Sm.b (sm_op s_ix (Sm.b sm_var) (Sm.b sm_int)))))))) (sms_ret sm_bl) sms_next) (sms_seq (sms_asg (sm_u (sma_cons sm_var (sma_cons sm_var (sma_cons sm_var sma_nil))) sma_nil) tgs_name) (sms_seq (sms_if (smt_T (sm_op s_eq (Sm.b (sm_op s_ix (Sm.b sm_var) (Sm.b sm_int))) (Sm.b sm_str))) (sms_ret (sm_andV (sm_op s_eq (Sm.b (sm_cb cs_len (smab_cons (Sm.b sm_var) (SmA.b sma_nil)))) (Sm.b sm_int)) (sm_u (sma_cons sm_var (sma_cons sm_var (sma_cons sm_var (sma_cons sm_var (sma_cons sm_var (sma_cons sm_var sma_nil)))))) sma_nil))) sms_next) (sms_seq (sms_if (smt_or (smt_T (sm_op s_ne (Sm.b (sm_op s_ix (Sm.b sm_var) (Sm.b sm_int))) (Sm.b sm_str))) (smt_or (smt_T (sm_op s_ne (Sm.b (sm_cb cs_len (smab_cons (Sm.b sm_var) (SmA.b sma_nil)))) (Sm.b sm_int))) (smt_not (smt_B (sm_u (sma_cons (sm_op s_ix (Sm.b sm_var) (Sm.b sm_int)) (sma_cons (sm_cb cs_len (smab_cons (Sm.b sm_var) (SmA.b sma_nil))) sma_nil)) sma_nil))))) (sms_ret sm_bl) sms_next) (sms_ret (sm_cb cs_all (smab_cons (Sm.b (sm_of_l (sml_lc (vs := [7, 8]) (smi_zipT (sm_op s_ix (Sm.b sm_var) (Sm.b sm_int)) sm_var) (tgs_tup (tgss_cons tgs_name (tgss_cons tgs_name tgss_nil))) (by decide) smt_yes (sm_u (sma_cons sm_var (sma_cons sm_var (sma_cons sm_var (sma_cons sm_var (sma_cons sm_var (sma_cons sm_var sma_nil)))))) sma_nil)))) (SmA.b sma_nil))))))))
theorem ok_check_judgement (T : Txt K mg) {f : Addr} {fd : FuncData} (F : FunD K "check_judgement" "check_judgement" (defArgs s_check_judgement) (defBody s_check_judgement) (defScope s_check_judgement) [] [("outputs", .non), ("ring", .bl false), ("stuck", .bl false)] f fd) : FnOk P w K mg base CX0 6 f fd ["n", "trials", "thing", "outputs", "ring", "stuck"] (spO (WK K) 6 m_check_judgement) := ok_def F sc_check_judgement (bk_check_judgement T) (sm_check_judgement T)
theorem g_check_judgement (T : Txt K mg) : GoodD P w K mg base (WK K) 6 "check_judgement" ["outputs", "ring", "stuck"] (mKw 3 m_check_judgement) := by
  obtain ⟨f, fd, hm, F⟩ := T.f_check_judgement
  exact good_kw (ps := ["n", "trials", "thing"]) (ks := ["outputs", "ring", "stuck"]) (N := ["n", "trials", "thing", "outputs", "ring", "stuck", "asked", "table", "output"]) hm F (ok_check_judgement T F) (fun kV doc pm an cdv ct us ws hl hw => match us, hl, ws, hw with | [_, _, _], _, [_, _, _], _ => rfl)
end
end CP
/-! part CpP -/
set_option Elab.async false
set_option linter.all false
set_option maxRecDepth 100000
set_option maxHeartbeats 4000000
namespace CP
open PySem PySem.Spec PyProof.Rows L2 CPH
section
variable {P : Program} {w : World} {K : PySem.W.Frag} {mg : Str → Option Value} {base : Heap}
theorem sc__law_due : FnScope ["_law_size", "_law_end", "_law_is_ring", "_law_k"] ["_law_size", "_law_end", "_law_is_ring"] (defScope s__law_due) := ⟨rfl, rfl, rfl, by decide +kernel, rfl, by decide +kernel, by decide +kernel⟩
def t__law_due (K : PySem.W.Frag) : TS := (tSeq (tIfS (tNot (tB (tVar 2))) (tRet (tCB (fun xs H Q => ∃ p ys, xs = [.ref p] ∧ ((SqL K H p ys ∧ ∀ l, H l = none → Q (.ref l) (upd H l (.tup ys))) ∨ (SqT K H p ys ∧ Q (.ref p) H))) (tCons (tLc (iRng1 (tCons (tOp (rI0 fun i j => .int (i + j)) (tVar 1) (tC (.int 1))) tNil)) (gName 3) tYes (tOp (rI0 fun i j => .int (i - j)) (tVar 1) (tVar 3)) [3]) tNil))) tNext) (tRet (tCB (fun xs H Q => ∃ p ys, xs = [.ref p] ∧ ((SqL K H p ys ∧ ∀ l, H l = none → Q (.ref l) (upd H l (.tup ys))) ∨ (SqT K H p ys ∧ Q (.ref p) H))) (tCons (tLc (iRng1 (tCons (tVar 0) tNil)) (gName 3) tYes (tOp (rI0 fun i j => .int (i + j)) (tOp (rI (fun _ j => 0 < j) fun i j => .int (i % j)) (tOp (rI0 fun i j => .int (i - j)) (tOp (rI0 fun i j => .int (i - j)) (tVar 1) (tC (.int 1))) (tVar 3)) (tVar 0)) (tC (.int 1))) [3]) tNil))))
def b__law_due : MS := (sSeq (sIf (mNot (tOf (eVar 2))) (sRet (eCall cTuple (aCons (eNew (aComp [3] (iR1 (aCons (eBin gAdd (eVar 1) (eC (.int 1))) aNil)) (gN 3) (fun _ => some true) (eBin gSubI (eVar 1) (eVar 3)))) aNil))) sNext) (sRet (eCall cTuple (aCons (eNew (aComp [3] (iR1 (aCons (eVar 0) aNil)) (gN 3) (fun _ => some true) (eBin gAdd (eBin gMod (eBin gSubI (eBin gSubI (eVar 1) (eC (.int 1))) (eVar 3)) (eVar 0)) (eC (.int 1))))) aNil))))
def m__law_due : List D → Option D := runB 4 b__law_due
theorem bk__law_due (T : Txt K mg) : BodyOk P w K mg base ["_law_size", "_law_end", "_law_is_ring", "_law_k"] "_law_due" (defScope s__law_due) (defBody s__law_due) 0 (t__law_due K) := fun f cdv A outer s H E hr =>
  (pss_cons (ps_if (pt_not (pt_val (pv 2))) (pss_one (ps_ret (pe_callTy call_tuple_of (by rfl) T.b_tuple (by decide +kernel) (pa_cons (pe_lc (own := [("_law_k", 3)]) rfl sc__law_due.nd (pi_range1 (by rfl) T.b_range (pa_cons (pe_op op_add (pv 1) pe_int) pa_nil)) (blkOk_by (by rfl)) (fun _ _ _ _ _ => (pg_name (i := 3) sc__law_due.nd rfl (by first | exact Or.inl rfl | exact Or.inr rfl))) (fun _ _ _ _ _ => pts_nil) (fun _ _ _ _ _ => (pe_op op_sub (pv 1) (pv 3)))) pa_nil)))) pss_nil) (pss_one (ps_ret (pe_callTy call_tuple_of (by rfl) T.b_tuple (by decide +kernel) (pa_cons (pe_lc (own := [("_law_k", 3)]) rfl sc__law_due.nd (pi_range1 (by rfl) T.b_range (pa_cons (pv 0) pa_nil)) (blkOk_by (by rfl)) (fun _ _ _ _ _ => (pg_name (i := 3) sc__law_due.nd rfl (by first | exact Or.inl rfl | exact Or.inr rfl))) (fun _ _ _ _ _ => pts_nil) (fun _ _ _ _ _ => (pe_op op_add (pe_op op_mod (pe_op op_sub (pe_op op_sub (pv 1) pe_int) (pv 3)) (pv 0)) pe_int))) pa_nil)))))
theorem sm__law_due (T : Txt K mg) : SmS (WK K) (t__law_due K) b__law_due :=
  (sms_seq (sms_if (smt_not (smt_B sm_var)) (sms_ret (sm_cb cs_tuple (smab_cons (Sm.b (sm_of_l (sml_lc (vs := [3]) (smi_r1 (sma_cons (sm_op s_add (Sm.b sm_var) (Sm.b sm_int)) sma_nil)) tgs_name (by decide) smt_yes (sm_op s_sub (Sm.b sm_var) (Sm.b sm_var))))) (SmA.b sma_nil)))) sms_next) (sms_ret (sm_cb cs_tuple (smab_cons (Sm.b (sm_of_l (sml_lc (vs := [3]) (smi_r1 (sma_cons sm_var sma_nil)) tgs_name (by decide) smt_yes (sm_op s_add (Sm.b (sm_op s_mod (Sm.b (sm_op s_sub (Sm.b (sm_op s_sub (Sm.b sm_var) (Sm.b sm_int))) (Sm.b sm_var))) (Sm.b sm_var))) (Sm.b sm_int))))) (SmA.b sma_nil)))))
theorem g__law_due (T : Txt K mg) : GoodD P w K mg base (WK K) 1 "_law_due" [] (mP 3 m__law_due) := by
  obtain ⟨f, fd, hm, F⟩ := T.f__law_due
  exact good_of hm F (ok_def F sc__law_due (bk__law_due T) (sm__law_due T)) (F.bindsN fun _ _ _ _ _ _ us hl => match us, hl with | [_, _, _], _ => rfl)
theorem sc__law_sign : FnScope ["_law_trial_here", "_law_spot"] ["_law_trial_here", "_law_spot"] (defScope s__law_sign) := ⟨rfl, rfl, rfl, by decide +kernel, rfl, by decide +kernel, by decide +kernel⟩
def t__law_sign (K : PySem.W.Frag) : TS := (tRet (tOp (rIx K) (tVar 0) (tOp (rI0 fun i j => .int (i - j)) (tOp (rI0 fun i j => .int (i - j)) (tCB (fun xs H Q => ∃ x n, xs = [x] ∧ LenV K x H n ∧ Q (.int n) H) (tCons (tVar 0) tNil)) (tC (.int 1))) (tVar 1))))
def b__law_sign : MS := (sRet (eBin gIx (eVar 0) (eBin gSubI (eBin gSubI (eCall cLen (aCons (eVar 0) aNil)) (eC (.int 1))) (eVar 1))))
def m__law_sign : List D → Option D := runB 2 b__law_sign
theorem bk__law_sign (T : Txt K mg) : BodyOk P w K mg base ["_law_trial_here", "_law_spot"] "_law_sign" (defScope s__law_sign) (defBody s__law_sign) 0 (t__law_sign K) := fun f cdv A outer s H E hr =>
  (pss_one (ps_ret (pe_ix ix_seq (pv 0) (pe_op op_sub (pe_op op_sub (pe_callB call_len (by rfl) T.b_len (by decide +kernel) (pa_cons (pv 0) pa_nil)) pe_int) (pv 1)) (fun _ _ => rfl))))
theorem sm__law_sign (T : Txt K mg) : SmS (WK K) (t__law_sign K) b__law_sign :=
  (sms_ret (sm_op s_ix (Sm.b sm_var) (Sm.b (sm_op s_sub (Sm.b (sm_op s_sub (Sm.b (sm_cb cs_len (smab_cons (Sm.b sm_var) (SmA.b sma_nil)))) (Sm.b sm_int))) (Sm.b sm_var)))))
theorem g__law_sign (T : Txt K mg) : GoodD P w K mg base (WK K) 1 "_law_sign" [] (mP 2 m__law_sign) := by
  obtain ⟨f, fd, hm, F⟩ := T.f__law_sign
  exact good_of hm F (ok_def F sc__law_sign (bk__law_sign T) (sm__law_sign T)) (F.bindsN fun _ _ _ _ _ _ us hl => match us, hl with | [_, _], _ => rfl)
theorem sc__law_seen : FnScope ["_law_row", "_law_trial_here", "_law_entry", "_law_sign_here"] ["_law_row", "_law_trial_here"] (defScope s__law_seen) := ⟨rfl, rfl, rfl, by decide +kernel, rfl, by decide +kernel, by decide +kernel⟩
def t__law_seen (K : PySem.W.Frag) : TS := (tSeq (tFor (iTup K (tVar 0)) (gName 2) (tSeq (tAsg (tIf (tB (tIsi K "str" (tVar 2))) (tVar 2) (tU (spD (WK K) 0 (mP 2 m__law_sign)) (tCons (tVar 1) (tCons (tVar 2) tNil)) tNil)) (gName 3)) (tIfS (tTest (tOp rNe (tVar 3) (tC (.str "P")))) (tRet (tCB (fun xs H Q => (∃ i, xs = [.int i] ∧ Q (.int i) H) ∨ ∃ k, xs = [.bl k] ∧ Q (.int (if k then 1 else 0)) H) (tCons (tOp rEq (tVar 3) (tC (.str "G"))) tNil))) tNext))) (tRet (tC (.int 0))))
def b__law_seen : MS := (sSeq (sFor (iTp (eVar 0)) (gN 2) (sSeq (sAsg (eIf (tOf (eIsi "str" (eVar 2))) (eVar 2) (eU (mP 2 m__law_sign) (aCons (eVar 1) (aCons (eVar 2) aNil)) aNil)) (gN 3)) (sIf (tOf (eBin (gEq true) (eVar 3) (eC (.str "P")))) (sRet (eCall cInt (aCons (eBin (gEq false) (eVar 3) (eC (.str "G"))) aNil))) sNext))) (sRet (eC (.int 0))))
def m__law_seen : List D → Option D := runB 4 b__law_seen
theorem bk__law_seen (T : Txt K mg) : BodyOk P w K mg base ["_law_row", "_law_trial_here", "_law_entry", "_law_sign_here"] "_law_seen" (defScope s__law_seen) (defBody s__law_seen) 1 (t__law_seen K) := fun f cdv A outer s H E hr =>
  (pss_cons (ps_for PassesOwn.never rfl (pi_tup (pv 0)) (pg_name (i := 2) sc__law_seen.nd rfl (by first | exact Or.inl rfl | exact Or.inr rfl)) (pss_cons (ps_set (i := 3) sc__law_seen.nd rfl (by first | exact Or.inl rfl | exact Or.inr rfl) (pe_ifExp (pt_val (pe_callB call_isi (by rfl) T.b_isinstance (by decide +kernel) (pa_cons (pv 2) (pa_cons (pe_bltn (by rfl) T.b_str (by decide +kernel) rfl) pa_nil)))) (pv 2) (pe_u (g__law_sign T) (hr.mono (by decide)) (by rfl) (pa_cons (pv 1) (pa_cons (pv 2) pa_nil))))) (pss_one (ps_if (pt_cmpR op_ne (pv 3) pe_str (nomark _)) (pss_one (ps_ret (pe_callTy call_int1 (by rfl) T.b_int (by decide +kernel) (pa_cons (pe_cmpR op_eq (pv 3) pe_str (nomark _)) pa_nil)))) pss_nil)))) (pss_one (ps_ret pe_int)))
theorem sm__law_seen (T : Txt K mg) : SmS (WK K) (t__law_seen K) b__law_seen :=
  (sms_seq (sms_for (smi_tup sm_var) tgs_name (sms_seq (sms_asg (sm_if (smt_B (sm_isi (Sm.b sm_var))) sm_var (sm_u (sma_cons sm_var (sma_cons sm_var sma_nil)) sma_nil)) tgs_name) (sms_if (smt_T (sm_op s_ne (Sm.b sm_var) (Sm.b sm_str))) (sms_ret (sm_cb cs_int (smab_cons (Sm.b (sm_op s_eq (Sm.b sm_var) (Sm.b sm_str))) (SmA.b sma_nil)))) sms_next))) (sms_ret sm_int))
theorem g__law_seen (T : Txt K mg) : GoodD P w K mg base (WK K) 2 "_law_seen" [] (mP 2 m__law_seen) := by
  obtain ⟨f, fd, hm, F⟩ := T.f__law_seen
  exact good_of hm F (ok_def F sc__law_seen (bk__law_seen T) (sm__law_seen T)) (F.bindsN fun _ _ _ _ _ _ us hl => match us, hl with | [_, _], _ => rfl)
theorem sc__law_ends : FnScope ["_law_size", "_law_is_ring"] ["_law_size", "_law_is_ring"] (defScope s__law_ends) := ⟨rfl, rfl, rfl, by decide +kernel, rfl, by decide +kernel, by decide +kernel⟩
def t__law_ends (K : PySem.W.Frag) : TS := (tRet (tLstRg (tRg2 (tCB (fun xs H Q => (∃ i, xs = [.int i] ∧ Q (.int i) H) ∨ ∃ k, xs = [.bl k] ∧ Q (.int (if k then 1 else 0)) H) (tCons (tVar 1) tNil)) (tOp (rI0 fun i j => .int (i + j)) (tVar 0) (tC (.int 1))))))
def b__law_ends : MS := (sRet (eRg2 .lst (eCall cInt (aCons (eVar 1) aNil)) (eBin gAdd (eVar 0) (eC (.int 1)))))
def m__law_ends : List D → Option D := runB 2 b__law_ends
theorem bk__law_ends (T : Txt K mg) : BodyOk P w K mg base ["_law_size", "_law_is_ring"] "_law_ends" (defScope s__law_ends) (defBody s__law_ends) 0 (t__law_ends K) := fun f cdv A outer s H E hr =>
  (pss_one (ps_ret (pe_listRg rfl (by rfl) T.b_list (prg_2 (by rfl) T.b_range (pe_callTy call_int1 (by rfl) T.b_int (by decide +kernel) (pa_cons (pv 1) pa_nil)) (pe_op op_add (pv 0) pe_int)))))
theorem sm__law_ends (T : Txt K mg) : SmS (WK K) (t__law_ends K) b__law_ends :=
  (sms_ret (sm_lstRg2 (sm_cb cs_int (smab_cons (Sm.b sm_var) (SmA.b sma_nil))) (sm_op s_add (Sm.b sm_var) (Sm.b sm_int))))
theorem g__law_ends (T : Txt K mg) : GoodD P w K mg base (WK K) 1 "_law_ends" [] (mP 2 m__law_ends) := by
  obtain ⟨f, fd, hm, F⟩ := T.f__law_ends
  exact good_of hm F (ok_def F sc__law_ends (bk__law_ends T) (sm__law_ends T)) (F.bindsN fun _ _ _ _ _ _ us hl => match us, hl with | [_, _], _ => rfl)
theorem sc__law_put : FnScope ["_law_size", "_law_marks", "_law_last", "_law_signs", "_law_spot", "_law_sign_here"] ["_law_size", "_law_marks", "_law_last"] (defScope s__law_put) := ⟨rfl, rfl, rfl, by decide +kernel, rfl, by decide +kernel, by decide +kernel⟩
def t__law_put (K : PySem.W.Frag) : TS := (tSeq (tAsg (tOp rCat (tOp rRep (tLst (tCons (tC (.str "P")) tNil)) (tVar 0)) (tLst (tCons (tVar 2) tNil))) (gName 3)) (tSeq (tFor (iList K (tVar 1)) (gTup K 2 (gCons (gName 4) (gCons (gName 5) gNil))) (tAsg (tVar 5) (gSub (tVar 3) (tOp (rI0 fun i j => .int (i - j)) (tVar 0) (tVar 4)) rSetL))) (tRet (tBM K "str" (fun x xs H Q => ∃ a p, ∃ ys : List Str, x = .str a ∧ xs = [.ref p] ∧ (SqL K H p (ys.map V.str) ∨ SqT K H p (ys.map V.str)) ∧ (ys.map (·.length)).sum + ys.length * a.length ≤ 16777216 ∧ Q (.str (Txt.join a ys)) H) (tC (.str "")) (tCons (tVar 3) tNil)))))
def b__law_put : MS := (sSeq (sAsgO 3 (aCat (eBin gRep (eLst (aCons (eC (.str "P")) aNil)) (eVar 0)) (eLst (aCons (eVar 2) aNil)))) (sSeq (sFor (iLst (eVar 1)) (gTp (gCons0 (gN 4) (gCons0 (gN 5) gNil0)) 2) (sSetIx 3 (eBin gSubI (eVar 0) (eVar 4)) (eVar 5))) (sRet (eMeth "str" cJoin (eC (.str "")) (aCons (eOwn 3) aNil)))))
def m__law_put : List D → Option D := runB 6 b__law_put
theorem bk__law_put (T : Txt K mg) : BodyOk P w K mg base ["_law_size", "_law_marks", "_law_last", "_law_signs", "_law_spot", "_law_sign_here"] "_law_put" (defScope s__law_put) (defBody s__law_put) 0 (t__law_put K) := fun f cdv A outer s H E hr =>
  (pss_cons (ps_set (i := 3) sc__law_put.nd rfl (by first | exact Or.inl rfl | exact Or.inr rfl) (pe_op op_cat (pe_op op_rep (pe_lst (pa_cons pe_str pa_nil)) (pv 0)) (pe_lst (pa_cons (pv 2) pa_nil)))) (pss_cons (ps_for PassesOwn.never rfl (pi_list (pv 1)) (pg_tup rfl (pgs_cons (pg_name (i := 4) sc__law_put.nd rfl (by first | exact Or.inl rfl | exact Or.inr rfl)) (pgs_cons (pg_name (i := 5) sc__law_put.nd rfl (by first | exact Or.inl rfl | exact Or.inr rfl)) pgs_nil))) (pss_one (ps_asg (pv 5) (pg_sub (pv 3) (pe_op op_sub (pv 0) (pv 4)) set_list)))) (pss_one (ps_ret (pe_bm PySem.F.plainAttrs_str PySem.F.slot_str_join PySem.F.type_str_join mt_join pe_str (pa_cons (pv 3) pa_nil))))))
theorem sm__law_put (T : Txt K mg) : SmS (WK K) (t__law_put K) b__law_put :=
  (sms_seq (sms_asgO (sml_cat (Sm.b (sm_op s_rep (Sm.b (sm_lst (sma_cons sm_str sma_nil))) (Sm.b sm_var))) (Sm.b (sm_lst (sma_cons sm_var sma_nil))))) (sms_seq (sms_for (smi_list sm_var) (tgs_tup (tgss_cons tgs_name (tgss_cons tgs_name tgss_nil))) (sms_setIx sm_var (sm_op s_sub (Sm.b sm_var) (Sm.b sm_var)))) (sms_ret (sm_bm mts_join (Sm.b sm_str) (smab_cons smb_own (SmA.b sma_nil))))))
theorem g__law_put (T : Txt K mg) : GoodD P w K mg base (WK K) 1 "_law_put" [] (mP 3 m__law_put) := by
  obtain ⟨f, fd, hm, F⟩ := T.f__law_put
  exact good_of hm F (ok_def F sc__law_put (bk__law_put T) (sm__law_put T)) (F.bindsN fun _ _ _ _ _ _ us hl => match us, hl with | [_, _, _], _ => rfl)
theorem sc__law_standard : FnScope ["_law_size", "_law_is_ring", "_law_is_stuck", "_law_found", "_law_spot"] ["_law_size", "_law_is_ring", "_law_is_stuck"] (defScope s__law_standard) := ⟨rfl, rfl, rfl, by decide +kernel, rfl, by decide +kernel, by decide +kernel⟩
def t__law_standard (K : PySem.W.Frag) : TS := (tSeq (tAsg (tLst tNil) (gName 3)) (tSeq (tIfS (tB (tVar 1)) (tSeq (tFor (iRng2 (tCons (tC (.int 1)) (tCons (tOp (rI0 fun i j => .int (i + j)) (tVar 0) (tC (.int 1))) tNil))) (gName 4) (tDrop (tBM K "list" rAppend (tVar 3) (tCons (tU (spD (WK K) 0 (mP 3 m__law_put)) (tCons (tVar 0) (tCons (tLst (tCons (tTup (tCons (tVar 4) (tCons (tC (.str "G")) tNil))) tNil)) (tCons (tC (.str "P")) tNil))) tNil) tNil)))) (tFor (iRng2 (tCons (tC (.int 1)) (tCons (tOp (rI0 fun i j => .int (i + j)) (tVar 0) (tC (.int 1))) tNil))) (gName 4) (tDrop (tBM K "list" rAppend (tVar 3) (tCons (tU (spD (WK K) 0 (mP 3 m__law_put)) (tCons (tVar 0) (tCons (tLst (tCons (tTup (tCons (tVar 4) (tCons (tC (.str "G")) tNil))) (tCons (tTup (tCons (tIf (tTest (tOp (rI0 fun i j => .bl (decide (j < i))) (tVar 4) (tC (.int 1)))) (tOp (rI0 fun i j => .int (i - j)) (tVar 4) (tC (.int 1))) (tVar 0)) (tCons (tC (.str "K")) tNil))) tNil))) (tCons (tC (.str "P")) tNil))) tNil) tNil))))) (tSeq (tAsg (tLst (tCons (tU (spD (WK K) 0 (mP 3 m__law_put)) (tCons (tVar 0) (tCons (tLst tNil) (tCons (tC (.str "G")) tNil))) tNil) (tCons (tU (spD (WK K) 0 (mP 3 m__law_put)) (tCons (tVar 0) (tCons (tLst (tCons (tTup (tCons (tC (.int 1)) (tCons (tC (.str "G")) tNil))) tNil)) (tCons (tC (.str "K")) tNil))) tNil) tNil))) (gName 3)) (tSeq (tFor (iRng2 (tCons (tC (.int 2)) (tCons (tOp (rI0 fun i j => .int (i + j)) (tVar 0) (tC (.int 1))) tNil))) (gName 4) (tDrop (tBM K "list" rAppend (tVar 3) (tCons (tU (spD (WK K) 0 (mP 3 m__law_put)) (tCons (tVar 0) (tCons (tLst (tCons (tTup (tCons (tVar 4) (tCons (tC (.str "G")) tNil))) (tCons (tTup (tCons (tOp (rI0 fun i j => .int (i - j)) (tVar 4) (tC (.int 1))) (tCons (tC (.str "K")) tNil))) tNil))) (tCons (tC (.str "G")) tNil))) tNil) tNil)))) (tDrop (tBM K "list" rAppend (tVar 3) (tCons (tU (spD (WK K) 0 (mP 3 m__law_put)) (tCons (tVar 0) (tCons (tLst (tCons (tTup (tCons (tVar 0) (tCons (tC (.str "K")) tNil))) tNil)) (tCons (tC (.str "G")) tNil))) tNil) tNil)))))) (tRet (tOp rCat (tVar 3) (tOp rRep (tLst (tCons (tU (spD (WK K) 0 (mP 3 m__law_put)) (tCons (tVar 0) (tCons (tLst tNil) (tCons (tIf (tB (tVar 1)) (tC (.str "P")) (tC (.str "K"))) tNil))) tNil) tNil)) (tCB (fun xs H Q => (∃ i, xs = [.int i] ∧ Q (.int i) H) ∨ ∃ k, xs = [.bl k] ∧ Q (.int (if k then 1 else 0)) H) (tCons (tVar 2) tNil)))))))
def b__law_standard : MS := (sSeq (sAsgO 3 (aCap aNil)) (sSeq (sIf (tOf (eVar 1)) (sSeq (sFor (iR2 (aCons (eC (.int 1)) (aCons (eBin gAdd (eVar 0) (eC (.int 1))) aNil))) (gN 4) (sApp 3 (eU (mP 3 m__law_put) (aCons (eVar 0) (aCons (eLst (aCons (eTup (aCons (eVar 4) (aCons (eC (.str "G")) aNil))) aNil)) (aCons (eC (.str "P")) aNil))) aNil))) (sFor (iR2 (aCons (eC (.int 1)) (aCons (eBin gAdd (eVar 0) (eC (.int 1))) aNil))) (gN 4) (sApp 3 (eU (mP 3 m__law_put) (aCons (eVar 0) (aCons (eLst (aCons (eTup (aCons (eVar 4) (aCons (eC (.str "G")) aNil))) (aCons (eTup (aCons (eIf (tOf (eBin gGt (eVar 4) (eC (.int 1)))) (eBin gSubI (eVar 4) (eC (.int 1))) (eVar 0)) (aCons (eC (.str "K")) aNil))) aNil))) (aCons (eC (.str "P")) aNil))) aNil)))) (sSeq (sAsgO 3 (aCap (aCons (eU (mP 3 m__law_put) (aCons (eVar 0) (aCons (eLst aNil) (aCons (eC (.str "G")) aNil))) aNil) (aCons (eU (mP 3 m__law_put) (aCons (eVar 0) (aCons (eLst (aCons (eTup (aCons (eC (.int 1)) (aCons (eC (.str "G")) aNil))) aNil)) (aCons (eC (.str "K")) aNil))) aNil) aNil)))) (sSeq (sFor (iR2 (aCons (eC (.int 2)) (aCons (eBin gAdd (eVar 0) (eC (.int 1))) aNil))) (gN 4) (sApp 3 (eU (mP 3 m__law_put) (aCons (eVar 0) (aCons (eLst (aCons (eTup (aCons (eVar 4) (aCons (eC (.str "G")) aNil))) (aCons (eTup (aCons (eBin gSubI (eVar 4) (eC (.int 1))) (aCons (eC (.str "K")) aNil))) aNil))) (aCons (eC (.str "G")) aNil))) aNil))) (sApp 3 (eU (mP 3 m__law_put) (aCons (eVar 0) (aCons (eLst (aCons (eTup (aCons (eVar 0) (aCons (eC (.str "K")) aNil))) aNil)) (aCons (eC (.str "G")) aNil))) aNil))))) (sRet (eBin gCat (eOwn 3) (eBin gRep (eLst (aCons (eU (mP 3 m__law_put) (aCons (eVar 0) (aCons (eLst aNil) (aCons (eIf (tOf (eVar 1)) (eC (.str "P")) (eC (.str "K"))) aNil))) aNil) aNil)) (eCall cInt (aCons (eVar 2) aNil)))))))
def m__law_standard : List D → Option D := runB 5 b__law_standard
theorem bk__law_standard (T : Txt K mg) : BodyOk P w K mg base ["_law_size", "_law_is_ring", "_law_is_stuck", "_law_found", "_law_spot"] "_law_standard" (defScope s__law_standard) (defBody s__law_standard) 1 (t__law_standard K) := fun f cdv A outer s H E hr =>
  (pss_cons (ps_set (i := 3) sc__law_standard.nd rfl (by first | exact Or.inl rfl | exact Or.inr rfl) (pe_lst pa_nil)) (pss_cons (ps_if (pt_val (pv 1)) (pss_cons (ps_for PassesOwn.never rfl (pi_range2 (by rfl) T.b_range (pa_cons pe_int (pa_cons (pe_op op_add (pv 0) pe_int) pa_nil))) (pg_name (i := 4) sc__law_standard.nd rfl (by first | exact Or.inl rfl | exact Or.inr rfl)) (pss_one (ps_expr (pe_bm PySem.F.plainAttrs_list PySem.F.slot_list_append PySem.F.type_list_append mt_append (pv 3) (pa_cons (pe_u (g__law_put T) (hr.mono (by decide)) (by rfl) (pa_cons (pv 0) (pa_cons (pe_lst (pa_cons (pe_tup (pa_cons (pv 4) (pa_cons pe_str pa_nil))) pa_nil)) (pa_cons pe_str pa_nil)))) pa_nil))))) (pss_one (ps_for PassesOwn.never rfl (pi_range2 (by rfl) T.b_range (pa_cons pe_int (pa_cons (pe_op op_add (pv 0) pe_int) pa_nil))) (pg_name (i := 4) sc__law_standard.nd rfl (by first | exact Or.inl rfl | exact Or.inr rfl)) (pss_one (ps_expr (pe_bm PySem.F.plainAttrs_list PySem.F.slot_list_append PySem.F.type_list_append mt_append (pv 3) (pa_cons (pe_u (g__law_put T) (hr.mono (by decide)) (by rfl) (pa_cons (pv 0) (pa_cons (pe_lst (pa_cons (pe_tup (pa_cons (pv 4) (pa_cons pe_str pa_nil))) (pa_cons (pe_tup (pa_cons (pe_ifExp (pt_cmpR op_gt (pv 4) pe_int (nomark _)) (pe_op op_sub (pv 4) pe_int) (pv 0)) (pa_cons pe_str pa_nil))) pa_nil))) (pa_cons pe_str pa_nil)))) pa_nil))))))) (pss_cons (ps_set (i := 3) sc__law_standard.nd rfl (by first | exact Or.inl rfl | exact Or.inr rfl) (pe_lst (pa_cons (pe_u (g__law_put T) (hr.mono (by decide)) (by rfl) (pa_cons (pv 0) (pa_cons (pe_lst pa_nil) (pa_cons pe_str pa_nil)))) (pa_cons (pe_u (g__law_put T) (hr.mono (by decide)) (by rfl) (pa_cons (pv 0) (pa_cons (pe_lst (pa_cons (pe_tup (pa_cons pe_int (pa_cons pe_str pa_nil))) pa_nil)) (pa_cons pe_str pa_nil)))) pa_nil)))) (pss_cons (ps_for PassesOwn.never rfl (pi_range2 (by rfl) T.b_range (pa_cons pe_int (pa_cons (pe_op op_add (pv 0) pe_int) pa_nil))) (pg_name (i := 4) sc__law_standard.nd rfl (by first | exact Or.inl rfl | exact Or.inr rfl)) (pss_one (ps_expr (pe_bm PySem.F.plainAttrs_list PySem.F.slot_list_append PySem.F.type_list_append mt_append (pv 3) (pa_cons (pe_u (g__law_put T) (hr.mono (by decide)) (by rfl) (pa_cons (pv 0) (pa_cons (pe_lst (pa_cons (pe_tup (pa_cons (pv 4) (pa_cons pe_str pa_nil))) (pa_cons (pe_tup (pa_cons (pe_op op_sub (pv 4) pe_int) (pa_cons pe_str pa_nil))) pa_nil))) (pa_cons pe_str pa_nil)))) pa_nil))))) (pss_one (ps_expr (pe_bm PySem.F.plainAttrs_list PySem.F.slot_list_append PySem.F.type_list_append mt_append (pv 3) (pa_cons (pe_u (g__law_put T) (hr.mono (by decide)) (by rfl) (pa_cons (pv 0) (pa_cons (pe_lst (pa_cons (pe_tup (pa_cons (pv 0) (pa_cons pe_str pa_nil))) pa_nil)) (pa_cons pe_str pa_nil)))) pa_nil))))))) (pss_one (ps_ret (pe_op op_cat (pv 3) (pe_op op_rep (pe_lst (pa_cons (pe_u (g__law_put T) (hr.mono (by decide)) (by rfl) (pa_cons (pv 0) (pa_cons (pe_lst pa_nil) (pa_cons (pe_ifExp (pt_val (pv 1)) pe_str pe_str) pa_nil)))) pa_nil)) (pe_callTy call_int1 (by rfl) T.b_int (by decide +kernel) (pa_cons (pv 2) pa_nil))))))))
theorem sm__law_standard (T : Txt K mg) : SmS (WK K) (t__law_standard K) b__law_standard :=
  (sms_seq (sms_asgO (sml_lst sma_nil)) (sms_seq (sms_if (smt_B sm_var) (sms_seq (sms_for (smi_r2 (sma_cons sm_int (sma_cons (sm_op s_add (Sm.b sm_var) (Sm.b sm_int)) sma_nil))) tgs_name (sms_app (sm_u (sma_cons sm_var (sma_cons (sm_lst (sma_cons (sm_tup (sma_cons sm_var (sma_cons sm_str sma_nil))) sma_nil)) (sma_cons sm_str sma_nil))) sma_nil))) (sms_for (smi_r2 (sma_cons sm_int (sma_cons (sm_op s_add (Sm.b sm_var) (Sm.b sm_int)) sma_nil))) tgs_name (sms_app (sm_u (sma_cons sm_var (sma_cons (sm_lst (sma_cons (sm_tup (sma_cons sm_var (sma_cons sm_str sma_nil))) (sma_cons (sm_tup (sma_cons (sm_if (smt_T (sm_op s_gt (Sm.b sm_var) (Sm.b sm_int))) (sm_op s_sub (Sm.b sm_var) (Sm.b sm_int)) sm_var) (sma_cons sm_str sma_nil))) sma_nil))) (sma_cons sm_str sma_nil))) sma_nil)))) (sms_seq (sms_asgO (sml_lst (sma_cons (sm_u (sma_cons sm_var (sma_cons (sm_lst sma_nil) (sma_cons sm_str sma_nil))) sma_nil) (sma_cons (sm_u (sma_cons sm_var (sma_cons (sm_lst (sma_cons (sm_tup (sma_cons sm_int (sma_cons sm_str sma_nil))) sma_nil)) (sma_cons sm_str sma_nil))) sma_nil) sma_nil)))) (sms_seq (sms_for (smi_r2 (sma_cons sm_int (sma_cons (sm_op s_add (Sm.b sm_var) (Sm.b sm_int)) sma_nil))) tgs_name (sms_app (sm_u (sma_cons sm_var (sma_cons (sm_lst (sma_cons (sm_tup (sma_cons sm_var (sma_cons sm_str sma_nil))) (sma_cons (sm_tup (sma_cons (sm_op s_sub (Sm.b sm_var) (Sm.b sm_int)) (sma_cons sm_str sma_nil))) sma_nil))) (sma_cons sm_str sma_nil))) sma_nil))) (sms_app (sm_u (sma_cons sm_var (sma_cons (sm_lst (sma_cons (sm_tup (sma_cons sm_var (sma_cons sm_str sma_nil))) sma_nil)) (sma_cons sm_str sma_nil))) sma_nil))))) (sms_ret (sm_op s_cat smb_own (Sm.b (sm_op s_rep (Sm.b (sm_lst (sma_cons (sm_u (sma_cons sm_var (sma_cons (sm_lst sma_nil) (sma_cons (sm_if (smt_B sm_var) sm_str sm_str) sma_nil))) sma_nil) sma_nil))) (Sm.b (sm_cb cs_int (smab_cons (Sm.b sm_var) (SmA.b sma_nil))))))))))
theorem g__law_standard (T : Txt K mg) : GoodD P w K mg base (WK K) 2 "_law_standard" [] (mP 3 m__law_standard) := by
  obtain ⟨f, fd, hm, F⟩ := T.f__law_standard
  exact good_of hm F (ok_def F sc__law_standard (bk__law_standard T) (sm__law_standard T)) (F.bindsN fun _ _ _ _ _ _ us hl => match us, hl with | [_, _, _], _ => rfl)
theorem sc__law_filled : FnScope ["_law_some", "_law_size"] ["_law_some"] (defScope s__law_filled) := ⟨rfl, rfl, rfl, by decide +kernel, rfl, by decide +kernel, by decide +kernel⟩
def t__law_filled (K : PySem.W.Frag) : TS := (tSeq (tFor (iTup K (tTup (tCons (tC (.int 0)) (tCons (tC (.int 1)) (tCons (tC (.int 4)) (tCons (tC (.int 6)) tNil)))))) (gName 1) (tIfS (tTest (tOp (rI0 fun i j => .bl (decide (i ≤ j))) (tCB (fun xs H Q => ∃ x n, xs = [x] ∧ LenV K x H n ∧ Q (.int n) H) (tCons (tVar 0) tNil)) (tVar 1))) (tRet (tOp rCat (tVar 0) (tOp rRep (tSl (rSlL K) (tVar 0) (tPart (tUn (rU fun i => .int (-i)) (tC (.int 1)))) tNoPart) (tOp (rI0 fun i j => .int (i - j)) (tVar 1) (tCB (fun xs H Q => ∃ x n, xs = [x] ∧ LenV K x H n ∧ Q (.int n) H) (tCons (tVar 0) tNil)))))) tNext)) (tRet (tSl (rSlL K) (tVar 0) tNoPart (tPart (tC (.int 6))))))
def b__law_filled : MS := (sSeq (sFor (iTp (eTup (aCons (eC (.int 0)) (aCons (eC (.int 1)) (aCons (eC (.int 4)) (aCons (eC (.int 6)) aNil)))))) (gN 1) (sIf (tOf (eBin gLe (eCall cLen (aCons (eVar 0) aNil)) (eVar 1))) (sRet (eBin gCat (eVar 0) (eBin gRep (eSlL (eVar 0) (oSome (eNeg (eC (.int 1)))) oNone) (eBin gSubI (eVar 1) (eCall cLen (aCons (eVar 0) aNil)))))) sNext)) (sRet (eSlL (eVar 0) oNone (oSome (eC (.int 6))))))
def m__law_filled : List D → Option D := runB 2 b__law_filled
theorem bk__law_filled (T : Txt K mg) : BodyOk P w K mg base ["_law_some", "_law_size"] "_law_filled" (defScope s__law_filled) (defBody s__law_filled) 0 (t__law_filled K) := fun f cdv A outer s H E hr =>
  (pss_cons (ps_for PassesOwn.never rfl (pi_tup (pe_tup (pa_cons pe_int (pa_cons pe_int (pa_cons pe_int (pa_cons pe_int pa_nil)))))) (pg_name (i := 1) sc__law_filled.nd rfl (by first | exact Or.inl rfl | exact Or.inr rfl)) (pss_one (ps_if (pt_cmpR op_le (pe_callB call_len (by rfl) T.b_len (by decide +kernel) (pa_cons (pv 0) pa_nil)) (pv 1) (nomark _)) (pss_one (ps_ret (pe_op op_cat (pv 0) (pe_op op_rep (pe_slice sl_list (pv 0) (po_some (pe_un un_neg pe_int)) po_none) (pe_op op_sub (pv 1) (pe_callB call_len (by rfl) T.b_len (by decide +kernel) (pa_cons (pv 0) pa_nil))))))) pss_nil))) (pss_one (ps_ret (pe_slice sl_list (pv 0) po_none (po_some pe_int)))))
theorem sm__law_filled (T : Txt K mg) : SmS (WK K) (t__law_filled K) b__law_filled :=
  (sms_seq (sms_for (smi_tup (sm_tup (sma_cons sm_int (sma_cons sm_int (sma_cons sm_int (sma_cons sm_int sma_nil)))))) tgs_name (sms_if (smt_T (sm_op s_le (Sm.b (sm_cb cs_len (smab_cons (Sm.b sm_var) (SmA.b sma_nil)))) (Sm.b sm_var))) (sms_ret (sm_op s_cat (Sm.b sm_var) (Sm.b (sm_op s_rep (Sm.b (sm_slL sm_var (smo_some (sm_neg sm_int)) smo_none)) (Sm.b (sm_op s_sub (Sm.b sm_var) (Sm.b (sm_cb cs_len (smab_cons (Sm.b sm_var) (SmA.b sma_nil)))))))))) sms_next)) (sms_ret (sm_slL sm_var smo_none (smo_some sm_int))))
theorem g__law_filled (T : Txt K mg) : GoodD P w K mg base (WK K) 1 "_law_filled" [] (mP 1 m__law_filled) := by
  obtain ⟨f, fd, hm, F⟩ := T.f__law_filled
  exact good_of hm F (ok_def F sc__law_filled (bk__law_filled T) (sm__law_filled T)) (F.bindsN fun _ _ _ _ _ _ us hl => match us, hl with | [_], _ => rfl)
end
end CP
/-! part CpQ -/
set_option Elab.async false
set_option linter.all false
set_option maxRecDepth 100000
set_option maxHeartbeats 4000000
namespace CP
open PySem PySem.Spec PyProof.Rows L2 CPH
section
variable {P : Program} {w : World} {K : PySem.W.Frag} {mg : Str → Option Value} {base : Heap}
theorem sc__law_judge : FnScope ["_law_t", "_law_size", "_law_asked", "_law_is_ring", "_law_is_stuck"] ["_law_t", "_law_size", "_law_asked", "_law_is_ring", "_law_is_stuck"] (defScope s__law_judge) := ⟨rfl, rfl, rfl, by decide +kernel, rfl, by decide +kernel, by decide +kernel⟩
def t__law_judge (K : PySem.W.Frag) : TS := (tSeq (tIfS (tTest (tOp (rI0 fun i j => .bl (decide (i < j))) (tCB (fun xs H Q => ∃ x n, xs = [x] ∧ LenV K x H n ∧ Q (.int n) H) (tCons (tVar 0) tNil)) (tC (.int 2)))) (tSeq (tIfS (tTest (tOp (rEqD K) (tVar 0) (tLst tNil))) (tRet (tUK 3 (spD (WK K) 3 (mStar 1 .tup m_judge)) (tCons (tVar 1) tNil) (tCons (tVar 2) (tCons (tVar 3) (tCons (tVar 4) tNil))))) tNext) (tRet (tUK 3 (spD (WK K) 3 (mStar 1 .tup m_judge)) (tCons (tVar 1) (tCons (tOp (rIx K) (tVar 0) (tC (.int 0))) tNil)) (tCons (tVar 2) (tCons (tVar 3) (tCons (tVar 4) tNil)))))) tNext) (tSeq (tIfS (tTest (tOp rEq (tCB (fun xs H Q => ∃ x n, xs = [x] ∧ LenV K x H n ∧ Q (.int n) H) (tCons (tVar 0) tNil)) (tC (.int 4)))) (tRet (tUK 3 (spD (WK K) 3 (mStar 1 .tup m_judge)) (tCons (tVar 1) (tCons (tOp (rIx K) (tVar 0) (tC (.int 0))) (tCons (tOp (rIx K) (tVar 0) (tC (.int 1))) (tCons (tOp (rIx K) (tVar 0) (tC (.int 2))) (tCons (tOp (rIx K) (tVar 0) (tC (.int 3))) tNil))))) (tCons (tVar 2) (tCons (tVar 3) (tCons (tVar 4) tNil))))) tNext) (tRet (tUK 3 (spD (WK K) 3 (mStar 1 .tup m_judge)) (tCons (tVar 1) (tCons (tOp (rIx K) (tVar 0) (tC (.int 0))) (tCons (tOp (rIx K) (tVar 0) (tC (.int 1))) (tCons (tOp (rIx K) (tVar 0) (tC (.int 2))) (tCons (tOp (rIx K) (tVar 0) (tC (.int 3))) (tCons (tOp (rIx K) (tVar 0) (tC (.int 4))) (tCons (tOp (rIx K) (tVar 0) (tC (.int 5))) tNil))))))) (tCons (tVar 2) (tCons (tVar 3) (tCons (tVar 4) tNil)))))))
def b__law_judge : MS := (sSeq (sIf (tOf (eBin gLt (eCall cLen (aCons (eVar 0) aNil)) (eC (.int 2)))) (sSeq (sIf (tOf (eBin (gEqD false) (eVar 0) (eLst aNil))) (sRet (eUK 3 (mStar 1 .tup m_judge) (aCons (eVar 1) aNil) (aCons (eVar 2) (aCons (eVar 3) (aCons (eVar 4) aNil))))) sNext) (sRet (eUK 3 (mStar 1 .tup m_judge) (aCons (eVar 1) (aCons (eBin gIx (eVar 0) (eC (.int 0))) aNil)) (aCons (eVar 2) (aCons (eVar 3) (aCons (eVar 4) aNil)))))) sNext) (sSeq (sIf (tOf (eBin (gEq false) (eCall cLen (aCons (eVar 0) aNil)) (eC (.int 4)))) (sRet (eUK 3 (mStar 1 .tup m_judge) (aCons (eVar 1) (aCons (eBin gIx (eVar 0) (eC (.int 0))) (aCons (eBin gIx (eVar 0) (eC (.int 1))) (aCons (eBin gIx (eVar 0) (eC (.int 2))) (aCons (eBin gIx (eVar 0) (eC (.int 3))) aNil))))) (aCons (eVar 2) (aCons (eVar 3) (aCons (eVar 4) aNil))))) sNext) (sRet (eUK 3 (mStar 1 .tup m_judge) (aCons (eVar 1) (aCons (eBin gIx (eVar 0) (eC (.int 0))) (aCons (eBin gIx (eVar 0) (eC (.int 1))) (aCons (eBin gIx (eVar 0) (eC (.int 2))) (aCons (eBin gIx (eVar 0) (eC (.int 3))) (aCons (eBin gIx (eVar 0) (eC (.int 4))) (aCons (eBin gIx (eVar 0) (eC (.int 5))) aNil))))))) (aCons (eVar 2) (aCons (eVar 3) (aCons (eVar 4) aNil)))))))
def m__law_judge : List D → Option D := runB 5 b__law_judge
theorem bk__law_judge (T : Txt K mg) : BodyOk P w K mg base ["_law_t", "_law_size", "_law_asked", "_law_is_ring", "_law_is_stuck"] "_law_judge" (defScope s__law_judge) (defBody s__law_judge) 5 (t__law_judge K) := fun f cdv A outer s H E hr =>
  (pss_cons (ps_if (pt_cmpR op_lt (pe_callB call_len (by rfl) T.b_len (by decide +kernel) (pa_cons (pv 0) pa_nil)) pe_int (nomark _)) (pss_cons (ps_if (pt_cmpR (op_eqD hr.units) (pv 0) (pe_lst pa_nil) (nomark _)) (pss_one (ps_ret (pe_uK (g_judge T) (hr.mono (by decide)) (by rfl) (pa_cons (pv 1) pa_nil) (pk_cons (pv 2) (pk_cons (pv 3) (pk_cons (pv 4) pk_nil)))))) pss_nil) (pss_one (ps_ret (pe_uK (g_judge T) (hr.mono (by decide)) (by rfl) (pa_cons (pv 1) (pa_cons (pe_ix ix_seq (pv 0) pe_int (fun _ _ => rfl)) pa_nil)) (pk_cons (pv 2) (pk_cons (pv 3) (pk_cons (pv 4) pk_nil))))))) pss_nil) (pss_cons (ps_if (pt_cmpR op_eq (pe_callB call_len (by rfl) T.b_len (by decide +kernel) (pa_cons (pv 0) pa_nil)) pe_int (nomark _)) (pss_one (ps_ret (pe_uK (g_judge T) (hr.mono (by decide)) (by rfl) (pa_cons (pv 1) (pa_cons (pe_ix ix_seq (pv 0) pe_int (fun _ _ => rfl)) (pa_cons (pe_ix ix_seq (pv 0) pe_int (fun _ _ => rfl)) (pa_cons (pe_ix ix_seq (pv 0) pe_int (fun _ _ => rfl)) (pa_cons (pe_ix ix_seq (pv 0) pe_int (fun _ _ => rfl)) pa_nil))))) (pk_cons (pv 2) (pk_cons (pv 3) (pk_cons (pv 4) pk_nil)))))) pss_nil) (pss_one (ps_ret (pe_uK (g_judge T) (hr.mono (by decide)) (by rfl) (pa_cons (pv 1) (pa_cons (pe_ix ix_seq (pv 0) pe_int (fun _ _ => rfl)) (pa_cons (pe_ix ix_seq (pv 0) pe_int (fun _ _ => rfl)) (pa_cons (pe_ix ix_seq (pv 0) pe_int (fun _ _ => rfl)) (pa_cons (pe_ix ix_seq (pv 0) pe_int (fun _ _ => rfl)) (pa_cons (pe_ix ix_seq (pv 0) pe_int (fun _ _ => rfl)) (pa_cons (pe_ix ix_seq (pv 0) pe_int (fun _ _ => rfl)) pa_nil))))))) (pk_cons (pv 2) (pk_cons (pv 3) (pk_cons (pv 4) pk_nil))))))))
theorem sm__law_judge (T : Txt K mg) : SmS (WK K) (t__law_judge K) b__law_judge :=
  (sms_seq (sms_if (smt_T (sm_op s_lt (Sm.b (sm_cb cs_len (smab_cons (Sm.b sm_var) (SmA.b sma_nil)))) (Sm.b sm_int))) (sms_seq (sms_if (smt_T (sm_op s_eqD (Sm.b sm_var) (Sm.b (sm_lst sma_nil)))) (sms_ret (sm_uK (sma_cons sm_var sma_nil) (sma_cons sm_var (sma_cons sm_var (sma_cons sm_var sma_nil))))) sms_next) (sms_ret (sm_uK (sma_cons sm_var (sma_cons (sm_op s_ix (Sm.b sm_var) (Sm.b sm_int)) sma_nil)) (sma_cons sm_var (sma_cons sm_var (sma_cons sm_var sma_nil)))))) sms_next) (sms_seq (sms_if (smt_T (sm_op s_eq (Sm.b (sm_cb cs_len (smab_cons (Sm.b sm_var) (SmA.b sma_nil)))) (Sm.b sm_int))) (sms_ret (sm_uK (sma_cons sm_var (sma_cons (sm_op s_ix (Sm.b sm_var) (Sm.b sm_int)) (sma_cons (sm_op s_ix (Sm.b sm_var) (Sm.b sm_int)) (sma_cons (sm_op s_ix (Sm.b sm_var) (Sm.b sm_int)) (sma_cons (sm_op s_ix (Sm.b sm_var) (Sm.b sm_int)) sma_nil))))) (sma_cons sm_var (sma_cons sm_var (sma_cons sm_var sma_nil))))) sms_next) (sms_ret (sm_uK (sma_cons sm_var (sma_cons (sm_op s_ix (Sm.b sm_var) (Sm.b sm_int)) (sma_cons (sm_op s_ix (Sm.b sm_var) (Sm.b sm_int)) (sma_cons (sm_op s_ix (Sm.b sm_var) (Sm.b sm_int)) (sma_cons (sm_op s_ix (Sm.b sm_var) (Sm.b sm_int)) (sma_cons (sm_op s_ix (Sm.b sm_var) (Sm.b sm_int)) (sma_cons (sm_op s_ix (Sm.b sm_var) (Sm.b sm_int)) sma_nil))))))) (sma_cons sm_var (sma_cons sm_var (sma_cons sm_var sma_nil)))))))
theorem g__law_judge (T : Txt K mg) : GoodD P w K mg base (WK K) 6 "_law_judge" [] (mP 5 m__law_judge) := by
  obtain ⟨f, fd, hm, F⟩ := T.f__law_judge
  exact good_of hm F (ok_def F sc__law_judge (bk__law_judge T) (sm__law_judge T)) (F.bindsN fun _ _ _ _ _ _ us hl => match us, hl with | [_, _, _, _, _], _ => rfl)
theorem sc__law_is_enough : FnScope ["_law_t", "_law_size", "_law_asked", "_law_is_ring", "_law_is_stuck"] ["_law_t", "_law_size", "_law_asked", "_law_is_ring", "_law_is_stuck"] (defScope s__law_is_enough) := ⟨rfl, rfl, rfl, by decide +kernel, rfl, by decide +kernel, by decide +kernel⟩
def t__law_is_enough (K : PySem.W.Frag) : TS := (tSeq (tIfS (tTest (tOp (rI0 fun i j => .bl (decide (i < j))) (tCB (fun xs H Q => ∃ x n, xs = [x] ∧ LenV K x H n ∧ Q (.int n) H) (tCons (tVar 0) tNil)) (tC (.int 2)))) (tSeq (tIfS (tTest (tOp (rEqD K) (tVar 0) (tLst tNil))) (tRet (tUK 3 (spD (WK K) 3 (mStar 1 .tup m_is_enough)) (tCons (tVar 1) tNil) (tCons (tVar 2) (tCons (tVar 3) (tCons (tVar 4) tNil))))) tNext) (tRet (tUK 3 (spD (WK K) 3 (mStar 1 .tup m_is_enough)) (tCons (tVar 1) (tCons (tOp (rIx K) (tVar 0) (tC (.int 0))) tNil)) (tCons (tVar 2) (tCons (tVar 3) (tCons (tVar 4) tNil)))))) tNext) (tSeq (tIfS (tTest (tOp rEq (tCB (fun xs H Q => ∃ x n, xs = [x] ∧ LenV K x H n ∧ Q (.int n) H) (tCons (tVar 0) tNil)) (tC (.int 4)))) (tRet (tUK 3 (spD (WK K) 3 (mStar 1 .tup m_is_enough)) (tCons (tVar 1) (tCons (tOp (rIx K) (tVar 0) (tC (.int 0))) (tCons (tOp (rIx K) (tVar 0) (tC (.int 1))) (tCons (tOp (rIx K) (tVar 0) (tC (.int 2))) (tCons (tOp (rIx K) (tVar 0) (tC (.int 3))) tNil))))) (tCons (tVar 2) (tCons (tVar 3) (tCons (tVar 4) tNil))))) tNext) (tRet (tUK 3 (spD (WK K) 3 (mStar 1 .tup m_is_enough)) (tCons (tVar 1) (tCons (tOp (rIx K) (tVar 0) (tC (.int 0))) (tCons (tOp (rIx K) (tVar 0) (tC (.int 1))) (tCons (tOp (rIx K) (tVar 0) (tC (.int 2))) (tCons (tOp (rIx K) (tVar 0) (tC (.int 3))) (tCons (tOp (rIx K) (tVar 0) (tC (.int 4))) (tCons (tOp (rIx K) (tVar 0) (tC (.int 5))) tNil))))))) (tCons (tVar 2) (tCons (tVar 3) (tCons (tVar 4) tNil)))))))
def b__law_is_enough : MS := (sSeq (sIf (tOf (eBin gLt (eCall cLen (aCons (eVar 0) aNil)) (eC (.int 2)))) (sSeq (sIf (tOf (eBin (gEqD false) (eVar 0) (eLst aNil))) (sRet (eUK 3 (mStar 1 .tup m_is_enough) (aCons (eVar 1) aNil) (aCons (eVar 2) (aCons (eVar 3) (aCons (eVar 4) aNil))))) sNext) (sRet (eUK 3 (mStar 1 .tup m_is_enough) (aCons (eVar 1) (aCons (eBin gIx (eVar 0) (eC (.int 0))) aNil)) (aCons (eVar 2) (aCons (eVar 3) (aCons (eVar 4) aNil)))))) sNext) (sSeq (sIf (tOf (eBin (gEq false) (eCall cLen (aCons (eVar 0) aNil)) (eC (.int 4)))) (sRet (eUK 3 (mStar 1 .tup m_is_enough) (aCons (eVar 1) (aCons (eBin gIx (eVar 0) (eC (.int 0))) (aCons (eBin gIx (eVar 0) (eC (.int 1))) (aCons (eBin gIx (eVar 0) (eC (.int 2))) (aCons (eBin gIx (eVar 0) (eC (.int 3))) aNil))))) (aCons (eVar 2) (aCons (eVar 3) (aCons (eVar 4) aNil))))) sNext) (sRet (eUK 3 (mStar 1 .tup m_is_enough) (aCons (eVar 1) (aCons (eBin gIx (eVar 0) (eC (.int 0))) (aCons (eBin gIx (eVar 0) (eC (.int 1))) (aCons (eBin gIx (eVar 0) (eC (.int 2))) (aCons (eBin gIx (eVar 0) (eC (.int 3))) (aCons (eBin gIx (eVar 0) (eC (.int 4))) (aCons (eBin gIx (eVar 0) (eC (.int 5))) aNil))))))) (aCons (eVar 2) (aCons (eVar 3) (aCons (eVar 4) aNil)))))))
def m__law_is_enough : List D → Option D := runB 5 b__law_is_enough
theorem bk__law_is_enough (T : Txt K mg) : BodyOk P w K mg base ["_law_t", "_law_size", "_law_asked", "_law_is_ring", "_law_is_stuck"] "_law_is_enough" (defScope s__law_is_enough) (defBody s__law_is_enough) 6 (t__law_is_enough K) := fun f cdv A outer s H E hr =>
  (pss_cons (ps_if (pt_cmpR op_lt (pe_callB call_len (by rfl) T.b_len (by decide +kernel) (pa_cons (pv 0) pa_nil)) pe_int (nomark _)) (pss_cons (ps_if (pt_cmpR (op_eqD hr.units) (pv 0) (pe_lst pa_nil) (nomark _)) (pss_one (ps_ret (pe_uK (g_is_enough T) (hr.mono (by decide)) (by rfl) (pa_cons (pv 1) pa_nil) (pk_cons (pv 2) (pk_cons (pv 3) (pk_cons (pv 4) pk_nil)))))) pss_nil) (pss_one (ps_ret (pe_uK (g_is_enough T) (hr.mono (by decide)) (by rfl) (pa_cons (pv 1) (pa_cons (pe_ix ix_seq (pv 0) pe_int (fun _ _ => rfl)) pa_nil)) (pk_cons (pv 2) (pk_cons (pv 3) (pk_cons (pv 4) pk_nil))))))) pss_nil) (pss_cons (ps_if (pt_cmpR op_eq (pe_callB call_len (by rfl) T.b_len (by decide +kernel) (pa_cons (pv 0) pa_nil)) pe_int (nomark _)) (pss_one (ps_ret (pe_uK (g_is_enough T) (hr.mono (by decide)) (by rfl) (pa_cons (pv 1) (pa_cons (pe_ix ix_seq (pv 0) pe_int (fun _ _ => rfl)) (pa_cons (pe_ix ix_seq (pv 0) pe_int (fun _ _ => rfl)) (pa_cons (pe_ix ix_seq (pv 0) pe_int (fun _ _ => rfl)) (pa_cons (pe_ix ix_seq (pv 0) pe_int (fun _ _ => rfl)) pa_nil))))) (pk_cons (pv 2) (pk_cons (pv 3) (pk_cons (pv 4) pk_nil)))))) pss_nil) (pss_one (ps_ret (pe_uK (g_is_enough T) (hr.mono (by decide)) (by rfl) (pa_cons (pv 1) (pa_cons (pe_ix ix_seq (pv 0) pe_int (fun _ _ => rfl)) (pa_cons (pe_ix ix_seq (pv 0) pe_int (fun _ _ => rfl)) (pa_cons (pe_ix ix_seq (pv 0) pe_int (fun _ _ => rfl)) (pa_cons (pe_ix ix_seq (pv 0) pe_int (fun _ _ => rfl)) (pa_cons (pe_ix ix_seq (pv 0) pe_int (fun _ _ => rfl)) (pa_cons (pe_ix ix_seq (pv 0) pe_int (fun _ _ => rfl)) pa_nil))))))) (pk_cons (pv 2) (pk_cons (pv 3) (pk_cons (pv 4) pk_nil))))))))
theorem sm__law_is_enough (T : Txt K mg) : SmS (WK K) (t__law_is_enough K) b__law_is_enough :=
  (sms_seq (sms_if (smt_T (sm_op s_lt (Sm.b (sm_cb cs_len (smab_cons (Sm.b sm_var) (SmA.b sma_nil)))) (Sm.b sm_int))) (sms_seq (sms_if (smt_T (sm_op s_eqD (Sm.b sm_var) (Sm.b (sm_lst sma_nil)))) (sms_ret (sm_uK (sma_cons sm_var sma_nil) (sma_cons sm_var (sma_cons sm_var (sma_cons sm_var sma_nil))))) sms_next) (sms_ret (sm_uK (sma_cons sm_var (sma_cons (sm_op s_ix (Sm.b sm_var) (Sm.b sm_int)) sma_nil)) (sma_cons sm_var (sma_cons sm_var (sma_cons sm_var sma_nil)))))) sms_next) (sms_seq (sms_if (smt_T (sm_op s_eq (Sm.b (sm_cb cs_len (smab_cons (Sm.b sm_var) (SmA.b sma_nil)))) (Sm.b sm_int))) (sms_ret (sm_uK (sma_cons sm_var (sma_cons (sm_op s_ix (Sm.b sm_var) (Sm.b sm_int)) (sma_cons (sm_op s_ix (Sm.b sm_var) (Sm.b sm_int)) (sma_cons (sm_op s_ix (Sm.b sm_var) (Sm.b sm_int)) (sma_cons (sm_op s_ix (Sm.b sm_var) (Sm.b sm_int)) sma_nil))))) (sma_cons sm_var (sma_cons sm_var (sma_cons sm_var sma_nil))))) sms_next) (sms_ret (sm_uK (sma_cons sm_var (sma_cons (sm_op s_ix (Sm.b sm_var) (Sm.b sm_int)) (sma_cons (sm_op s_ix (Sm.b sm_var) (Sm.b sm_int)) (sma_cons (sm_op s_ix (Sm.b sm_var) (Sm.b sm_int)) (sma_cons (sm_op s_ix (Sm.b sm_var) (Sm.b sm_int)) (sma_cons (sm_op s_ix (Sm.b sm_var) (Sm.b sm_int)) (sma_cons (sm_op s_ix (Sm.b sm_var) (Sm.b sm_int)) sma_nil))))))) (sma_cons sm_var (sma_cons sm_var (sma_cons sm_var sma_nil)))))))
theorem g__law_is_enough (T : Txt K mg) : GoodD P w K mg base (WK K) 7 "_law_is_enough" [] (mP 5 m__law_is_enough) := by
  obtain ⟨f, fd, hm, F⟩ := T.f__law_is_enough
  exact good_of hm F (ok_def F sc__law_is_enough (bk__law_is_enough T) (sm__law_is_enough T)) (F.bindsN fun _ _ _ _ _ _ us hl => match us, hl with | [_, _, _, _, _], _ => rfl)
theorem sc__law_settled : FnScope ["_law_t", "_law_size", "_law_is_ring", "_law_is_stuck"] ["_law_t", "_law_size", "_law_is_ring", "_law_is_stuck"] (defScope s__law_settled) := ⟨rfl, rfl, rfl, by decide +kernel, rfl, by decide +kernel, by decide +kernel⟩
def t__law_settled (K : PySem.W.Frag) : TS := (tSeq (tIfS (tTest (tOp (rI0 fun i j => .bl (decide (i < j))) (tCB (fun xs H Q => ∃ x n, xs = [x] ∧ LenV K x H n ∧ Q (.int n) H) (tCons (tVar 0) tNil)) (tC (.int 2)))) (tSeq (tIfS (tTest (tOp (rEqD K) (tVar 0) (tLst tNil))) (tRet (tUK 2 (spD (WK K) 2 (mStar 1 .tup m_settled)) (tCons (tVar 1) tNil) (tCons (tVar 2) (tCons (tVar 3) tNil)))) tNext) (tRet (tUK 2 (spD (WK K) 2 (mStar 1 .tup m_settled)) (tCons (tVar 1) (tCons (tOp (rIx K) (tVar 0) (tC (.int 0))) tNil)) (tCons (tVar 2) (tCons (tVar 3) tNil))))) tNext) (tSeq (tIfS (tTest (tOp rEq (tCB (fun xs H Q => ∃ x n, xs = [x] ∧ LenV K x H n ∧ Q (.int n) H) (tCons (tVar 0) tNil)) (tC (.int 4)))) (tRet (tUK 2 (spD (WK K) 2 (mStar 1 .tup m_settled)) (tCons (tVar 1) (tCons (tOp (rIx K) (tVar 0) (tC (.int 0))) (tCons (tOp (rIx K) (tVar 0) (tC (.int 1))) (tCons (tOp (rIx K) (tVar 0) (tC (.int 2))) (tCons (tOp (rIx K) (tVar 0) (tC (.int 3))) tNil))))) (tCons (tVar 2) (tCons (tVar 3) tNil)))) tNext) (tRet (tUK 2 (spD (WK K) 2 (mStar 1 .tup m_settled)) (tCons (tVar 1) (tCons (tOp (rIx K) (tVar 0) (tC (.int 0))) (tCons (tOp (rIx K) (tVar 0) (tC (.int 1))) (tCons (tOp (rIx K) (tVar 0) (tC (.int 2))) (tCons (tOp (rIx K) (tVar 0) (tC (.int 3))) (tCons (tOp (rIx K) (tVar 0) (tC (.int 4))) (tCons (tOp (rIx K) (tVar 0) (tC (.int 5))) tNil))))))) (tCons (tVar 2) (tCons (tVar 3) tNil))))))
def b__law_settled : MS := (sSeq (sIf (tOf (eBin gLt (eCall cLen (aCons (eVar 0) aNil)) (eC (.int 2)))) (sSeq (sIf (tOf (eBin (gEqD false) (eVar 0) (eLst aNil))) (sRet (eUK 2 (mStar 1 .tup m_settled) (aCons (eVar 1) aNil) (aCons (eVar 2) (aCons (eVar 3) aNil)))) sNext) (sRet (eUK 2 (mStar 1 .tup m_settled) (aCons (eVar 1) (aCons (eBin gIx (eVar 0) (eC (.int 0))) aNil)) (aCons (eVar 2) (aCons (eVar 3) aNil))))) sNext) (sSeq (sIf (tOf (eBin (gEq false) (eCall cLen (aCons (eVar 0) aNil)) (eC (.int 4)))) (sRet (eUK 2 (mStar 1 .tup m_settled) (aCons (eVar 1) (aCons (eBin gIx (eVar 0) (eC (.int 0))) (aCons (eBin gIx (eVar 0) (eC (.int 1))) (aCons (eBin gIx (eVar 0) (eC (.int 2))) (aCons (eBin gIx (eVar 0) (eC (.int 3))) aNil))))) (aCons (eVar 2) (aCons (eVar 3) aNil)))) sNext) (sRet (eUK 2 (mStar 1 .tup m_settled) (aCons (eVar 1) (aCons (eBin gIx (eVar 0) (eC (.int 0))) (aCons (eBin gIx (eVar 0) (eC (.int 1))) (aCons (eBin gIx (eVar 0) (eC (.int 2))) (aCons (eBin gIx (eVar 0) (eC (.int 3))) (aCons (eBin gIx (eVar 0) (eC (.int 4))) (aCons (eBin gIx (eVar 0) (eC (.int 5))) aNil))))))) (aCons (eVar 2) (aCons (eVar 3) aNil))))))
def m__law_settled : List D → Option D := runB 4 b__law_settled
theorem bk__law_settled (T : Txt K mg) : BodyOk P w K mg base ["_law_t", "_law_size", "_law_is_ring", "_law_is_stuck"] "_law_settled" (defScope s__law_settled) (defBody s__law_settled) 7 (t__law_settled K) := fun f cdv A outer s H E hr =>
  (pss_cons (ps_if (pt_cmpR op_lt (pe_callB call_len (by rfl) T.b_len (by decide +kernel) (pa_cons (pv 0) pa_nil)) pe_int (nomark _)) (pss_cons (ps_if (pt_cmpR (op_eqD hr.units) (pv 0) (pe_lst pa_nil) (nomark _)) (pss_one (ps_ret (pe_uK (g_settled T) (hr.mono (by decide)) (by rfl) (pa_cons (pv 1) pa_nil) (pk_cons (pv 2) (pk_cons (pv 3) pk_nil))))) pss_nil) (pss_one (ps_ret (pe_uK (g_settled T) (hr.mono (by decide)) (by rfl) (pa_cons (pv 1) (pa_cons (pe_ix ix_seq (pv 0) pe_int (fun _ _ => rfl)) pa_nil)) (pk_cons (pv 2) (pk_cons (pv 3) pk_nil)))))) pss_nil) (pss_cons (ps_if (pt_cmpR op_eq (pe_callB call_len (by rfl) T.b_len (by decide +kernel) (pa_cons (pv 0) pa_nil)) pe_int (nomark _)) (pss_one (ps_ret (pe_uK (g_settled T) (hr.mono (by decide)) (by rfl) (pa_cons (pv 1) (pa_cons (pe_ix ix_seq (pv 0) pe_int (fun _ _ => rfl)) (pa_cons (pe_ix ix_seq (pv 0) pe_int (fun _ _ => rfl)) (pa_cons (pe_ix ix_seq (pv 0) pe_int (fun _ _ => rfl)) (pa_cons (pe_ix ix_seq (pv 0) pe_int (fun _ _ => rfl)) pa_nil))))) (pk_cons (pv 2) (pk_cons (pv 3) pk_nil))))) pss_nil) (pss_one (ps_ret (pe_uK (g_settled T) (hr.mono (by decide)) (by rfl) (pa_cons (pv 1) (pa_cons (pe_ix ix_seq (pv 0) pe_int (fun _ _ => rfl)) (pa_cons (pe_ix ix_seq (pv 0) pe_int (fun _ _ => rfl)) (pa_cons (pe_ix ix_seq (pv 0) pe_int (fun _ _ => rfl)) (pa_cons (pe_ix ix_seq (pv 0) pe_int (fun _ _ => rfl)) (pa_cons (pe_ix ix_seq (pv 0) pe_int (fun _ _ => rfl)) (pa_cons (pe_ix ix_seq (pv 0) pe_int (fun _ _ => rfl)) pa_nil))))))) (pk_cons (pv 2) (pk_cons (pv 3) pk_nil)))))))
theorem sm__law_settled (T : Txt K mg) : SmS (WK K) (t__law_settled K) b__law_settled :=
  (sms_seq (sms_if (smt_T (sm_op s_lt (Sm.b (sm_cb cs_len (smab_cons (Sm.b sm_var) (SmA.b sma_nil)))) (Sm.b sm_int))) (sms_seq (sms_if (smt_T (sm_op s_eqD (Sm.b sm_var) (Sm.b (sm_lst sma_nil)))) (sms_ret (sm_uK (sma_cons sm_var sma_nil) (sma_cons sm_var (sma_cons sm_var sma_nil)))) sms_next) (sms_ret (sm_uK (sma_cons sm_var (sma_cons (sm_op s_ix (Sm.b sm_var) (Sm.b sm_int)) sma_nil)) (sma_cons sm_var (sma_cons sm_var sma_nil))))) sms_next) (sms_seq (sms_if (smt_T (sm_op s_eq (Sm.b (sm_cb cs_len (smab_cons (Sm.b sm_var) (SmA.b sma_nil)))) (Sm.b sm_int))) (sms_ret (sm_uK (sma_cons sm_var (sma_cons (sm_op s_ix (Sm.b sm_var) (Sm.b sm_int)) (sma_cons (sm_op s_ix (Sm.b sm_var) (Sm.b sm_int)) (sma_cons (sm_op s_ix (Sm.b sm_var) (Sm.b sm_int)) (sma_cons (sm_op s_ix (Sm.b sm_var) (Sm.b sm_int)) sma_nil))))) (sma_cons sm_var (sma_cons sm_var sma_nil)))) sms_next) (sms_ret (sm_uK (sma_cons sm_var (sma_cons (sm_op s_ix (Sm.b sm_var) (Sm.b sm_int)) (sma_cons (sm_op s_ix (Sm.b sm_var) (Sm.b sm_int)) (sma_cons (sm_op s_ix (Sm.b sm_var) (Sm.b sm_int)) (sma_cons (sm_op s_ix (Sm.b sm_var) (Sm.b sm_int)) (sma_cons (sm_op s_ix (Sm.b sm_var) (Sm.b sm_int)) (sma_cons (sm_op s_ix (Sm.b sm_var) (Sm.b sm_int)) sma_nil))))))) (sma_cons sm_var (sma_cons sm_var sma_nil))))))
theorem g__law_settled (T : Txt K mg) : GoodD P w K mg base (WK K) 8 "_law_settled" [] (mP 4 m__law_settled) := by
  obtain ⟨f, fd, hm, F⟩ := T.f__law_settled
  exact good_of hm F (ok_def F sc__law_settled (bk__law_settled T) (sm__law_settled T)) (F.bindsN fun _ _ _ _ _ _ us hl => match us, hl with | [_, _, _, _], _ => rfl)
theorem sc__law_all_rows : FnScope ["_law_size", "_law_is_ring", "_law_is_stuck", "_law_found", "_law_level", "_law_k", "_law_ends_here", "_law_rows", "_law_row", "_law_longer", "_law_end", "_law_spot"] ["_law_size", "_law_is_ring", "_law_is_stuck"] (defScope s__law_all_rows) := ⟨rfl, rfl, rfl, by decide +kernel, rfl, by decide +kernel, by decide +kernel⟩
def t__law_all_rows (K : PySem.W.Frag) : TS := (tSeq (tAsg (tLst tNil) (gName 3)) (tSeq (tAsg (tLst (tCons (tTup tNil) tNil)) (gName 4)) (tSeq (tFor (iRng1 (tCons (tOp (rI0 fun i j => .int (i + j)) (tVar 0) (tC (.int 1))) tNil)) (gName 5) (tSeq (tAsg (tOp rCat (tVar 3) (tVar 4)) (gName 3)) (tSeq (tAsg (tLst tNil) (gName 9)) (tSeq (tFor (iList K (tVar 4)) (gName 8) (tDrop (tBM K "list" rExtend (tVar 9) (tCons (tLc (iRng2 (tCons (tC (.int 1)) (tCons (tOp (rI0 fun i j => .int (i + j)) (tVar 0) (tC (.int 1))) tNil))) (gName 11) (tTest (tOp (rIn K true) (tVar 11) (tVar 8))) (tOp (rCatA K) (tVar 8) (tTup (tCons (tVar 11) tNil))) [11]) tNil)))) (tAsg (tVar 9) (gName 4)))))) (tSeq (tAsg (tOp rCat (tOp rCat (tLst (tCons (tTup tNil) tNil)) (tOp rRep (tLst (tCons (tTup (tCons (tC (.int 0)) tNil)) tNil)) (tCB (fun xs H Q => (∃ i, xs = [.int i] ∧ Q (.int i) H) ∨ ∃ k, xs = [.bl k] ∧ Q (.int (if k then 1 else 0)) H) (tCons (tNotV (tVar 1)) tNil)))) (tOp rRep (tLst (tCons (tTup (tCons (tC (.str "G")) tNil)) (tCons (tTup (tCons (tC (.str "K")) tNil)) tNil))) (tCB (fun xs H Q => (∃ i, xs = [.int i] ∧ Q (.int i) H) ∨ ∃ k, xs = [.bl k] ∧ Q (.int (if k then 1 else 0)) H) (tCons (tVar 2) tNil)))) (gName 6)) (tSeq (tAsg (tLst tNil) (gName 7)) (tSeq (tFor (iList K (tVar 3)) (gName 8) (tDrop (tBM K "list" rExtend (tVar 7) (tCons (tLc (iList K (tVar 6)) (gName 10) (tTest (tOp (rNeD K) (tOp (rCatA K) (tVar 8) (tVar 10)) (tTup tNil))) (tOp (rCatA K) (tVar 8) (tVar 10)) [10]) tNil)))) (tRet (tVar 7))))))))
def b__law_all_rows : MS := (sSeq (sAsg (eLst aNil) (gN 3)) (sSeq (sAsg (eLst (aCons (eTup aNil) aNil)) (gN 4)) (sSeq (sFor (iR1 (aCons (eBin gAdd (eVar 0) (eC (.int 1))) aNil)) (gN 5) (sSeq (sAsg (eBin gCat (eVar 3) (eVar 4)) (gN 3)) (sSeq (sAsgO 9 (aCap aNil)) (sSeq (sFor (iLst (eVar 4)) (gN 8) (sExtend 9 (eNew (aComp [11] (iR2 (aCons (eC (.int 1)) (aCons (eBin gAdd (eVar 0) (eC (.int 1))) aNil))) (gN 11) (tOf (eBin (gIn true) (eVar 11) (eVar 8))) (eBin gCatT (eVar 8) (eTup (aCons (eVar 11) aNil))))))) (fun ρ => (sAsg (eVar 9) (gN 4)) (freeze 9 ρ)))))) (sSeq (sAsg (eBin gCat (eBin gCat (eLst (aCons (eTup aNil) aNil)) (eBin gRep (eLst (aCons (eTup (aCons (eC (.int 0)) aNil)) aNil)) (eCall cInt (aCons (eNotV (eVar 1)) aNil)))) (eBin gRep (eLst (aCons (eTup (aCons (eC (.str "G")) aNil)) (aCons (eTup (aCons (eC (.str "K")) aNil)) aNil))) (eCall cInt (aCons (eVar 2) aNil)))) (gN 6)) (sSeq (sAsgO 7 (aCap aNil)) (sSeq (sFor (iLst (eVar 3)) (gN 8) (sExtend 7 (eNew (aComp [10] (iLst (eVar 6)) (gN 10) (tOf (eBin (gEqD true) (eBin gCatT (eVar 8) (eVar 10)) (eTup aNil))) (eBin gCatT (eVar 8) (eVar 10)))))) (fun ρ => (sRet (eVar 7)) (freeze 7 ρ))))))))
def m__law_all_rows : List D → Option D := runB 12 b__law_all_rows
theorem bk__law_all_rows (T : Txt K mg) : BodyOk P w K mg base ["_law_size", "_law_is_ring", "_law_is_stuck", "_law_found", "_law_level", "_law_k", "_law_ends_here", "_law_rows", "_law_row", "_law_longer", "_law_end", "_law_spot"] "_law_all_rows" (defScope s__law_all_rows) (defBody s__law_all_rows) 0 (t__law_all_rows K) := fun f cdv A outer s H E hr =>
  (pss_cons (ps_set (i := 3) sc__law_all_rows.nd rfl (by first | exact Or.inl rfl | exact Or.inr rfl) (pe_lst pa_nil)) (pss_cons (ps_set (i := 4) sc__law_all_rows.nd rfl (by first | exact Or.inl rfl | exact Or.inr rfl) (pe_lst (pa_cons (pe_tup pa_nil) pa_nil))) (pss_cons (ps_for PassesOwn.never rfl (pi_range1 (by rfl) T.b_range (pa_cons (pe_op op_add (pv 0) pe_int) pa_nil)) (pg_name (i := 5) sc__law_all_rows.nd rfl (by first | exact Or.inl rfl | exact Or.inr rfl)) (pss_cons (ps_set (i := 3) sc__law_all_rows.nd rfl (by first | exact Or.inl rfl | exact Or.inr rfl) (pe_op op_cat (pv 3) (pv 4))) (pss_cons (ps_set (i := 9) sc__law_all_rows.nd rfl (by first | exact Or.inl rfl | exact Or.inr rfl) (pe_lst pa_nil)) (pss_cons (ps_for PassesOwn.never rfl (pi_list (pv 4)) (pg_name (i := 8) sc__law_all_rows.nd rfl (by first | exact Or.inl rfl | exact Or.inr rfl)) (pss_one (ps_expr (pe_bm PySem.F.plainAttrs_list PySem.F.slot_list_extend PySem.F.type_list_extend mt_extend (pv 9) (pa_cons (pe_lc (own := [("_law_spot", 11)]) rfl sc__law_all_rows.nd (pi_range2 (by rfl) T.b_range (pa_cons pe_int (pa_cons (pe_op op_add (pv 0) pe_int) pa_nil))) (blkOk_by (by rfl)) (fun _ _ _ _ _ => (pg_name (i := 11) sc__law_all_rows.nd rfl (by first | exact Or.inl rfl | exact Or.inr rfl))) (fun _ _ _ _ _ => pts_one (pt_cmpR op_notIn_seq (pv 11) (pv 8) (by rfl))) (fun _ _ _ _ _ => (pe_op op_catA (pv 8) (pe_tup (pa_cons (pv 11) pa_nil))))) pa_nil))))) (pss_one (ps_set (i := 4) sc__law_all_rows.nd rfl (by first | exact Or.inl rfl | exact Or.inr rfl) (pv 9))))))) (pss_cons (ps_set (i := 6) sc__law_all_rows.nd rfl (by first | exact Or.inl rfl | exact Or.inr rfl) (pe_op op_cat (pe_op op_cat (pe_lst (pa_cons (pe_tup pa_nil) pa_nil)) (pe_op op_rep (pe_lst (pa_cons (pe_tup (pa_cons pe_int pa_nil)) pa_nil)) (pe_callTy call_int1 (by rfl) T.b_int (by decide +kernel) (pa_cons (pe_not (pv 1)) pa_nil)))) (pe_op op_rep (pe_lst (pa_cons (pe_tup (pa_cons pe_str pa_nil)) (pa_cons (pe_tup (pa_cons pe_str pa_nil)) pa_nil))) (pe_callTy call_int1 (by rfl) T.b_int (by decide +kernel) (pa_cons (pv 2) pa_nil))))) (pss_cons (ps_set (i := 7) sc__law_all_rows.nd rfl (by first | exact Or.inl rfl | exact Or.inr rfl) (pe_lst pa_nil)) (pss_cons (ps_for PassesOwn.never rfl (pi_list (pv 3)) (pg_name (i := 8) sc__law_all_rows.nd rfl (by first | exact Or.inl rfl | exact Or.inr rfl)) (pss_one (ps_expr (pe_bm PySem.F.plainAttrs_list PySem.F.slot_list_extend PySem.F.type_list_extend mt_extend (pv 7) (pa_cons (pe_lc (own := [("_law_end", 10)]) rfl sc__law_all_rows.nd (pi_list (pv 6)) (blkOk_by (by rfl)) (fun _ _ _ _ _ => (pg_name (i := 10) sc__law_all_rows.nd rfl (by first | exact Or.inl rfl | exact Or.inr rfl))) (fun _ _ _ _ _ => pts_one (pt_cmpR (op_neD hr.units) (pe_op op_catA (pv 8) (pv 10)) (pe_tup pa_nil) (nomark _))) (fun _ _ _ _ _ => (pe_op op_catA (pv 8) (pv 10)))) pa_nil))))) (pss_one (ps_ret (pv 7)))))))))
theorem sm__law_all_rows (T : Txt K mg) : SmS (WK K) (t__law_all_rows K) b__law_all_rows :=
  (sms_seq (sms_asg (sm_lst sma_nil) tgs_name) (sms_seq (sms_asg (sm_lst (sma_cons (sm_tup sma_nil) sma_nil)) tgs_name) (sms_seq (sms_for (smi_r1 (sma_cons (sm_op s_add (Sm.b sm_var) (Sm.b sm_int)) sma_nil)) tgs_name (sms_seq (sms_asg (sm_op s_cat (Sm.b sm_var) (Sm.b sm_var)) tgs_name) (sms_seq (sms_asgO (sml_lst sma_nil)) (sms_seq (sms_for (smi_list sm_var) tgs_name (sms_extend (sm_of_l (sml_lc (vs := [11]) (smi_r2 (sma_cons sm_int (sma_cons (sm_op s_add (Sm.b sm_var) (Sm.b sm_int)) sma_nil))) tgs_name (by decide) (smt_T (sm_op s_in (Sm.b sm_var) (Sm.b sm_var))) (sm_op s_catT (Sm.b sm_var) (Sm.b (sm_tup (sma_cons sm_var sma_nil)))))))) (sms_freeze 9 (sms_asg sm_var tgs_name)))))) (sms_seq (sms_asg (sm_op s_cat (Sm.b (sm_op s_cat (Sm.b (sm_lst (sma_cons (sm_tup sma_nil) sma_nil))) (Sm.b (sm_op s_rep (Sm.b (sm_lst (sma_cons (sm_tup (sma_cons sm_int sma_nil)) sma_nil))) (Sm.b (sm_cb cs_int (smab_cons (Sm.b (sm_notV sm_var)) (SmA.b sma_nil)))))))) (Sm.b (sm_op s_rep (Sm.b (sm_lst (sma_cons (sm_tup (sma_cons sm_str sma_nil)) (sma_cons (sm_tup (sma_cons sm_str sma_nil)) sma_nil)))) (Sm.b (sm_cb cs_int (smab_cons (Sm.b sm_var) (SmA.b sma_nil))))))) tgs_name) (sms_seq (sms_asgO (sml_lst sma_nil)) (sms_seq (sms_for (smi_list sm_var) tgs_name (sms_extend (sm_of_l (sml_lc (vs := [10]) (smi_list sm_var) tgs_name (by decide) (smt_T (sm_op s_neD (Sm.b (sm_op s_catT (Sm.b sm_var) (Sm.b sm_var))) (Sm.b (sm_tup sma_nil)))) (sm_op s_catT (Sm.b sm_var) (Sm.b sm_var)))))) (sms_freeze 7 (sms_ret sm_var))))))))
theorem g__law_all_rows (T : Txt K mg) : GoodD P w K mg base (WK K) 1 "_law_all_rows" [] (mP 3 m__law_all_rows) := by
  obtain ⟨f, fd, hm, F⟩ := T.f__law_all_rows
  exact good_of hm F (ok_def F sc__law_all_rows (bk__law_all_rows T) (sm__law_all_rows T)) (F.bindsN fun _ _ _ _ _ _ us hl => match us, hl with | [_, _, _], _ => rfl)
theorem sc__law_all_trials : FnScope ["_law_size", "_law_is_ring", "_law_found", "_law_k", "_law_longer", "_law_text", "_law_sign_here"] ["_law_size", "_law_is_ring"] (defScope s__law_all_trials) := ⟨rfl, rfl, rfl, by decide +kernel, rfl, by decide +kernel, by decide +kernel⟩
def t__law_all_trials (K : PySem.W.Frag) : TS := (tSeq (tAsg (tLst (tCons (tC (.str "")) tNil)) (gName 2)) (tSeq (tFor (iRng1 (tCons (tVar 0) tNil)) (gName 3) (tSeq (tAsg (tLst tNil) (gName 4)) (tSeq (tFor (iList K (tVar 2)) (gName 5) (tDrop (tBM K "list" rExtend (tVar 4) (tCons (tLc (iStr (tC (.str "GKP"))) (gName 6) tYes (tOp (fun x y H Q => ∃ i j, x = .str i ∧ y = .str j ∧ i.length + j.length ≤ sizeLine ∧ Q (.str (i ++ j)) H) (tVar 5) (tVar 6)) [6]) tNil)))) (tAsg (tVar 4) (gName 2))))) (tSeq (tIfS (tB (tVar 1)) (tRet (tLc (iList K (tVar 2)) (gName 5) tYes (tOp (fun x y H Q => ∃ i j, x = .str i ∧ y = .str j ∧ i.length + j.length ≤ sizeLine ∧ Q (.str (i ++ j)) H) (tVar 5) (tC (.str "P"))) [5])) tNext) (tRet (tOp rCat (tLc (iList K (tVar 2)) (gName 5) tYes (tOp (fun x y H Q => ∃ i j, x = .str i ∧ y = .str j ∧ i.length + j.length ≤ sizeLine ∧ Q (.str (i ++ j)) H) (tVar 5) (tC (.str "G"))) [5]) (tLc (iList K (tVar 2)) (gName 5) tYes (tOp (fun x y H Q => ∃ i j, x = .str i ∧ y = .str j ∧ i.length + j.length ≤ sizeLine ∧ Q (.str (i ++ j)) H) (tVar 5) (tC (.str "K"))) [5]))))))
def b__law_all_trials : MS := (sSeq (sAsg (eLst (aCons (eC (.str "")) aNil)) (gN 2)) (sSeq (sFor (iR1 (aCons (eVar 0) aNil)) (gN 3) (sSeq (sAsgO 4 (aCap aNil)) (sSeq (sFor (iLst (eVar 2)) (gN 5) (sExtend 4 (eNew (aComp [6] (iSt (eC (.str "GKP"))) (gN 6) (fun _ => some true) (eBin gAddS (eVar 5) (eVar 6)))))) (fun ρ => (sAsg (eVar 4) (gN 2)) (freeze 4 ρ))))) (sSeq (sIf (tOf (eVar 1)) (sRet (eNew (aComp [5] (iLst (eVar 2)) (gN 5) (fun _ => some true) (eBin gAddS (eVar 5) (eC (.str "P")))))) sNext) (sRet (eBin gCat (eNew (aComp [5] (iLst (eVar 2)) (gN 5) (fun _ => some true) (eBin gAddS (eVar 5) (eC (.str "G"))))) (eNew (aComp [5] (iLst (eVar 2)) (gN 5) (fun _ => some true) (eBin gAddS (eVar 5) (eC (.str "K"))))))))))
def m__law_all_trials : List D → Option D := runB 7 b__law_all_trials
theorem bk__law_all_trials (T : Txt K mg) : BodyOk P w K mg base ["_law_size", "_law_is_ring", "_law_found", "_law_k", "_law_longer", "_law_text", "_law_sign_here"] "_law_all_trials" (defScope s__law_all_trials) (defBody s__law_all_trials) 0 (t__law_all_trials K) := fun f cdv A outer s H E hr =>
  (pss_cons (ps_set (i := 2) sc__law_all_trials.nd rfl (by first | exact Or.inl rfl | exact Or.inr rfl) (pe_lst (pa_cons pe_str pa_nil))) (pss_cons (ps_for PassesOwn.never rfl (pi_range1 (by rfl) T.b_range (pa_cons (pv 0) pa_nil)) (pg_name (i := 3) sc__law_all_trials.nd rfl (by first | exact Or.inl rfl | exact Or.inr rfl)) (pss_cons (ps_set (i := 4) sc__law_all_trials.nd rfl (by first | exact Or.inl rfl | exact Or.inr rfl) (pe_lst pa_nil)) (pss_cons (ps_for PassesOwn.never rfl (pi_list (pv 2)) (pg_name (i := 5) sc__law_all_trials.nd rfl (by first | exact Or.inl rfl | exact Or.inr rfl)) (pss_one (ps_expr (pe_bm PySem.F.plainAttrs_list PySem.F.slot_list_extend PySem.F.type_list_extend mt_extend (pv 4) (pa_cons (pe_lc (own := [("_law_sign_here", 6)]) rfl sc__law_all_trials.nd (pi_str pe_str) (blkOk_by (by rfl)) (fun _ _ _ _ _ => (pg_name (i := 6) sc__law_all_trials.nd rfl (by first | exact Or.inl rfl | exact Or.inr rfl))) (fun _ _ _ _ _ => pts_nil) (fun _ _ _ _ _ => (pe_op op_add_str (pv 5) (pv 6)))) pa_nil))))) (pss_one (ps_set (i := 2) sc__law_all_trials.nd rfl (by first | exact Or.inl rfl | exact Or.inr rfl) (pv 4)))))) (pss_cons (ps_if (pt_val (pv 1)) (pss_one (ps_ret (pe_lc (own := [("_law_text", 5)]) rfl sc__law_all_trials.nd (pi_list (pv 2)) (blkOk_by (by rfl)) (fun _ _ _ _ _ => (pg_name (i := 5) sc__law_all_trials.nd rfl (by first | exact Or.inl rfl | exact Or.inr rfl))) (fun _ _ _ _ _ => pts_nil) (fun _ _ _ _ _ => (pe_op op_add_str (pv 5) pe_str))))) pss_nil) (pss_one (ps_ret (pe_op op_cat (pe_lc (own := [("_law_text", 5)]) rfl sc__law_all_trials.nd (pi_list (pv 2)) (blkOk_by (by rfl)) (fun _ _ _ _ _ => (pg_name (i := 5) sc__law_all_trials.nd rfl (by first | exact Or.inl rfl | exact Or.inr rfl))) (fun _ _ _ _ _ => pts_nil) (fun _ _ _ _ _ => (pe_op op_add_str (pv 5) pe_str))) (pe_lc (own := [("_law_text", 5)]) rfl sc__law_all_trials.nd (pi_list (pv 2)) (blkOk_by (by rfl)) (fun _ _ _ _ _ => (pg_name (i := 5) sc__law_all_trials.nd rfl (by first | exact Or.inl rfl | exact Or.inr rfl))) (fun _ _ _ _ _ => pts_nil) (fun _ _ _ _ _ => (pe_op op_add_str (pv 5) pe_str)))))))))
theorem sm__law_all_trials (T : Txt K mg) : SmS (WK K) (t__law_all_trials K) b__law_all_trials :=
  (sms_seq (sms_asg (sm_lst (sma_cons sm_str sma_nil)) tgs_name) (sms_seq (sms_for (smi_r1 (sma_cons sm_var sma_nil)) tgs_name (sms_seq (sms_asgO (sml_lst sma_nil)) (sms_seq (sms_for (smi_list sm_var) tgs_name (sms_extend (sm_of_l (sml_lc (vs := [6]) (smi_str sm_str) tgs_name (by decide) smt_yes (sm_op s_addS (Sm.b sm_var) (Sm.b sm_var)))))) (sms_freeze 4 (sms_asg sm_var tgs_name))))) (sms_seq (sms_if (smt_B sm_var) (sms_ret (sm_of_l (sml_lc (vs := [5]) (smi_list sm_var) tgs_name (by decide) smt_yes (sm_op s_addS (Sm.b sm_var) (Sm.b sm_str))))) sms_next) (sms_ret (sm_op s_cat (Sm.b (sm_of_l (sml_lc (vs := [5]) (smi_list sm_var) tgs_name (by decide) smt_yes (sm_op s_addS (Sm.b sm_var) (Sm.b sm_str))))) (Sm.b (sm_of_l (sml_lc (vs := [5]) (smi_list sm_var) tgs_name (by decide) smt_yes (sm_op s_addS (Sm.b sm_var) (Sm.b sm_str))))))))))
theorem g__law_all_trials (T : Txt K mg) : GoodD P w K mg base (WK K) 1 "_law_all_trials" [] (mP 2 m__law_all_trials) := by
  obtain ⟨f, fd, hm, F⟩ := T.f__law_all_trials
  exact good_of hm F (ok_def F sc__law_all_trials (bk__law_all_trials T) (sm__law_all_trials T)) (F.bindsN fun _ _ _ _ _ _ us hl => match us, hl with | [_, _], _ => rfl)
theorem sc__law_wrong_ones : FnScope ["_law_some", "_law_size", "_law_end", "_law_is_ring", "_law_is_stuck", "_law_due_here", "_law_found", "_law_row", "_law_bad", "_law_trial_here"] ["_law_some", "_law_size", "_law_end", "_law_is_ring", "_law_is_stuck"] (defScope s__law_wrong_ones) := ⟨rfl, rfl, rfl, by decide +kernel, rfl, by decide +kernel, by decide +kernel⟩
def t__law_wrong_ones (K : PySem.W.Frag) : TS := (tSeq (tAsg (tU (spD (WK K) 0 (mP 3 m__law_due)) (tCons (tVar 1) (tCons (tVar 2) (tCons (tVar 3) tNil))) tNil) (gName 5)) (tSeq (tAsg (tLst tNil) (gName 6)) (tSeq (tFor (iList K (tU (spD (WK K) 0 (mP 3 m__law_all_rows)) (tCons (tVar 1) (tCons (tVar 3) (tCons (tVar 4) tNil))) tNil)) (gName 7) (tIfS (tTest (tOp (rEqD K) (tLc (iList K (tVar 0)) (gName 9) (tTest (tOp rNe (tU (spD (WK K) 0 (mP 2 m__law_seen)) (tCons (tVar 7) (tCons (tVar 9) tNil)) tNil) (tU (spD (WK K) 0 (mP 2 m__law_seen)) (tCons (tVar 5) (tCons (tVar 9) tNil)) tNil))) (tVar 9) [9]) (tLst tNil))) (tSeq (tAsg (tLc (iList K (tU (spD (WK K) 0 (mP 2 m__law_all_trials)) (tCons (tVar 1) (tCons (tVar 3) tNil)) tNil)) (gName 9) (tTest (tOp rNe (tU (spD (WK K) 0 (mP 2 m__law_seen)) (tCons (tVar 7) (tCons (tVar 9) tNil)) tNil) (tU (spD (WK K) 0 (mP 2 m__law_seen)) (tCons (tVar 5) (tCons (tVar 9) tNil)) tNil))) (tVar 9) [9]) (gName 8)) (tDrop (tBM K "list" rExtend (tVar 6) (tCons (tLc (iList K (tVar 8)) (gName 9) tYes (tTup (tCons (tVar 7) (tCons (tVar 9) tNil))) [9]) tNil)))) tNext)) (tRet (tVar 6)))))
def b__law_wrong_ones : MS := (sSeq (sAsg (eU (mP 3 m__law_due) (aCons (eVar 1) (aCons (eVar 2) (aCons (eVar 3) aNil))) aNil) (gN 5)) (sSeq (sAsgO 6 (aCap aNil)) (sSeq (sFor (iLst (eU (mP 3 m__law_all_rows) (aCons (eVar 1) (aCons (eVar 3) (aCons (eVar 4) aNil))) aNil)) (gN 7) (sIf (tOf (eBin (gEqD false) (eNew (aComp [9] (iLst (eVar 0)) (gN 9) (tOf (eBin (gEq true) (eU (mP 2 m__law_seen) (aCons (eVar 7) (aCons (eVar 9) aNil)) aNil) (eU (mP 2 m__law_seen) (aCons (eVar 5) (aCons (eVar 9) aNil)) aNil))) (eVar 9))) (eLst aNil))) (sSeq (sAsg (eNew (aComp [9] (iLst (eU (mP 2 m__law_all_trials) (aCons (eVar 1) (aCons (eVar 3) aNil)) aNil)) (gN 9) (tOf (eBin (gEq true) (eU (mP 2 m__law_seen) (aCons (eVar 7) (aCons (eVar 9) aNil)) aNil) (eU (mP 2 m__law_seen) (aCons (eVar 5) (aCons (eVar 9) aNil)) aNil))) (eVar 9))) (gN 8)) (sExtend 6 (eNew (aComp [9] (iLst (eVar 8)) (gN 9) (fun _ => some true) (eTup (aCons (eVar 7) (aCons (eVar 9) aNil))))))) sNext)) (fun ρ => (sRet (eVar 6)) (freeze 6 ρ)))))
def m__law_wrong_ones : List D → Option D := runB 10 b__law_wrong_ones
theorem bk__law_wrong_ones (T : Txt K mg) : BodyOk P w K mg base ["_law_some", "_law_size", "_law_end", "_law_is_ring", "_law_is_stuck", "_law_due_here", "_law_found", "_law_row", "_law_bad", "_law_trial_here"] "_law_wrong_ones" (defScope s__law_wrong_ones) (defBody s__law_wrong_ones) 2 (t__law_wrong_ones K) := fun f cdv A outer s H E hr =>
  (pss_cons (ps_set (i := 5) sc__law_wrong_ones.nd rfl (by first | exact Or.inl rfl | exact Or.inr rfl) (pe_u (g__law_due T) (hr.mono (by decide)) (by rfl) (pa_cons (pv 1) (pa_cons (pv 2) (pa_cons (pv 3) pa_nil))))) (pss_cons (ps_set (i := 6) sc__law_wrong_ones.nd rfl (by first | exact Or.inl rfl | exact Or.inr rfl) (pe_lst pa_nil)) (pss_cons (ps_for PassesOwn.never rfl (pi_list (pe_u (g__law_all_rows T) (hr.mono (by decide)) (by rfl) (pa_cons (pv 1) (pa_cons (pv 3) (pa_cons (pv 4) pa_nil))))) (pg_name (i := 7) sc__law_wrong_ones.nd rfl (by first | exact Or.inl rfl | exact Or.inr rfl)) (pss_one (ps_if (pt_cmpR (op_eqD hr.units) (pe_lc (own := [("_law_trial_here", 9)]) rfl sc__law_wrong_ones.nd (pi_list (pv 0)) (blkOk_by (by rfl)) (fun _ _ _ _ _ => (pg_name (i := 9) sc__law_wrong_ones.nd rfl (by first | exact Or.inl rfl | exact Or.inr rfl))) (fun _ _ _ _ _ => pts_one (pt_cmpR op_ne (pe_u (g__law_seen T) (hr.mono (by decide)) (by rfl) (pa_cons (pv 7) (pa_cons (pv 9) pa_nil))) (pe_u (g__law_seen T) (hr.mono (by decide)) (by rfl) (pa_cons (pv 5) (pa_cons (pv 9) pa_nil))) (nomark _))) (fun _ _ _ _ _ => (pv 9))) (pe_lst pa_nil) (nomark _)) (pss_cons (ps_setLc (i := 8) (own := [("_law_trial_here", 9)]) rfl sc__law_wrong_ones.nd rfl rfl (sw_true rfl rfl rfl (by decide +kernel)) (pi_list (pe_u (g__law_all_trials T) (hr.mono (by decide)) (by rfl) (pa_cons (pv 1) (pa_cons (pv 3) pa_nil)))) (blkOk_by (by rfl)) (fun _ _ _ _ _ => (pg_name (i := 9) sc__law_wrong_ones.nd rfl (by first | exact Or.inl rfl | exact Or.inr rfl))) (fun _ _ _ _ _ => pts_one (pt_cmpR op_ne (pe_u (g__law_seen T) (hr.mono (by decide)) (by rfl) (pa_cons (pv 7) (pa_cons (pv 9) pa_nil))) (pe_u (g__law_seen T) (hr.mono (by decide)) (by rfl) (pa_cons (pv 5) (pa_cons (pv 9) pa_nil))) (nomark _))) (fun _ _ _ _ _ => (pv 9))) (pss_one (ps_expr (pe_bm PySem.F.plainAttrs_list PySem.F.slot_list_extend PySem.F.type_list_extend mt_extend (pv 6) (pa_cons (pe_lc (own := [("_law_trial_here", 9)]) rfl sc__law_wrong_ones.nd (pi_list (pv 8)) (blkOk_by (by rfl)) (fun _ _ _ _ _ => (pg_name (i := 9) sc__law_wrong_ones.nd rfl (by first | exact Or.inl rfl | exact Or.inr rfl))) (fun _ _ _ _ _ => pts_nil) (fun _ _ _ _ _ => (pe_tup (pa_cons (pv 7) (pa_cons (pv 9) pa_nil))))) pa_nil))))) pss_nil))) (pss_one (ps_ret (pv 6))))))
theorem sm__law_wrong_ones (T : Txt K mg) : SmS (WK K) (t__law_wrong_ones K) b__law_wrong_ones :=
  (sms_seq (sms_asg (sm_u (sma_cons sm_var (sma_cons sm_var (sma_cons sm_var sma_nil))) sma_nil) tgs_name) (sms_seq (sms_asgO (sml_lst sma_nil)) (sms_seq (sms_for (smi_list (sm_u (sma_cons sm_var (sma_cons sm_var (sma_cons sm_var sma_nil))) sma_nil)) tgs_name (sms_if (smt_T (sm_op s_eqD (Sm.b (sm_of_l (sml_lc (vs := [9]) (smi_list sm_var) tgs_name (by decide) (smt_T (sm_op s_ne (Sm.b (sm_u (sma_cons sm_var (sma_cons sm_var sma_nil)) sma_nil)) (Sm.b (sm_u (sma_cons sm_var (sma_cons sm_var sma_nil)) sma_nil)))) sm_var))) (Sm.b (sm_lst sma_nil)))) (sms_seq (sms_asg (sm_of_l (sml_lc (vs := [9]) (smi_list (sm_u (sma_cons sm_var (sma_cons sm_var sma_nil)) sma_nil)) tgs_name (by decide) (smt_T (sm_op s_ne (Sm.b (sm_u (sma_cons sm_var (sma_cons sm_var sma_nil)) sma_nil)) (Sm.b (sm_u (sma_cons sm_var (sma_cons sm_var sma_nil)) sma_nil)))) sm_var)) tgs_name) (sms_extend (sm_of_l (sml_lc (vs := [9]) (smi_list sm_var) tgs_name (by decide) smt_yes (sm_tup (sma_cons sm_var (sma_cons sm_var sma_nil))))))) sms_next)) (sms_freeze 6 (sms_ret sm_var)))))
theorem g__law_wrong_ones (T : Txt K mg) : GoodD P w K mg base (WK K) 3 "_law_wrong_ones" [] (mP 5 m__law_wrong_ones) := by
  obtain ⟨f, fd, hm, F⟩ := T.f__law_wrong_ones
  exact good_of hm F (ok_def F sc__law_wrong_ones (bk__law_wrong_ones T) (sm__law_wrong_ones T)) (F.bindsN fun _ _ _ _ _ _ us hl => match us, hl with | [_, _, _, _, _], _ => rfl)
end
end CP
/-! part CpR0 -/
set_option Elab.async false
set_option linter.all false
set_option maxRecDepth 100000
set_option maxHeartbeats 4000000
namespace CP
open PySem PySem.Spec PyProof.Rows L2 CPH
/-! ### making instances -/
/-- an __init__'s promise: from a new instance to the data of its attributes -/
def spInit (W : Wd) (c : Nat) (m : List D → Option (List D)) : Sp := fun vs H Q _ => ∃ (H1 F : Hp) (x dx : Addr) (ws : List V) (ds es : List D), vs = .ref x :: ws ∧ H1 x = none ∧ H1 dx = none ∧ dx ≠ x ∧ H = upd (upd H1 dx (.own x)) x (.ins (W.ca c) dx []) ∧ Ex F H1 ∧ Reps W F ws ds ∧ m ds = some es ∧
  ∀ F2 H2 xs, Ext F H1 F2 H2 → F2 x = none → H2 x = some (.ins (W.ca c) dx ((W.fn c).zip xs)) → (W.fn c).length = xs.length → Reps W F2 xs es → Q .non H2
def eMake (c : Nat) (m : List D → Option (List D)) (a : MA) : ME := fun ρ => (a ρ).bind fun ds => (m ds).map (.obj c)
theorem Ext.fix {F H F2 H2 : Hp} {x : Addr} {o : HO} (e : Ext F H F2 H2) (hn : H x = none) (hf : F2 x = none) (hx : H2 x = some o) : Ext F H (upd F2 x o) H2 := by
  have ef : Ex F2 (upd F2 x o) := .new hf
  refine ⟨e.f.trans ef, e.h, fun a u q => ?_, fun a u q n => ?_⟩
  · by_cases ha : a = x
    · subst ha
      rw [upd_same] at q
      cases q
      exact hx
    · rw [upd_ne ha] at q
      exact e.s a u q
  · rw [upd_ne (ne_of_none q hn)]
    exact e.u a u q n
theorem sm_make {W : Wd} {c : Nat} {m : List D → Option (List D)} {t : TA} {a : MA} (ha : SmA W t a) : Sm W (StX.tMakeR (W.ca c) (spInit W c m) (fun _ _ _ => False) t) (eMake c m a) := fun H0 F H σ ρ d e r q Q k => by
  obtain ⟨ds, h1, h2⟩ := Option.bind_eq_some_iff.mp q
  obtain ⟨es, h3, rfl⟩ := Option.map_eq_some_iff.mp h2
  refine ha H0 F H σ ρ ds e r h1 _ fun vs F1 H1 e1 r1 x dx hx hdx hne => ?_
  refine ⟨H1, F1, x, dx, vs, ds, es, rfl, hx, hdx, hne, rfl, e1.s, r1, h3, fun F2 H2 xs e2 hf ho hl rx => ⟨rfl, ?_⟩⟩
  have e3 := e2.fix hx hf ho
  exact k _ _ H2 (e1.trans e3) (.obj upd_same hl (rx.mono (Ex.new hf)))
section
variable {X : Cx} {CX : CXT} {k : Nat} {f C : Addr} {sp : Sp} {E : XK} {x : Str} {a b : Expr} {es : List Expr} {t : TA} {p p1 p2 pos : Pos}
theorem evalArgs_two {M : Model} {A : Around} {E : Value → Shared → Prop} {s : Shared} {f : Value} {u v : Bool × Sem Value} {rest : List (Bool × Sem Value)} {Q : Args → Shared → Prop}
    (h : wpAny M A (spliced (u :: v :: rest)) (fun vs s' => Q ⟨vs, []⟩ s') E s) : wpAny M A (evalArgs f true (u :: v :: rest) []) Q E s := by
  obtain ⟨b, u⟩ := u
  have e : evalArgs f true ((b, u) :: v :: rest) [] = evalArgs f false ((b, u) :: v :: rest) [] := by cases b <;> rfl
  rw [e]
  unfold evalArgs
  show wpAny M A (spliced ((b, u) :: v :: rest) >>= _) Q E s
  refine wpAny_bind (wpAny_mono h (fun vs s' h' => ?_) fun _ _ z => z)
  exact wpAny_holding (wpAny_bind (wpAny_pure (wpAny_bind (wpAny_pure (wpAny_pure h')))))
/-- C(*a, *b) -/
theorem pe_makeSS (M : Mk X.K C f) (F : FnR X.prog X.w X.K X.mg X.base CX k f sp) (hr : Room (k + 1) X.A) (hg : Gl X x) (hm : X.mg x = some (.ref C)) (hx : Passes CX X E) (ha : PA X [.Starred a p1, .Starred b p2] t) (hdb : (x == ("__debug__" : Str)) = false := by rfl) :
    PE X (.Call (.Name x p) [.Starred a p1, .Starred b p2] [] pos) (StX.tMakeR C sp E t) := by
  refine ⟨fun pins s σ H Q I h => wpAny_Call_Name_kw (ld_glob I hg hm ?_ hdb)⟩
  refine sk_call (by rfl) M.kp (evalArgs_two (thn (ha.run pos pins s σ H _ I h) fun us s1 ⟨vs, H1, I1, r, q⟩ => ⟨I1.kIn, ?_⟩))
  exact StX.run_makeR M F hr hx I1 r q
end
theorem FnR.imp {P : Program} {w : World} {K : PySem.W.Frag} {mg : Str → Option Value} {base : Heap} {CX : CXT} {k : Nat} {f : Addr} {sp sp' : Sp} (h : FnR P w K mg base CX k f sp) (i : ∀ vs H Q E, sp' vs H Q E → sp vs H Q E) : FnR P w K mg base CX k f sp' :=
  fun A outer s H us vs Q E hr e0 r q => h A outer s H us vs Q E hr e0 r (i _ _ _ _ q)
end CP
/-! part CpR -/
set_option Elab.async false
set_option linter.all false
set_option maxRecDepth 100000
set_option maxHeartbeats 4000000
namespace CP
open PySem PySem.Spec PyProof.Rows L2 CPH
section
variable {P : Program} {w : World} {K : PySem.W.Frag} {mg : Str → Option Value} {base : Heap}
/-! ### Order.__init__ -/
theorem sc_Order_init : FnScope ["self", "positions", "index", "position"] ["self", "positions"] (defScope s_Order_init) := ⟨rfl, rfl, rfl, by decide +kernel, rfl, by decide +kernel, by decide +kernel⟩
def t_Order_init (K : PySem.W.Frag) : TS := tSeq (tFor (CPX.iEnumT K (tCons (tVar 1) tNil)) (gTup K 2 (gCons (gName 2) (gCons (gName 3) gNil))) (tIfS (tNot (tB (tU (spD (WK K) 0 (mP 3 m_is_between)) (tCons (tVar 3) (tCons (tC (.int 0)) (tCons (tCon K (tVar 0) "GREATEST") tNil))) tNil))) tNever tNext)) (sFld K (tVar 0) (tU (spD (WK K) 0 (mP 1 m_first_ones)) (tCons (tVar 1) tNil) tNil) "entries")
theorem bk_Order_init (T : Txt K mg) : BodyOk P w K mg base ["self", "positions", "index", "position"] "Order.__init__" (defScope s_Order_init) (defBody s_Order_init) 3 (t_Order_init K) := fun f cdv A outer s H E hr =>
  pss_cons (ps_for PassesOwn.never rfl (CPX.pi_enumT (by rfl) T.b_enumerate (pa_cons (pv 1) pa_nil)) (pg_tup rfl (pgs_cons (pg_name (i := 2) sc_Order_init.nd rfl (Or.inl rfl)) (pgs_cons (pg_name (i := 3) sc_Order_init.nd rfl (Or.inl rfl)) pgs_nil)))
    (pss_one (ps_if (pt_not (pt_val (pe_u (g_is_between T) (hr.mono (by decide)) (by rfl) (pa_cons (pv 3) (pa_cons pe_int (pa_cons (pe_con (pv 0) rfl) pa_nil)))))) (pss_one ps_never) pss_nil)))
    (pss_one (ps_fld (pv 0) (pe_u (g_first_ones T) (hr.mono (by decide)) (by rfl) (pa_cons (pv 1) pa_nil)) rfl))
def okBt (d : D) : Bool := match m_is_between [d, .int 0, .int 24] with
  | some (.bool true) => true
  | _ => false
theorem okBt_eq {d : D} (h : okBt d = true) : m_is_between [d, .int 0, .int 24] = some (.bool true) := by
  unfold okBt at h
  split at h
  · assumption
  · cases h
def m_Order_init : List D → Option (List D) := fun ds => if (Nat.ble ds.length 1000 && ds.all okBt) = true then (m_first_ones [.tup ds]).map fun e => [e] else none
theorem rd_Order_init (T : Txt K mg) {H1 F : Hp} {x dx p : Addr} {ws : List V} {ds es : List D} {Q : VK} (hx : H1 x = none) (hdx : H1 dx = none) (hne : dx ≠ x) (hp : H1 p = none) (hpx : p ≠ x) (hpd : p ≠ dx) (e : Ex F H1) (r : Reps (WK K) F ws ds) (q : m_Order_init ds = some es)
    (kk : ∀ F2 H2 xs, Ext F H1 F2 H2 → F2 x = none → H2 x = some (.ins 605 dx ((["entries"] : List Str).zip xs)) → (["entries"] : List Str).length = xs.length → Reps (WK K) F2 xs es → Q .non H2) :
    t_Order_init K { nx := fun _ H' => Q .non H', rt := Q } (L2.start ["self", "positions", "index", "position"] [.ref x, .ref p]) (upd (upd (upd H1 dx (.own x)) x (.ins 605 dx [])) p (.tup ws)) := by
  unfold m_Order_init at q
  split at q
  · rename_i hc
    obtain ⟨e1, h1, rfl⟩ := Option.map_eq_some_iff.mp q
    simp only [Bool.and_eq_true, List.all_eq_true] at hc
    generalize hH : upd (upd (upd H1 dx (.own x)) x (.ins 605 dx [])) p (.tup ws) = H
    have Hx : H x = some (.ins 605 dx []) := by rw [← hH, upd_ne (Ne.symm hpx), upd_same]
    have Hp' : H p = some (.tup ws) := by rw [← hH, upd_same]
    have Hex : Ex H1 H := fun a o q => by
      rw [← hH, upd_ne (ne_of_none q hp), upd_ne (ne_of_none q hx), upd_ne (ne_of_none q hdx)]
      exact q
    have fx : F x = none := e.back hx
    have fp : F p = none := e.back hp
    generalize hF : upd F p (.tup ws) = F'
    have eF : Ex F F' := by rw [← hF]; exact .new fp
    have FH : Ex F' H := fun a o q => by
      rw [← hF] at q
      by_cases ha : a = p
      · subst ha
        rw [upd_same] at q
        cases q
        exact Hp'
      · rw [upd_ne ha] at q
        exact Hex a o (e a o q)
    have Fx : F' x = none := by rw [← hF, upd_ne (Ne.symm hpx)]; exact fx
    have rp : Rep (WK K) F' (.ref p) (.tup ds) := .tup (.inl (.inl (by rw [← hF, upd_same]))) (r.mono eF)
    have ext0 : Ext F H1 F' H := ⟨eF, Hex, FH, fun a o q n => by rw [← hF, upd_ne (ne_of_none q hp)]; exact n⟩
    refine ⟨_, rfl, p, ws, rfl, .inl (.inl Hp'), ?_⟩
    refine for_it (walk_enumT (xs := ws)) (fun i σ H' => Ex H H' ∧ ∃ a b, σ = [some (.ref x), some (.ref p), a, b]) ⟨.refl H, _, _, rfl⟩ (fun i σ H' _ h => .inl (.inl (h.1 _ _ Hp'))) (fun i v σ H' H'' hi ⟨hex, a, b, hσ⟩ y => ?_) fun σ H' ⟨hex, a, b, hσ⟩ => ?_
    · obtain ⟨Tt, u, v', rfl, hT, rfl, hu, hv⟩ := y
      cases hu
      subst hσ
      obtain ⟨d, hd, rd⟩ := (r.mono eF).get' hv
      have hb := okBt_eq (hc.2 d (List.mem_of_getElem? hd))
      have hex2 : Ex H (upd H' Tt (.tup [.int (i : Nat), v'])) := hex.trans (.new hT)
      refine ⟨Tt, _, rfl, .inl (.inl upd_same), rfl, _, _, rfl, _, _, rfl, rfl, ?_⟩
      refine ⟨_, rfl, _, rfl, x, 605, dx, [], ?_⟩
      obtain ⟨u, hu⟩ := T.k_Order_GREATEST
      refine ⟨_, u, rfl, hex2 _ _ Hx, T.c_Order, hu, rfl, ?_⟩
      refine ⟨F', [d, .int 0, .int 24], [], _, FH.trans hex2, .cons rd (.cons (.int _) (.cons (.int _) .nil)), .nil, (show mP 3 m_is_between _ _ = some (.bool true) from hb), fun v F2 H2 e2 r2 => ?_⟩
      cases r2
      exact ⟨true, rfl, hex2.trans e2.h, _, _, rfl⟩
    · subst hσ
      refine ⟨_, rfl, F', [.tup ds], [], e1, FH.trans hex, .cons rp .nil, .nil, (show mP 1 m_first_ones _ _ = some e1 from h1), fun v F2 H2 e2 r2 => ?_⟩
      have ext1 : Ext F H1 F2 H2 := ext0.trans (Ext.trans ⟨.refl F', hex, FH.trans hex, fun _ _ _ n => n⟩ e2)
      have F2x : F2 x = none := e2.u _ _ (hex _ _ Hx) Fx
      refine ⟨_, rfl, x, 605, dx, [], rfl, e2.h _ _ (hex _ _ Hx), T.c_Order, T.n_Order_entries, by show (0 : Nat) < 1000; decide, ?_⟩
      exact kk F2 _ [v] (ext1.wr (u := .own 0) hx F2x) F2x upd_same rfl (.cons r2 .nil)
  · cases q
def spI (K : PySem.W.Frag) : Sp := fun vs H Q _ => ∃ (H1 F : Hp) (x dx p : Addr) (ws : List V) (ds es : List D), vs = [.ref x, .ref p] ∧ H1 x = none ∧ H1 dx = none ∧ dx ≠ x ∧ H1 p = none ∧ p ≠ x ∧ p ≠ dx ∧ H = upd (upd (upd H1 dx (.own x)) x (.ins 605 dx [])) p (.tup ws) ∧ Ex F H1 ∧ Reps (WK K) F ws ds ∧ m_Order_init ds = some es ∧
  ∀ F2 H2 xs, Ext F H1 F2 H2 → F2 x = none → H2 x = some (.ins 605 dx ((["entries"] : List Str).zip xs)) → (["entries"] : List Str).length = xs.length → Reps (WK K) F2 xs es → Q .non H2
theorem upd_none {H : Hp} {a p : Addr} {o : HO} (h : upd H a o p = none) : p ≠ a ∧ H p = none := by
  by_cases e : p = a
  · subst e
    rw [upd_same] at h
    cases h
  · rw [upd_ne e] at h
    exact ⟨e, h⟩
theorem fr_Order_init (T : Txt K mg) : FnR P w K mg base CX0 4 540 (spInit (WK K) 0 m_Order_init) := by
  obtain ⟨fd, F⟩ := T.d_Order_init
  obtain ⟨oc, od, dV, kV, doc, pm, an, cdv, ct, osl, rfl, lk, hcd, hD, _⟩ := F.ex
  obtain rfl : dV = .none := by
    rcases hD with ⟨_, h⟩ | ⟨h, _⟩
    · exact h
    · exact absurd rfl h
  refine FnR.imp (StX.fn_star (ps := ["self"]) (pv := "positions") (N := ["self", "positions", "index", "position"]) (sp := spI K) lk hcd sc_Order_init StX.cxUp_none
    (fun us rest hl => match us, hl with | [_], _ => by cases rest <;> rfl) fun A outer s H vs Q E hr h => ?_) fun vs H Q E h => ?_
  · obtain ⟨H1, F, x, dx, p, ws, ds, es, rfl, h1, h2, h3, h4, h5, h6, rfl, h7, h8, h9, kk⟩ := h
    exact ⟨t_Order_init K, PSs.nox (bk_Order_init T 540 cdv A outer s _ E hr), rd_Order_init T h1 h2 h3 h4 h5 h6 h7 h8 h9 kk⟩
  · obtain ⟨H1, F, x, dx, ws, ds, es, rfl, h1, h2, h3, rfl, h4, h5, h6, kk⟩ := h
    refine ⟨[.ref x], ws, rfl, rfl, ?_, fun p hp => ?_⟩
    · unfold m_Order_init at h6
      split at h6
      · rename_i hc
        rw [Bool.and_eq_true] at hc
        rw [h5.length]
        exact Nat.le_trans (Nat.le_of_ble_eq_true hc.1) (by decide)
      · cases h6
    · obtain ⟨a1, a2⟩ := upd_none hp
      obtain ⟨a3, a4⟩ := upd_none a2
      exact ⟨H1, F, x, dx, p, ws, ds, es, rfl, h1, h2, h3, a4, a1, a3, rfl, h4, h5, h6, kk⟩
/-! ### methods, properties: forms -/
theorem passE {X : Cx} {E : XK} : Passes CX0 X E := fun _ _ _ _ _ _ _ h => h.elim
def OkM (P : Program) (w : World) (K : PySem.W.Frag) (mg : Str → Option Value) (base : Heap) (k : Nat) (f : Addr) (ps : List Str) (sp : Sp) : Prop := ∃ fd, FnOk P w K mg base CX0 k f fd ps sp ∧ L2.Binds K fd ps []
theorem OkM.fr {k n : Nat} {f : Addr} {ps : List Str} {W : Wd} {m : List D → Option D} (h : OkM P w K mg base k f ps (spO W n m)) (hn : ps.length = n) : FnR P w K mg base CX0 k f (spO W n m) := by
  obtain ⟨fd, ok, b⟩ := h
  intro A outer s H us vs Q E hr e0 r hsp
  have hl := ok.len _ _ _ _ hsp
  have KX : K.In s.heap := e0.mod.kin.keeps fun b o e => (e0.bs b o e).1
  have b' := b s us KX (by rw [List.append_nil, ← r.length]; exact hl)
  rw [List.append_nil] at b'
  exact ok.run A outer s H ⟨us, []⟩ us vs Q E hr e0 b' r hsp
section
variable {X : Cx} {k : Nat} {C p g : Addr} {f : Str} {ps : List Str} {sp : Sp} {e o : Expr} {es : List Expr} {pos apos : Pos} {ta : TE} {t : TA} {pl : Sem Bool}
theorem pe_propX (h : OkM X.prog X.w X.K X.mg X.base k g ps sp) (ha : PE X e ta) (c : Cls X.K C) (hp : PropOf X.K C f p g) (hr : Room (k + 1) X.A) (hb : attributeBase e f X.env (eval e X.env) = eval e X.env := by rfl) : PE X (.Attribute e f pos) (tProp C sp [] (fun _ _ _ => False) ta) := by
  obtain ⟨fd, ok, b⟩ := h
  exact pe_prop ha c hp ok hr b .nil passE hb
theorem pe_methX (h : OkM X.prog X.w X.K X.mg X.base k g ps sp) (ha : PE X o ta) (c : Cls X.K C) (hm : Meth X.K C f g) (hr : Room k X.A) (hargs : PA X (e :: es) t)
    (h1 : starEach (e :: es) X.env = (false, eval e X.env) :: starEach es X.env := by rfl) (h2 : ((backTo pos (starEach es X.env)).any fun x => x.1) = false := by rfl)
    (h3 : eval (.Call (.Attribute o f apos) (e :: es) [] pos) X.env = (do
      let ov ← eval o X.env
      standAt apos.atName
      let (f, first) ← holding [ov] (getMethod ov f pl)
      callWith pos f first (backTo pos (starEach (e :: es) X.env)) (backToKw pos (keywordEach [] X.env))) := by rfl) : PE X (.Call (.Attribute o f apos) (e :: es) [] pos) (tMeth C f sp [] (fun _ _ _ => False) ta t) := by
  obtain ⟨fd, ok, b⟩ := h
  exact pe_meth ha c hm ok hr b .nil passE hargs h1 h2 h3
theorem pe_methX0 (h : OkM X.prog X.w X.K X.mg X.base k g ps sp) (ha : PE X o ta) (c : Cls X.K C) (hm : Meth X.K C f g) (hr : Room k X.A)
    (h3 : eval (.Call (.Attribute o f apos) [] [] pos) X.env = (do
      let ov ← eval o X.env
      standAt apos.atName
      let (f, first) ← holding [ov] (getMethod ov f pl)
      callWith pos f first (backTo pos (starEach [] X.env)) (backToKw pos (keywordEach [] X.env))) := by rfl) : PE X (.Call (.Attribute o f apos) [] [] pos) (tMeth C f sp [] (fun _ _ _ => False) ta tNil) := by
  obtain ⟨fd, ok, b⟩ := h
  exact pe_meth0 ha c hm ok hr b .nil passE h3
end
/-! ### Order + Order -/
theorem sc_Order_add : FnScope ["self", "other"] ["self", "other"] (defScope s_Order_add) := ⟨rfl, rfl, rfl, by decide +kernel, rfl, by decide +kernel, by decide +kernel⟩
def t_Order_add (K : PySem.W.Frag) : TS := tRet (StX.tMakeR 605 (spInit (WK K) 0 m_Order_init) (fun _ _ _ => False) (StX.tStar K (tFld K (tVar 0) "entries") (StX.tStar K (tFld K (tVar 1) "entries") tNil)))
def b_Order_add : MS := sRet (eMake 0 m_Order_init (aStar (eFld ixO (eVar 0)) (aStar (eFld ixO (eVar 1)) aNil)))
def m_Order_add : List D → Option D := runB 2 b_Order_add
theorem bk_Order_add (T : Txt K mg) : BodyOk P w K mg base ["self", "other"] "Order.__add__" (defScope s_Order_add) (defBody s_Order_add) 5 (t_Order_add K) := fun f cdv A outer s H E hr =>
  pss_one (ps_ret (pe_makeSS T.m_Order (fr_Order_init T) hr (by rfl) T.g_Order passE (StX.pa_star (pe_fld (pv 0) rfl) (StX.pa_star (pe_fld (pv 1) rfl) pa_nil))))
theorem sm_Order_add (T : Txt K mg) : SmS (WK K) (t_Order_add K) b_Order_add := sms_ret (sm_make (c := 0) (sma_star (sm_fld (fld_entries T) sm_var) (sma_star (sm_fld (fld_entries T) sm_var) sma_nil)))
theorem okm_Order_add (T : Txt K mg) : OkM P w K mg base 6 595 ["self", "other"] (spO (WK K) 2 m_Order_add) := by
  obtain ⟨fd, F⟩ := T.d_Order_add
  exact ⟨fd, ok_def F sc_Order_add (bk_Order_add T) (sm_Order_add T), F.bindsN fun _ _ _ _ _ _ us hl => match us, hl with | [_, _], _ => rfl⟩
def gOwn : D → D → Option D
  | .obj 0 xs, .obj 0 ys => m_Order_add [.obj 0 xs, .obj 0 ys]
  | _, _ => none
theorem s_own : OpS (WK K) (CPX.rOwnOp 605 (spO (WK K) 2 m_Order_add) (fun _ _ _ => False)) gOwn := fun F H x y a b d e ra rb q Q k => by
  unfold gOwn at q
  split at q
  · cases ra with
    | fr ra =>
      cases rb with
      | fr rb =>
        have ra' := ra
        have rb' := rb
        cases ra with
        | @obj p dx _ us _ hp hl rp =>
          cases rb with
          | @obj p2 dx2 _ us2 _ hp2 hl2 rp2 =>
            exact ⟨p, dx, _, p2, dx2, _, rfl, rfl, e _ _ hp, e _ _ hp2, F, _, d, e, .cons ra' (.cons rb' .nil), rfl, q, k⟩
  · cases q
end
end CP
/-! part CpT -/
set_option Elab.async false
set_option linter.all false
set_option maxRecDepth 100000
set_option maxHeartbeats 4000000
namespace CP
open PySem PySem.Spec PyProof.Rows L2 CPH
section
variable {P : Program} {w : World} {K : PySem.W.Frag} {mg : Str → Option Value} {base : Heap}
theorem sc_Order_positions : FnScope ["self"] ["self"] (defScope s_Order_positions) := ⟨rfl, rfl, rfl, by decide +kernel, rfl, by decide +kernel, by decide +kernel⟩
def t_Order_positions (K : PySem.W.Frag) : TS := (tRet (tFld K (tVar 0) "entries"))
def b_Order_positions : MS := (sRet (eFld ixO (eVar 0)))
def m_Order_positions : List D → Option D := runB 1 b_Order_positions
theorem bk_Order_positions (T : Txt K mg) : BodyOk P w K mg base ["self"] "Order.positions" (defScope s_Order_positions) (defBody s_Order_positions) 0 (t_Order_positions K) := fun f cdv A outer s H E hr =>
  (pss_one (ps_ret (pe_fld (pv 0) rfl)))
theorem sm_Order_positions (T : Txt K mg) : SmS (WK K) (t_Order_positions K) b_Order_positions :=
  (sms_ret (sm_fld (fld_entries T) sm_var))
theorem okm_Order_positions (T : Txt K mg) : OkM P w K mg base 1 547 ["self"] (spO (WK K) 1 m_Order_positions) := by
  obtain ⟨fd, F⟩ := T.d_Order_positions
  exact ⟨fd, ok_def F sc_Order_positions (bk_Order_positions T) (sm_Order_positions T), F.bindsN fun _ _ _ _ _ _ us hl => match us, hl with | [_], _ => rfl⟩
theorem sc_node_orders : FnScope ["n", "cells", "found", "upper", "lower", "position"] ["n", "cells"] (defScope s_node_orders) := ⟨rfl, rfl, rfl, by decide +kernel, rfl, by decide +kernel, by decide +kernel⟩
def t_node_orders (K : PySem.W.Frag) : TS := (tSeq (tAsg (tLc (iRng1 (tCons (tOp (rI0 fun i j => .int (i + j)) (tVar 0) (tC (.int 1))) tNil)) (gName 5) tYes (StX.tMakeR 605 (spInit (WK K) 0 m_Order_init) (fun _ _ _ => False) (tCons (tVar 5) tNil)) [5]) (gName 2)) (tSeq (tFor (iTup K (tVar 1)) (gTup K 2 (gCons (gName 3) (gCons (gName 4) gNil))) (tDrop (tBM K "list" rAppend (tVar 2) (tCons (tOp (CPX.rOwnOp 605 (spO (WK K) 2 m_Order_add) (fun _ _ _ => False)) (tOp (rIx K) (tVar 2) (tVar 3)) (tOp (rIx K) (tVar 2) (tVar 4))) tNil)))) (tRet (tVar 2))))
def b_node_orders : MS := (sSeq (sAsgO 2 (aComp [5] (iR1 (aCons (eBin gAdd (eVar 0) (eC (.int 1))) aNil)) (gN 5) (fun _ => some true) (eMake 0 m_Order_init (aCons (eVar 5) aNil)))) (sSeq (sFor (iTp (eVar 1)) (gTp (gCons0 (gN 3) (gCons0 (gN 4) gNil0)) 2) (sApp 2 (eBin gOwn (eBin gIx (eOwn 2) (eVar 3)) (eBin gIx (eOwn 2) (eVar 4))))) (fun ρ => (sRet (eVar 2)) (freeze 2 ρ))))
def m_node_orders : List D → Option D := runB 6 b_node_orders
theorem bk_node_orders (T : Txt K mg) : BodyOk P w K mg base ["n", "cells", "found", "upper", "lower", "position"] "node_orders" (defScope s_node_orders) (defBody s_node_orders) 6 (t_node_orders K) := fun f cdv A outer s H E hr =>
  (pss_cons (ps_setLc (i := 2) (own := [("position", 5)]) rfl sc_node_orders.nd rfl rfl (sw_true rfl rfl rfl (by decide +kernel)) (pi_range1 (by rfl) T.b_range (pa_cons (pe_op op_add (pv 0) pe_int) pa_nil)) (blkOk_by (by rfl)) (fun _ _ _ _ _ => (pg_name (i := 5) sc_node_orders.nd rfl (by first | exact Or.inl rfl | exact Or.inr rfl))) (fun _ _ _ _ _ => pts_nil) (fun _ _ _ _ _ => (StX.pe_makeR T.m_Order (fr_Order_init T) (hr.mono (by decide)) (by rfl) T.g_Order passE (pa_cons (pv 5) pa_nil)))) (pss_cons (ps_for PassesOwn.never rfl (pi_tup (pv 1)) (pg_tup rfl (pgs_cons (pg_name (i := 3) sc_node_orders.nd rfl (by first | exact Or.inl rfl | exact Or.inr rfl)) (pgs_cons (pg_name (i := 4) sc_node_orders.nd rfl (by first | exact Or.inl rfl | exact Or.inr rfl)) pgs_nil))) (pss_one (ps_expr (pe_bm PySem.F.plainAttrs_list PySem.F.slot_list_append PySem.F.type_list_append mt_append (pv 2) (pa_cons (pe_op (CPX.op_own T.h_Order_add.2.2 T.h_Order_add.1 T.h_Order_add.2.1 ((okm_Order_add T).fr rfl) (hr.mono (by decide)) passE) (pe_ix ix_seq (pv 2) (pv 3) (fun _ _ => rfl)) (pe_ix ix_seq (pv 2) (pv 4) (fun _ _ => rfl))) pa_nil))))) (pss_one (ps_ret (pv 2)))))
theorem sm_node_orders (T : Txt K mg) : SmS (WK K) (t_node_orders K) b_node_orders :=
  (sms_seq (sms_asgO (sml_lc (vs := [5]) (smi_r1 (sma_cons (sm_op s_add (Sm.b sm_var) (Sm.b sm_int)) sma_nil)) tgs_name (by decide) smt_yes (sm_make (c := 0) (sma_cons sm_var sma_nil)))) (sms_seq (sms_for (smi_tup sm_var) (tgs_tup (tgss_cons tgs_name (tgss_cons tgs_name tgss_nil))) (sms_app (sm_op s_own (Sm.b (sm_op s_ix smb_own (Sm.b sm_var))) (Sm.b (sm_op s_ix smb_own (Sm.b sm_var)))))) (sms_freeze 2 (sms_ret sm_var))))
theorem g_node_orders (T : Txt K mg) : GoodD P w K mg base (WK K) 7 "node_orders" [] (mP 2 m_node_orders) := by
  obtain ⟨f, fd, hm, F⟩ := T.f_node_orders
  exact good_of hm F (ok_def F sc_node_orders (bk_node_orders T) (sm_node_orders T)) (F.bindsN fun _ _ _ _ _ _ us hl => match us, hl with | [_, _], _ => rfl)
theorem sc_wrong_positions : FnScope ["n", "orders", "ring", "found", "output", "order"] ["n", "orders", "ring"] (defScope s_wrong_positions) := ⟨rfl, rfl, rfl, by decide +kernel, rfl, by decide +kernel, by decide +kernel⟩
def t_wrong_positions (K : PySem.W.Frag) : TS := (tSeq (tAsg (tLst tNil) (gName 3)) (tSeq (tFor (RZ.iZipA K (tCons (tU (spD (WK K) 0 (mP 2 m_output_positions)) (tCons (tVar 0) (tCons (tVar 2) tNil)) tNil) (tCons (tVar 1) tNil))) (gTup K 2 (gCons (gName 4) (gCons (gName 5) gNil))) (tIfS (tTest (tOp (rNeD K) (tProp 605 (spO (WK K) 1 m_Order_positions) [] (fun _ _ _ => False) (tVar 5)) (tU (spD (WK K) 0 (mP 3 m_due_positions)) (tCons (tVar 0) (tCons (tVar 4) (tCons (tVar 2) tNil))) tNil))) (tDrop (tBM K "list" rAppend (tVar 3) (tCons (tVar 4) tNil))) tNext)) (tRet (tCB (fun xs H Q => ∃ p ys, xs = [.ref p] ∧ ((SqL K H p ys ∧ ∀ l, H l = none → Q (.ref l) (upd H l (.tup ys))) ∨ (SqT K H p ys ∧ Q (.ref p) H))) (tCons (tVar 3) tNil)))))
def b_wrong_positions : MS := (sSeq (sAsgO 3 (aCap aNil)) (sSeq (sFor (iZpE tupOf tupOf (eU (mP 2 m_output_positions) (aCons (eVar 0) (aCons (eVar 2) aNil)) aNil) (eVar 1)) (gTp (gCons0 (gN 4) (gCons0 (gN 5) gNil0)) 2) (sIf (tOf (eBin (gEqD true) (eProp 0 m_Order_positions (eVar 5)) (eU (mP 3 m_due_positions) (aCons (eVar 0) (aCons (eVar 4) (aCons (eVar 2) aNil))) aNil))) (sApp 3 (eVar 4)) sNext)) (sRet (eCall cTuple (aCons (eOwn 3) aNil)))))
def m_wrong_positions : List D → Option D := runB 6 b_wrong_positions
theorem bk_wrong_positions (T : Txt K mg) : BodyOk P w K mg base ["n", "orders", "ring", "found", "output", "order"] "wrong_positions" (defScope s_wrong_positions) (defBody s_wrong_positions) 2 (t_wrong_positions K) := fun f cdv A outer s H E hr =>
  (pss_cons (ps_set (i := 3) sc_wrong_positions.nd rfl (by first | exact Or.inl rfl | exact Or.inr rfl) (pe_lst pa_nil)) (pss_cons (ps_for PassesOwn.never rfl (RZ.pi_zipA (by rfl) T.b_zip (pa_cons (pe_u (g_output_positions T) (hr.mono (by decide)) (by rfl) (pa_cons (pv 0) (pa_cons (pv 2) pa_nil))) (pa_cons (pv 1) pa_nil))) (pg_tup rfl (pgs_cons (pg_name (i := 4) sc_wrong_positions.nd rfl (by first | exact Or.inl rfl | exact Or.inr rfl)) (pgs_cons (pg_name (i := 5) sc_wrong_positions.nd rfl (by first | exact Or.inl rfl | exact Or.inr rfl)) pgs_nil))) (pss_one (ps_if (pt_cmpR (op_neD hr.units) (pe_propX (okm_Order_positions T) (pv 5) T.c_Order T.p_Order_positions (hr.mono (by decide))) (pe_u (g_due_positions T) (hr.mono (by decide)) (by rfl) (pa_cons (pv 0) (pa_cons (pv 4) (pa_cons (pv 2) pa_nil)))) (nomark _)) (pss_one (ps_expr (pe_bm PySem.F.plainAttrs_list PySem.F.slot_list_append PySem.F.type_list_append mt_append (pv 3) (pa_cons (pv 4) pa_nil)))) pss_nil))) (pss_one (ps_ret (pe_callTy call_tuple_of (by rfl) T.b_tuple (by decide +kernel) (pa_cons (pv 3) pa_nil))))))
theorem sm_wrong_positions (T : Txt K mg) : SmS (WK K) (t_wrong_positions K) b_wrong_positions :=
  (sms_seq (sms_asgO (sml_lst sma_nil)) (sms_seq (sms_for (smi_zipT (sm_u (sma_cons sm_var (sma_cons sm_var sma_nil)) sma_nil) sm_var) (tgs_tup (tgss_cons tgs_name (tgss_cons tgs_name tgss_nil))) (sms_if (smt_T (sm_op s_neD (Sm.b (sm_prop (c := 0) sm_var)) (Sm.b (sm_u (sma_cons sm_var (sma_cons sm_var (sma_cons sm_var sma_nil))) sma_nil)))) (sms_app sm_var) sms_next)) (sms_ret (sm_cb cs_tuple (smab_cons smb_own (SmA.b sma_nil))))))
theorem g_wrong_positions (T : Txt K mg) : GoodD P w K mg base (WK K) 3 "wrong_positions" [] (mP 3 m_wrong_positions) := by
  obtain ⟨f, fd, hm, F⟩ := T.f_wrong_positions
  exact good_of hm F (ok_def F sc_wrong_positions (bk_wrong_positions T) (sm_wrong_positions T)) (F.bindsN fun _ _ _ _ _ _ us hl => match us, hl with | [_, _, _], _ => rfl)
theorem sc_Network_orders : FnScope ["self", "known", "node"] ["self"] (defScope s_Network_orders) := ⟨rfl, rfl, rfl, by decide +kernel, rfl, by decide +kernel, by decide +kernel⟩
def t_Network_orders (K : PySem.W.Frag) : TS := (tSeq (tAsg (tU (spD (WK K) 0 (mP 2 m_node_orders)) (tCons (tFld K (tVar 0) "bits") (tCons (tFld K (tVar 0) "joins") tNil)) tNil) (gName 1)) (tRet (tCB (fun xs H Q => ∃ p ys, xs = [.ref p] ∧ ((SqL K H p ys ∧ ∀ l, H l = none → Q (.ref l) (upd H l (.tup ys))) ∨ (SqT K H p ys ∧ Q (.ref p) H))) (tCons (tLc (iTup K (tFld K (tVar 0) "ends")) (gName 2) tYes (tOp (rIx K) (tVar 1) (tVar 2)) [2]) tNil))))
def b_Network_orders : MS := (sSeq (sAsg (eU (mP 2 m_node_orders) (aCons (eFld (ixN4 0) (eVar 0)) (aCons (eFld (ixN4 1) (eVar 0)) aNil)) aNil) (gN 1)) (sRet (eCall cTuple (aCons (eNew (aComp [2] (iTp (eFld (ixN4 2) (eVar 0))) (gN 2) (fun _ => some true) (eBin gIx (eVar 1) (eVar 2)))) aNil))))
def m_Network_orders : List D → Option D := runB 3 b_Network_orders
theorem bk_Network_orders (T : Txt K mg) : BodyOk P w K mg base ["self", "known", "node"] "Network.orders" (defScope s_Network_orders) (defBody s_Network_orders) 7 (t_Network_orders K) := fun f cdv A outer s H E hr =>
  (pss_cons (ps_set (i := 1) sc_Network_orders.nd rfl (by first | exact Or.inl rfl | exact Or.inr rfl) (pe_u (g_node_orders T) (hr.mono (by decide)) (by rfl) (pa_cons (pe_fld (pv 0) rfl) (pa_cons (pe_fld (pv 0) rfl) pa_nil)))) (pss_one (ps_ret (pe_callTy call_tuple_of (by rfl) T.b_tuple (by decide +kernel) (pa_cons (pe_lc (own := [("node", 2)]) rfl sc_Network_orders.nd (pi_tup (pe_fld (pv 0) rfl)) (blkOk_by (by rfl)) (fun _ _ _ _ _ => (pg_name (i := 2) sc_Network_orders.nd rfl (by first | exact Or.inl rfl | exact Or.inr rfl))) (fun _ _ _ _ _ => pts_nil) (fun _ _ _ _ _ => (pe_ix ix_seq (pv 1) (pv 2) (fun _ _ => rfl)))) pa_nil)))))
theorem sm_Network_orders (T : Txt K mg) : SmS (WK K) (t_Network_orders K) b_Network_orders :=
  (sms_seq (sms_asg (sm_u (sma_cons (sm_fld (fld_bits T) sm_var) (sma_cons (sm_fld (fld_joins T) sm_var) sma_nil)) sma_nil) tgs_name) (sms_ret (sm_cb cs_tuple (smab_cons (Sm.b (sm_of_l (sml_lc (vs := [2]) (smi_tup (sm_fld (fld_ends T) sm_var)) tgs_name (by decide) smt_yes (sm_op s_ix (Sm.b sm_var) (Sm.b sm_var))))) (SmA.b sma_nil)))))
theorem okm_Network_orders (T : Txt K mg) : OkM P w K mg base 8 790 ["self"] (spO (WK K) 1 m_Network_orders) := by
  obtain ⟨fd, F⟩ := T.d_Network_orders
  exact ⟨fd, ok_def F sc_Network_orders (bk_Network_orders T) (sm_Network_orders T), F.bindsN fun _ _ _ _ _ _ us hl => match us, hl with | [_], _ => rfl⟩
theorem sc_Network_wrong_outputs : FnScope ["self"] ["self"] (defScope s_Network_wrong_outputs) := ⟨rfl, rfl, rfl, by decide +kernel, rfl, by decide +kernel, by decide +kernel⟩
def t_Network_wrong_outputs (K : PySem.W.Frag) : TS := (tRet (tU (spD (WK K) 0 (mP 3 m_wrong_positions)) (tCons (tFld K (tVar 0) "bits") (tCons (tProp 948 (spO (WK K) 1 m_Network_orders) [] (fun _ _ _ => False) (tVar 0)) (tCons (tC (.bl false)) tNil))) tNil))
def b_Network_wrong_outputs : MS := (sRet (eU (mP 3 m_wrong_positions) (aCons (eFld (ixN4 0) (eVar 0)) (aCons (eProp 1 m_Network_orders (eVar 0)) (aCons (eC (.bool false)) aNil))) aNil))
def m_Network_wrong_outputs : List D → Option D := runB 1 b_Network_wrong_outputs
theorem bk_Network_wrong_outputs (T : Txt K mg) : BodyOk P w K mg base ["self"] "Network.wrong_outputs" (defScope s_Network_wrong_outputs) (defBody s_Network_wrong_outputs) 9 (t_Network_wrong_outputs K) := fun f cdv A outer s H E hr =>
  (pss_one (ps_ret (pe_u (g_wrong_positions T) (hr.mono (by decide)) (by rfl) (pa_cons (pe_fld (pv 0) rfl) (pa_cons (pe_propX (okm_Network_orders T) (pv 0) T.c_Network T.p_Network_orders (hr.mono (by decide))) (pa_cons pe_bl pa_nil))))))
theorem sm_Network_wrong_outputs (T : Txt K mg) : SmS (WK K) (t_Network_wrong_outputs K) b_Network_wrong_outputs :=
  (sms_ret (sm_u (sma_cons (sm_fld (fld_bits T) sm_var) (sma_cons (sm_prop (c := 1) sm_var) (sma_cons sm_bl sma_nil))) sma_nil))
theorem okm_Network_wrong_outputs (T : Txt K mg) : OkM P w K mg base 10 806 ["self"] (spO (WK K) 1 m_Network_wrong_outputs) := by
  obtain ⟨fd, F⟩ := T.d_Network_wrong_outputs
  exact ⟨fd, ok_def F sc_Network_wrong_outputs (bk_Network_wrong_outputs T) (sm_Network_wrong_outputs T), F.bindsN fun _ _ _ _ _ _ us hl => match us, hl with | [_], _ => rfl⟩
theorem sc_Ring_wrong_outputs : FnScope ["self"] ["self"] (defScope s_Ring_wrong_outputs) := ⟨rfl, rfl, rfl, by decide +kernel, rfl, by decide +kernel, by decide +kernel⟩
def t_Ring_wrong_outputs (K : PySem.W.Frag) : TS := (tRet (tU (spD (WK K) 0 (mP 3 m_wrong_positions)) (tCons (tFld K (tVar 0) "bits") (tCons (tProp 1171 (spO (WK K) 1 m_Network_orders) [] (fun _ _ _ => False) (tVar 0)) (tCons (tC (.bl true)) tNil))) tNil))
def b_Ring_wrong_outputs : MS := (sRet (eU (mP 3 m_wrong_positions) (aCons (eFld (ixN4 0) (eVar 0)) (aCons (eProp 2 m_Network_orders (eVar 0)) (aCons (eC (.bool true)) aNil))) aNil))
def m_Ring_wrong_outputs : List D → Option D := runB 1 b_Ring_wrong_outputs
theorem bk_Ring_wrong_outputs (T : Txt K mg) : BodyOk P w K mg base ["self"] "Ring.wrong_outputs" (defScope s_Ring_wrong_outputs) (defBody s_Ring_wrong_outputs) 9 (t_Ring_wrong_outputs K) := fun f cdv A outer s H E hr =>
  (pss_one (ps_ret (pe_u (g_wrong_positions T) (hr.mono (by decide)) (by rfl) (pa_cons (pe_fld (pv 0) rfl) (pa_cons (pe_propX (okm_Network_orders T) (pv 0) T.c_Ring T.p_Ring_orders (hr.mono (by decide))) (pa_cons pe_bl pa_nil))))))
theorem sm_Ring_wrong_outputs (T : Txt K mg) : SmS (WK K) (t_Ring_wrong_outputs K) b_Ring_wrong_outputs :=
  (sms_ret (sm_u (sma_cons (sm_fld (fld_bits T) sm_var) (sma_cons (sm_prop (c := 2) sm_var) (sma_cons sm_bl sma_nil))) sma_nil))
theorem okm_Ring_wrong_outputs (T : Txt K mg) : OkM P w K mg base 10 1099 ["self"] (spO (WK K) 1 m_Ring_wrong_outputs) := by
  obtain ⟨fd, F⟩ := T.d_Ring_wrong_outputs
  exact ⟨fd, ok_def F sc_Ring_wrong_outputs (bk_Ring_wrong_outputs T) (sm_Ring_wrong_outputs T), F.bindsN fun _ _ _ _ _ _ us hl => match us, hl with | [_], _ => rfl⟩
theorem sc_Network_is_right : FnScope ["self"] ["self"] (defScope s_Network_is_right) := ⟨rfl, rfl, rfl, by decide +kernel, rfl, by decide +kernel, by decide +kernel⟩
def t_Network_is_right (K : PySem.W.Frag) : TS := (tRet (tOp (rEqD K) (tProp 948 (spO (WK K) 1 m_Network_wrong_outputs) [] (fun _ _ _ => False) (tVar 0)) (tTup tNil)))
def b_Network_is_right : MS := (sRet (eBin (gEqD false) (eProp 1 m_Network_wrong_outputs (eVar 0)) (eTup aNil)))
def m_Network_is_right : List D → Option D := runB 1 b_Network_is_right
theorem bk_Network_is_right (T : Txt K mg) : BodyOk P w K mg base ["self"] "Network.is_right" (defScope s_Network_is_right) (defBody s_Network_is_right) 11 (t_Network_is_right K) := fun f cdv A outer s H E hr =>
  (pss_one (ps_ret (pe_cmpR (op_eqD hr.units) (pe_propX (okm_Network_wrong_outputs T) (pv 0) T.c_Network T.p_Network_wrong_outputs (hr.mono (by decide))) (pe_tup pa_nil) (nomark _))))
theorem sm_Network_is_right (T : Txt K mg) : SmS (WK K) (t_Network_is_right K) b_Network_is_right :=
  (sms_ret (sm_op s_eqD (Sm.b (sm_prop (c := 1) sm_var)) (Sm.b (sm_tup sma_nil))))
theorem okm_Network_is_right (T : Txt K mg) : OkM P w K mg base 12 814 ["self"] (spO (WK K) 1 m_Network_is_right) := by
  obtain ⟨fd, F⟩ := T.d_Network_is_right
  exact ⟨fd, ok_def F sc_Network_is_right (bk_Network_is_right T) (sm_Network_is_right T), F.bindsN fun _ _ _ _ _ _ us hl => match us, hl with | [_], _ => rfl⟩
def t_Network_is_right_R (K : PySem.W.Frag) : TS := (tRet (tOp (rEqD K) (tProp 1171 (spO (WK K) 1 m_Ring_wrong_outputs) [] (fun _ _ _ => False) (tVar 0)) (tTup tNil)))
def b_Network_is_right_R : MS := (sRet (eBin (gEqD false) (eProp 2 m_Ring_wrong_outputs (eVar 0)) (eTup aNil)))
def m_Network_is_right_R : List D → Option D := runB 1 b_Network_is_right_R
theorem bk_Network_is_right_R (T : Txt K mg) : BodyOk P w K mg base ["self"] "Network.is_right" (defScope s_Network_is_right) (defBody s_Network_is_right) 11 (t_Network_is_right_R K) := fun f cdv A outer s H E hr =>
  (pss_one (ps_ret (pe_cmpR (op_eqD hr.units) (pe_propX (okm_Ring_wrong_outputs T) (pv 0) T.c_Ring T.p_Ring_wrong_outputs (hr.mono (by decide))) (pe_tup pa_nil) (nomark _))))
theorem sm_Network_is_right_R (T : Txt K mg) : SmS (WK K) (t_Network_is_right_R K) b_Network_is_right_R :=
  (sms_ret (sm_op s_eqD (Sm.b (sm_prop (c := 2) sm_var)) (Sm.b (sm_tup sma_nil))))
theorem okm_Network_is_right_R (T : Txt K mg) : OkM P w K mg base 12 814 ["self"] (spO (WK K) 1 m_Network_is_right_R) := by
  obtain ⟨fd, F⟩ := T.d_Network_is_right
  exact ⟨fd, ok_def F sc_Network_is_right (bk_Network_is_right_R T) (sm_Network_is_right_R T), F.bindsN fun _ _ _ _ _ _ us hl => match us, hl with | [_], _ => rfl⟩
theorem sc_Network_need_trial : FnScope ["self", "trial"] ["self", "trial"] (defScope s_Network_need_trial) := ⟨rfl, rfl, rfl, by decide +kernel, rfl, by decide +kernel, by decide +kernel⟩
def t_Network_need_trial (K : PySem.W.Frag) : TS := (tIfS (tNot (tB (tU (spD (WK K) 0 (mP 2 m_is_trial)) (tCons (tVar 1) (tCons (tFld K (tVar 0) "bits") tNil)) tNil))) tNever tNext)
def b_Network_need_trial : MS := (sIf (mNot (tOf (eU (mP 2 m_is_trial) (aCons (eVar 1) (aCons (eFld (ixN4 0) (eVar 0)) aNil)) aNil))) sNever sNext)
def m_Network_need_trial : List D → Option D := runB 2 b_Network_need_trial
theorem bk_Network_need_trial (T : Txt K mg) : BodyOk P w K mg base ["self", "trial"] "Network.need_trial" (defScope s_Network_need_trial) (defBody s_Network_need_trial) 2 (t_Network_need_trial K) := fun f cdv A outer s H E hr =>
  (pss_one (ps_if (pt_not (pt_val (pe_u (g_is_trial T) (hr.mono (by decide)) (by rfl) (pa_cons (pv 1) (pa_cons (pe_fld (pv 0) rfl) pa_nil))))) (pss_one (ps_never)) pss_nil))
theorem sm_Network_need_trial (T : Txt K mg) : SmS (WK K) (t_Network_need_trial K) b_Network_need_trial :=
  (sms_if (smt_not (smt_B (sm_u (sma_cons sm_var (sma_cons (sm_fld (fld_bits T) sm_var) sma_nil)) sma_nil))) sms_never sms_next)
theorem okm_Network_need_trial (T : Txt K mg) : OkM P w K mg base 3 829 ["self", "trial"] (spO (WK K) 2 m_Network_need_trial) := by
  obtain ⟨fd, F⟩ := T.d_Network_need_trial
  exact ⟨fd, ok_def F sc_Network_need_trial (bk_Network_need_trial T) (sm_Network_need_trial T), F.bindsN fun _ _ _ _ _ _ us hl => match us, hl with | [_, _], _ => rfl⟩
theorem sc_Ring_need_trial : FnScope ["self", "trial"] ["self", "trial"] (defScope s_Ring_need_trial) := ⟨rfl, rfl, rfl, by decide +kernel, rfl, by decide +kernel, by decide +kernel⟩
def t_Ring_need_trial (K : PySem.W.Frag) : TS := (tIfS (tNot (tB (tU (spD (WK K) 0 (mP 2 m_is_ring_trial)) (tCons (tVar 1) (tCons (tFld K (tVar 0) "bits") tNil)) tNil))) tNever tNext)
def b_Ring_need_trial : MS := (sIf (mNot (tOf (eU (mP 2 m_is_ring_trial) (aCons (eVar 1) (aCons (eFld (ixN4 0) (eVar 0)) aNil)) aNil))) sNever sNext)
def m_Ring_need_trial : List D → Option D := runB 2 b_Ring_need_trial
theorem bk_Ring_need_trial (T : Txt K mg) : BodyOk P w K mg base ["self", "trial"] "Ring.need_trial" (defScope s_Ring_need_trial) (defBody s_Ring_need_trial) 2 (t_Ring_need_trial K) := fun f cdv A outer s H E hr =>
  (pss_one (ps_if (pt_not (pt_val (pe_u (g_is_ring_trial T) (hr.mono (by decide)) (by rfl) (pa_cons (pv 1) (pa_cons (pe_fld (pv 0) rfl) pa_nil))))) (pss_one (ps_never)) pss_nil))
theorem sm_Ring_need_trial (T : Txt K mg) : SmS (WK K) (t_Ring_need_trial K) b_Ring_need_trial :=
  (sms_if (smt_not (smt_B (sm_u (sma_cons sm_var (sma_cons (sm_fld (fld_bits T) sm_var) sma_nil)) sma_nil))) sms_never sms_next)
theorem okm_Ring_need_trial (T : Txt K mg) : OkM P w K mg base 3 1107 ["self", "trial"] (spO (WK K) 2 m_Ring_need_trial) := by
  obtain ⟨fd, F⟩ := T.d_Ring_need_trial
  exact ⟨fd, ok_def F sc_Ring_need_trial (bk_Ring_need_trial T) (sm_Ring_need_trial T), F.bindsN fun _ _ _ _ _ _ us hl => match us, hl with | [_, _], _ => rfl⟩
theorem sc_Network_held_states : FnScope ["self"] ["self"] (defScope s_Network_held_states) := ⟨rfl, rfl, rfl, by decide +kernel, rfl, by decide +kernel, by decide +kernel⟩
def t_Network_held_states (K : PySem.W.Frag) : TS := (tRet (tCB (CPX.rDictT K) (tCons (tFld K (tVar 0) "held") tNil)))
def b_Network_held_states : MS := (sRet (eCall cDict (aCons (eFld (ixN4 3) (eVar 0)) aNil)))
def m_Network_held_states : List D → Option D := runB 1 b_Network_held_states
theorem bk_Network_held_states (T : Txt K mg) : BodyOk P w K mg base ["self"] "Network.held_states" (defScope s_Network_held_states) (defBody s_Network_held_states) 0 (t_Network_held_states K) := fun f cdv A outer s H E hr =>
  (pss_one (ps_ret (pe_callTy (CPX.call_dictT rfl) (by rfl) T.b_dict (by decide +kernel) (pa_cons (pe_fld (pv 0) rfl) pa_nil))))
theorem sm_Network_held_states (T : Txt K mg) : SmS (WK K) (t_Network_held_states K) b_Network_held_states :=
  (sms_ret (sm_cb cs_dict (smab_cons (Sm.b (sm_fld (fld_held T) sm_var)) (SmA.b sma_nil))))
theorem okm_Network_held_states (T : Txt K mg) : OkM P w K mg base 1 850 ["self"] (spO (WK K) 1 m_Network_held_states) := by
  obtain ⟨fd, F⟩ := T.d_Network_held_states
  exact ⟨fd, ok_def F sc_Network_held_states (bk_Network_held_states T) (sm_Network_held_states T), F.bindsN fun _ _ _ _ _ _ us hl => match us, hl with | [_], _ => rfl⟩
theorem sc_Network_carries : FnScope ["self", "trial", "known", "node"] ["self", "trial"] (defScope s_Network_carries) := ⟨rfl, rfl, rfl, by decide +kernel, rfl, by decide +kernel, by decide +kernel⟩
def t_Network_carries_N (K : PySem.W.Frag) : TS := (tSeq (tDrop (tMeth 948 "need_trial" (spO (WK K) 2 m_Network_need_trial) [] (fun _ _ _ => False) (tVar 0) (tCons (tVar 1) tNil))) (tSeq (tAsg (tU (spD (WK K) 0 (mP 4 m_node_states)) (tCons (tFld K (tVar 0) "bits") (tCons (tFld K (tVar 0) "joins") (tCons (tVar 1) (tCons (tMeth 948 "held_states" (spO (WK K) 1 m_Network_held_states) [] (fun _ _ _ => False) (tVar 0) tNil) tNil)))) tNil) (gName 2)) (tRet (tCB (fun xs H Q => ∃ p ys, xs = [.ref p] ∧ ((SqL K H p ys ∧ ∀ l, H l = none → Q (.ref l) (upd H l (.tup ys))) ∨ (SqT K H p ys ∧ Q (.ref p) H))) (tCons (tLc (iTup K (tFld K (tVar 0) "ends")) (gName 3) tYes (tU (spD (WK K) 0 (mP 1 m_carry_of)) (tCons (tOp (rIx K) (tVar 2) (tVar 3)) tNil) tNil) [3]) tNil)))))
def b_Network_carries_N : MS := (sSeq (sDrop (eOM 1 2 m_Network_need_trial (eVar 0) (aCons (eVar 1) aNil))) (sSeq (sAsg (eU (mP 4 m_node_states) (aCons (eFld (ixN4 0) (eVar 0)) (aCons (eFld (ixN4 1) (eVar 0)) (aCons (eVar 1) (aCons (eOM 1 1 m_Network_held_states (eVar 0) aNil) aNil)))) aNil) (gN 2)) (sRet (eCall cTuple (aCons (eNew (aComp [3] (iTp (eFld (ixN4 2) (eVar 0))) (gN 3) (fun _ => some true) (eU (mP 1 m_carry_of) (aCons (eBin gIx (eVar 2) (eVar 3)) aNil) aNil))) aNil)))))
def m_Network_carries_N : List D → Option D := runB 4 b_Network_carries_N
theorem bk_Network_carries_N (T : Txt K mg) : BodyOk P w K mg base ["self", "trial", "known", "node"] "Network.carries" (defScope s_Network_carries) (defBody s_Network_carries) 3 (t_Network_carries_N K) := fun f cdv A outer s H E hr =>
  (pss_cons (ps_expr (pe_methX (okm_Network_need_trial T) (pv 0) T.c_Network T.h_Network_need_trial (hr.mono (by decide)) (pa_cons (pv 1) pa_nil))) (pss_cons (ps_set (i := 2) sc_Network_carries.nd rfl (by first | exact Or.inl rfl | exact Or.inr rfl) (pe_u (g_node_states T) (hr.mono (by decide)) (by rfl) (pa_cons (pe_fld (pv 0) rfl) (pa_cons (pe_fld (pv 0) rfl) (pa_cons (pv 1) (pa_cons (pe_methX0 (okm_Network_held_states T) (pv 0) T.c_Network T.h_Network_held_states (hr.mono (by decide)) ) pa_nil)))))) (pss_one (ps_ret (pe_callTy call_tuple_of (by rfl) T.b_tuple (by decide +kernel) (pa_cons (pe_lc (own := [("node", 3)]) rfl sc_Network_carries.nd (pi_tup (pe_fld (pv 0) rfl)) (blkOk_by (by rfl)) (fun _ _ _ _ _ => (pg_name (i := 3) sc_Network_carries.nd rfl (by first | exact Or.inl rfl | exact Or.inr rfl))) (fun _ _ _ _ _ => pts_nil) (fun _ _ _ _ _ => (pe_u (g_carry_of T) (hr.mono (by decide)) (by rfl) (pa_cons (pe_ix ix_seq (pv 2) (pv 3) (fun _ _ => rfl)) pa_nil)))) pa_nil))))))
theorem sm_Network_carries_N (T : Txt K mg) : SmS (WK K) (t_Network_carries_N K) b_Network_carries_N :=
  (sms_seq (sms_drop (sm_om (c := 1) (n := 2) (by rfl) sm_var (sma_cons sm_var sma_nil))) (sms_seq (sms_asg (sm_u (sma_cons (sm_fld (fld_bits T) sm_var) (sma_cons (sm_fld (fld_joins T) sm_var) (sma_cons sm_var (sma_cons (sm_om (c := 1) (n := 1) (by rfl) sm_var sma_nil) sma_nil)))) sma_nil) tgs_name) (sms_ret (sm_cb cs_tuple (smab_cons (Sm.b (sm_of_l (sml_lc (vs := [3]) (smi_tup (sm_fld (fld_ends T) sm_var)) tgs_name (by decide) smt_yes (sm_u (sma_cons (sm_op s_ix (Sm.b sm_var) (Sm.b sm_var)) sma_nil) sma_nil)))) (SmA.b sma_nil))))))
theorem okm_Network_carries_N (T : Txt K mg) : OkM P w K mg base 4 862 ["self", "trial"] (spO (WK K) 2 m_Network_carries_N) := by
  obtain ⟨fd, F⟩ := T.d_Network_carries
  exact ⟨fd, ok_def F sc_Network_carries (bk_Network_carries_N T) (sm_Network_carries_N T), F.bindsN fun _ _ _ _ _ _ us hl => match us, hl with | [_, _], _ => rfl⟩
def t_Network_carries_R (K : PySem.W.Frag) : TS := (tSeq (tDrop (tMeth 1171 "need_trial" (spO (WK K) 2 m_Ring_need_trial) [] (fun _ _ _ => False) (tVar 0) (tCons (tVar 1) tNil))) (tSeq (tAsg (tU (spD (WK K) 0 (mP 4 m_node_states)) (tCons (tFld K (tVar 0) "bits") (tCons (tFld K (tVar 0) "joins") (tCons (tVar 1) (tCons (tMeth 1171 "held_states" (spO (WK K) 1 m_Network_held_states) [] (fun _ _ _ => False) (tVar 0) tNil) tNil)))) tNil) (gName 2)) (tRet (tCB (fun xs H Q => ∃ p ys, xs = [.ref p] ∧ ((SqL K H p ys ∧ ∀ l, H l = none → Q (.ref l) (upd H l (.tup ys))) ∨ (SqT K H p ys ∧ Q (.ref p) H))) (tCons (tLc (iTup K (tFld K (tVar 0) "ends")) (gName 3) tYes (tU (spD (WK K) 0 (mP 1 m_carry_of)) (tCons (tOp (rIx K) (tVar 2) (tVar 3)) tNil) tNil) [3]) tNil)))))
def b_Network_carries_R : MS := (sSeq (sDrop (eOM 2 2 m_Ring_need_trial (eVar 0) (aCons (eVar 1) aNil))) (sSeq (sAsg (eU (mP 4 m_node_states) (aCons (eFld (ixN4 0) (eVar 0)) (aCons (eFld (ixN4 1) (eVar 0)) (aCons (eVar 1) (aCons (eOM 2 1 m_Network_held_states (eVar 0) aNil) aNil)))) aNil) (gN 2)) (sRet (eCall cTuple (aCons (eNew (aComp [3] (iTp (eFld (ixN4 2) (eVar 0))) (gN 3) (fun _ => some true) (eU (mP 1 m_carry_of) (aCons (eBin gIx (eVar 2) (eVar 3)) aNil) aNil))) aNil)))))
def m_Network_carries_R : List D → Option D := runB 4 b_Network_carries_R
theorem bk_Network_carries_R (T : Txt K mg) : BodyOk P w K mg base ["self", "trial", "known", "node"] "Network.carries" (defScope s_Network_carries) (defBody s_Network_carries) 3 (t_Network_carries_R K) := fun f cdv A outer s H E hr =>
  (pss_cons (ps_expr (pe_methX (okm_Ring_need_trial T) (pv 0) T.c_Ring T.h_Ring_need_trial (hr.mono (by decide)) (pa_cons (pv 1) pa_nil))) (pss_cons (ps_set (i := 2) sc_Network_carries.nd rfl (by first | exact Or.inl rfl | exact Or.inr rfl) (pe_u (g_node_states T) (hr.mono (by decide)) (by rfl) (pa_cons (pe_fld (pv 0) rfl) (pa_cons (pe_fld (pv 0) rfl) (pa_cons (pv 1) (pa_cons (pe_methX0 (okm_Network_held_states T) (pv 0) T.c_Ring T.h_Ring_held_states (hr.mono (by decide)) ) pa_nil)))))) (pss_one (ps_ret (pe_callTy call_tuple_of (by rfl) T.b_tuple (by decide +kernel) (pa_cons (pe_lc (own := [("node", 3)]) rfl sc_Network_carries.nd (pi_tup (pe_fld (pv 0) rfl)) (blkOk_by (by rfl)) (fun _ _ _ _ _ => (pg_name (i := 3) sc_Network_carries.nd rfl (by first | exact Or.inl rfl | exact Or.inr rfl))) (fun _ _ _ _ _ => pts_nil) (fun _ _ _ _ _ => (pe_u (g_carry_of T) (hr.mono (by decide)) (by rfl) (pa_cons (pe_ix ix_seq (pv 2) (pv 3) (fun _ _ => rfl)) pa_nil)))) pa_nil))))))
theorem sm_Network_carries_R (T : Txt K mg) : SmS (WK K) (t_Network_carries_R K) b_Network_carries_R :=
  (sms_seq (sms_drop (sm_om (c := 2) (n := 2) (by rfl) sm_var (sma_cons sm_var sma_nil))) (sms_seq (sms_asg (sm_u (sma_cons (sm_fld (fld_bits T) sm_var) (sma_cons (sm_fld (fld_joins T) sm_var) (sma_cons sm_var (sma_cons (sm_om (c := 2) (n := 1) (by rfl) sm_var sma_nil) sma_nil)))) sma_nil) tgs_name) (sms_ret (sm_cb cs_tuple (smab_cons (Sm.b (sm_of_l (sml_lc (vs := [3]) (smi_tup (sm_fld (fld_ends T) sm_var)) tgs_name (by decide) smt_yes (sm_u (sma_cons (sm_op s_ix (Sm.b sm_var) (Sm.b sm_var)) sma_nil) sma_nil)))) (SmA.b sma_nil))))))
theorem okm_Network_carries_R (T : Txt K mg) : OkM P w K mg base 4 862 ["self", "trial"] (spO (WK K) 2 m_Network_carries_R) := by
  obtain ⟨fd, F⟩ := T.d_Network_carries
  exact ⟨fd, ok_def F sc_Network_carries (bk_Network_carries_R T) (sm_Network_carries_R T), F.bindsN fun _ _ _ _ _ _ us hl => match us, hl with | [_, _], _ => rfl⟩
def t_Network_carries_F (K : PySem.W.Frag) : TS := (tSeq (tDrop (tMeth 1083 "need_trial" (spO (WK K) 2 m_Network_need_trial) [] (fun _ _ _ => False) (tVar 0) (tCons (tVar 1) tNil))) (tSeq (tAsg (tU (spD (WK K) 0 (mP 4 m_node_states)) (tCons (tFld K (tVar 0) "bits") (tCons (tFld K (tVar 0) "joins") (tCons (tVar 1) (tCons (tMeth 1083 "held_states" (spO (WK K) 1 m_Network_held_states) [] (fun _ _ _ => False) (tVar 0) tNil) tNil)))) tNil) (gName 2)) (tRet (tCB (fun xs H Q => ∃ p ys, xs = [.ref p] ∧ ((SqL K H p ys ∧ ∀ l, H l = none → Q (.ref l) (upd H l (.tup ys))) ∨ (SqT K H p ys ∧ Q (.ref p) H))) (tCons (tLc (iTup K (tFld K (tVar 0) "ends")) (gName 3) tYes (tU (spD (WK K) 0 (mP 1 m_carry_of)) (tCons (tOp (rIx K) (tVar 2) (tVar 3)) tNil) tNil) [3]) tNil)))))
def b_Network_carries_F : MS := (sSeq (sDrop (eOM 3 2 m_Network_need_trial (eVar 0) (aCons (eVar 1) aNil))) (sSeq (sAsg (eU (mP 4 m_node_states) (aCons (eFld (ixN4 0) (eVar 0)) (aCons (eFld (ixN4 1) (eVar 0)) (aCons (eVar 1) (aCons (eOM 3 1 m_Network_held_states (eVar 0) aNil) aNil)))) aNil) (gN 2)) (sRet (eCall cTuple (aCons (eNew (aComp [3] (iTp (eFld (ixN4 2) (eVar 0))) (gN 3) (fun _ => some true) (eU (mP 1 m_carry_of) (aCons (eBin gIx (eVar 2) (eVar 3)) aNil) aNil))) aNil)))))
def m_Network_carries_F : List D → Option D := runB 4 b_Network_carries_F
theorem bk_Network_carries_F (T : Txt K mg) : BodyOk P w K mg base ["self", "trial", "known", "node"] "Network.carries" (defScope s_Network_carries) (defBody s_Network_carries) 3 (t_Network_carries_F K) := fun f cdv A outer s H E hr =>
  (pss_cons (ps_expr (pe_methX (okm_Network_need_trial T) (pv 0) T.c_Faulty T.h_Faulty_need_trial (hr.mono (by decide)) (pa_cons (pv 1) pa_nil))) (pss_cons (ps_set (i := 2) sc_Network_carries.nd rfl (by first | exact Or.inl rfl | exact Or.inr rfl) (pe_u (g_node_states T) (hr.mono (by decide)) (by rfl) (pa_cons (pe_fld (pv 0) rfl) (pa_cons (pe_fld (pv 0) rfl) (pa_cons (pv 1) (pa_cons (pe_methX0 (okm_Network_held_states T) (pv 0) T.c_Faulty T.h_Faulty_held_states (hr.mono (by decide)) ) pa_nil)))))) (pss_one (ps_ret (pe_callTy call_tuple_of (by rfl) T.b_tuple (by decide +kernel) (pa_cons (pe_lc (own := [("node", 3)]) rfl sc_Network_carries.nd (pi_tup (pe_fld (pv 0) rfl)) (blkOk_by (by rfl)) (fun _ _ _ _ _ => (pg_name (i := 3) sc_Network_carries.nd rfl (by first | exact Or.inl rfl | exact Or.inr rfl))) (fun _ _ _ _ _ => pts_nil) (fun _ _ _ _ _ => (pe_u (g_carry_of T) (hr.mono (by decide)) (by rfl) (pa_cons (pe_ix ix_seq (pv 2) (pv 3) (fun _ _ => rfl)) pa_nil)))) pa_nil))))))
theorem sm_Network_carries_F (T : Txt K mg) : SmS (WK K) (t_Network_carries_F K) b_Network_carries_F :=
  (sms_seq (sms_drop (sm_om (c := 3) (n := 2) (by rfl) sm_var (sma_cons sm_var sma_nil))) (sms_seq (sms_asg (sm_u (sma_cons (sm_fld (fld_bits T) sm_var) (sma_cons (sm_fld (fld_joins T) sm_var) (sma_cons sm_var (sma_cons (sm_om (c := 3) (n := 1) (by rfl) sm_var sma_nil) sma_nil)))) sma_nil) tgs_name) (sms_ret (sm_cb cs_tuple (smab_cons (Sm.b (sm_of_l (sml_lc (vs := [3]) (smi_tup (sm_fld (fld_ends T) sm_var)) tgs_name (by decide) smt_yes (sm_u (sma_cons (sm_op s_ix (Sm.b sm_var) (Sm.b sm_var)) sma_nil) sma_nil)))) (SmA.b sma_nil))))))
theorem okm_Network_carries_F (T : Txt K mg) : OkM P w K mg base 4 862 ["self", "trial"] (spO (WK K) 2 m_Network_carries_F) := by
  obtain ⟨fd, F⟩ := T.d_Network_carries
  exact ⟨fd, ok_def F sc_Network_carries (bk_Network_carries_F T) (sm_Network_carries_F T), F.bindsN fun _ _ _ _ _ _ us hl => match us, hl with | [_, _], _ => rfl⟩
theorem sc_Faulty_rows : FnScope ["self", "known", "node"] ["self"] (defScope s_Faulty_rows) := ⟨rfl, rfl, rfl, by decide +kernel, rfl, by decide +kernel, by decide +kernel⟩
def t_Faulty_rows (K : PySem.W.Frag) : TS := (tSeq (tAsg (tU (spD (WK K) 0 (mP 3 m_node_rows)) (tCons (tFld K (tVar 0) "bits") (tCons (tFld K (tVar 0) "joins") (tCons (tMeth 1083 "held_states" (spO (WK K) 1 m_Network_held_states) [] (fun _ _ _ => False) (tVar 0) tNil) tNil))) tNil) (gName 1)) (tRet (tCB (fun xs H Q => ∃ p ys, xs = [.ref p] ∧ ((SqL K H p ys ∧ ∀ l, H l = none → Q (.ref l) (upd H l (.tup ys))) ∨ (SqT K H p ys ∧ Q (.ref p) H))) (tCons (tLc (iTup K (tFld K (tVar 0) "ends")) (gName 2) tYes (tOp (rIx K) (tVar 1) (tVar 2)) [2]) tNil))))
def b_Faulty_rows : MS := (sSeq (sAsg (eU (mP 3 m_node_rows) (aCons (eFld (ixN4 0) (eVar 0)) (aCons (eFld (ixN4 1) (eVar 0)) (aCons (eOM 3 1 m_Network_held_states (eVar 0) aNil) aNil))) aNil) (gN 1)) (sRet (eCall cTuple (aCons (eNew (aComp [2] (iTp (eFld (ixN4 2) (eVar 0))) (gN 2) (fun _ => some true) (eBin gIx (eVar 1) (eVar 2)))) aNil))))
def m_Faulty_rows : List D → Option D := runB 3 b_Faulty_rows
theorem bk_Faulty_rows (T : Txt K mg) : BodyOk P w K mg base ["self", "known", "node"] "Faulty.rows" (defScope s_Faulty_rows) (defBody s_Faulty_rows) 2 (t_Faulty_rows K) := fun f cdv A outer s H E hr =>
  (pss_cons (ps_set (i := 1) sc_Faulty_rows.nd rfl (by first | exact Or.inl rfl | exact Or.inr rfl) (pe_u (g_node_rows T) (hr.mono (by decide)) (by rfl) (pa_cons (pe_fld (pv 0) rfl) (pa_cons (pe_fld (pv 0) rfl) (pa_cons (pe_methX0 (okm_Network_held_states T) (pv 0) T.c_Faulty T.h_Faulty_held_states (hr.mono (by decide)) ) pa_nil))))) (pss_one (ps_ret (pe_callTy call_tuple_of (by rfl) T.b_tuple (by decide +kernel) (pa_cons (pe_lc (own := [("node", 2)]) rfl sc_Faulty_rows.nd (pi_tup (pe_fld (pv 0) rfl)) (blkOk_by (by rfl)) (fun _ _ _ _ _ => (pg_name (i := 2) sc_Faulty_rows.nd rfl (by first | exact Or.inl rfl | exact Or.inr rfl))) (fun _ _ _ _ _ => pts_nil) (fun _ _ _ _ _ => (pe_ix ix_seq (pv 1) (pv 2) (fun _ _ => rfl)))) pa_nil)))))
theorem sm_Faulty_rows (T : Txt K mg) : SmS (WK K) (t_Faulty_rows K) b_Faulty_rows :=
  (sms_seq (sms_asg (sm_u (sma_cons (sm_fld (fld_bits T) sm_var) (sma_cons (sm_fld (fld_joins T) sm_var) (sma_cons (sm_om (c := 3) (n := 1) (by rfl) sm_var sma_nil) sma_nil))) sma_nil) tgs_name) (sms_ret (sm_cb cs_tuple (smab_cons (Sm.b (sm_of_l (sml_lc (vs := [2]) (smi_tup (sm_fld (fld_ends T) sm_var)) tgs_name (by decide) smt_yes (sm_op s_ix (Sm.b sm_var) (Sm.b sm_var))))) (SmA.b sma_nil)))))
theorem okm_Faulty_rows (T : Txt K mg) : OkM P w K mg base 3 1002 ["self"] (spO (WK K) 1 m_Faulty_rows) := by
  obtain ⟨fd, F⟩ := T.d_Faulty_rows
  exact ⟨fd, ok_def F sc_Faulty_rows (bk_Faulty_rows T) (sm_Faulty_rows T), F.bindsN fun _ _ _ _ _ _ us hl => match us, hl with | [_], _ => rfl⟩
theorem sc_Faulty_wrong_outputs : FnScope ["self", "found", "output", "row"] ["self"] (defScope s_Faulty_wrong_outputs) := ⟨rfl, rfl, rfl, by decide +kernel, rfl, by decide +kernel, by decide +kernel⟩
def t_Faulty_wrong_outputs (K : PySem.W.Frag) : TS := (tSeq (tAsg (tLst tNil) (gName 1)) (tSeq (tFor (CPX.iEnumT K (tCons (tProp 1083 (spO (WK K) 1 m_Faulty_rows) [] (fun _ _ _ => False) (tVar 0)) tNil)) (gTup K 2 (gCons (gName 2) (gCons (gName 3) gNil))) (tIfS (tTest (tOp (rNeD K) (tVar 3) (tU (spD (WK K) 0 (mP 3 m_due_positions)) (tCons (tFld K (tVar 0) "bits") (tCons (tVar 2) (tCons (tC (.bl false)) tNil))) tNil))) (tDrop (tBM K "list" rAppend (tVar 1) (tCons (tVar 2) tNil))) tNext)) (tRet (tCB (fun xs H Q => ∃ p ys, xs = [.ref p] ∧ ((SqL K H p ys ∧ ∀ l, H l = none → Q (.ref l) (upd H l (.tup ys))) ∨ (SqT K H p ys ∧ Q (.ref p) H))) (tCons (tVar 1) tNil)))))
def b_Faulty_wrong_outputs : MS := (sSeq (sAsgO 1 (aCap aNil)) (sSeq (sFor (iEnT (eProp 3 m_Faulty_rows (eVar 0))) (gTp (gCons0 (gN 2) (gCons0 (gN 3) gNil0)) 2) (sIf (tOf (eBin (gEqD true) (eVar 3) (eU (mP 3 m_due_positions) (aCons (eFld (ixN4 0) (eVar 0)) (aCons (eVar 2) (aCons (eC (.bool false)) aNil))) aNil))) (sApp 1 (eVar 2)) sNext)) (sRet (eCall cTuple (aCons (eOwn 1) aNil)))))
def m_Faulty_wrong_outputs : List D → Option D := runB 4 b_Faulty_wrong_outputs
theorem bk_Faulty_wrong_outputs (T : Txt K mg) : BodyOk P w K mg base ["self", "found", "output", "row"] "Faulty.wrong_outputs" (defScope s_Faulty_wrong_outputs) (defBody s_Faulty_wrong_outputs) 4 (t_Faulty_wrong_outputs K) := fun f cdv A outer s H E hr =>
  (pss_cons (ps_set (i := 1) sc_Faulty_wrong_outputs.nd rfl (by first | exact Or.inl rfl | exact Or.inr rfl) (pe_lst pa_nil)) (pss_cons (ps_for PassesOwn.never rfl (CPX.pi_enumT (by rfl) T.b_enumerate (pa_cons (pe_propX (okm_Faulty_rows T) (pv 0) T.c_Faulty T.p_Faulty_rows (hr.mono (by decide))) pa_nil)) (pg_tup rfl (pgs_cons (pg_name (i := 2) sc_Faulty_wrong_outputs.nd rfl (by first | exact Or.inl rfl | exact Or.inr rfl)) (pgs_cons (pg_name (i := 3) sc_Faulty_wrong_outputs.nd rfl (by first | exact Or.inl rfl | exact Or.inr rfl)) pgs_nil))) (pss_one (ps_if (pt_cmpR (op_neD hr.units) (pv 3) (pe_u (g_due_positions T) (hr.mono (by decide)) (by rfl) (pa_cons (pe_fld (pv 0) rfl) (pa_cons (pv 2) (pa_cons pe_bl pa_nil)))) (nomark _)) (pss_one (ps_expr (pe_bm PySem.F.plainAttrs_list PySem.F.slot_list_append PySem.F.type_list_append mt_append (pv 1) (pa_cons (pv 2) pa_nil)))) pss_nil))) (pss_one (ps_ret (pe_callTy call_tuple_of (by rfl) T.b_tuple (by decide +kernel) (pa_cons (pv 1) pa_nil))))))
theorem sm_Faulty_wrong_outputs (T : Txt K mg) : SmS (WK K) (t_Faulty_wrong_outputs K) b_Faulty_wrong_outputs :=
  (sms_seq (sms_asgO (sml_lst sma_nil)) (sms_seq (sms_for (smi_enumT (sm_prop (c := 3) sm_var)) (tgs_tup (tgss_cons tgs_name (tgss_cons tgs_name tgss_nil))) (sms_if (smt_T (sm_op s_neD (Sm.b sm_var) (Sm.b (sm_u (sma_cons (sm_fld (fld_bits T) sm_var) (sma_cons sm_var (sma_cons sm_bl sma_nil))) sma_nil)))) (sms_app sm_var) sms_next)) (sms_ret (sm_cb cs_tuple (smab_cons smb_own (SmA.b sma_nil))))))
theorem okm_Faulty_wrong_outputs (T : Txt K mg) : OkM P w K mg base 5 1010 ["self"] (spO (WK K) 1 m_Faulty_wrong_outputs) := by
  obtain ⟨fd, F⟩ := T.d_Faulty_wrong_outputs
  exact ⟨fd, ok_def F sc_Faulty_wrong_outputs (bk_Faulty_wrong_outputs T) (sm_Faulty_wrong_outputs T), F.bindsN fun _ _ _ _ _ _ us hl => match us, hl with | [_], _ => rfl⟩
theorem sc_Faulty_is_right : FnScope ["self"] ["self"] (defScope s_Faulty_is_right) := ⟨rfl, rfl, rfl, by decide +kernel, rfl, by decide +kernel, by decide +kernel⟩
def t_Faulty_is_right (K : PySem.W.Frag) : TS := (tRet (tOp (rEqD K) (tProp 1083 (spO (WK K) 1 m_Faulty_wrong_outputs) [] (fun _ _ _ => False) (tVar 0)) (tTup tNil)))
def b_Faulty_is_right : MS := (sRet (eBin (gEqD false) (eProp 3 m_Faulty_wrong_outputs (eVar 0)) (eTup aNil)))
def m_Faulty_is_right : List D → Option D := runB 1 b_Faulty_is_right
theorem bk_Faulty_is_right (T : Txt K mg) : BodyOk P w K mg base ["self"] "Faulty.is_right" (defScope s_Faulty_is_right) (defBody s_Faulty_is_right) 6 (t_Faulty_is_right K) := fun f cdv A outer s H E hr =>
  (pss_one (ps_ret (pe_cmpR (op_eqD hr.units) (pe_propX (okm_Faulty_wrong_outputs T) (pv 0) T.c_Faulty T.p_Faulty_wrong_outputs (hr.mono (by decide))) (pe_tup pa_nil) (nomark _))))
theorem sm_Faulty_is_right (T : Txt K mg) : SmS (WK K) (t_Faulty_is_right K) b_Faulty_is_right :=
  (sms_ret (sm_op s_eqD (Sm.b (sm_prop (c := 3) sm_var)) (Sm.b (sm_tup sma_nil))))
theorem okm_Faulty_is_right (T : Txt K mg) : OkM P w K mg base 7 1018 ["self"] (spO (WK K) 1 m_Faulty_is_right) := by
  obtain ⟨fd, F⟩ := T.d_Faulty_is_right
  exact ⟨fd, ok_def F sc_Faulty_is_right (bk_Faulty_is_right T) (sm_Faulty_is_right T), F.bindsN fun _ _ _ _ _ _ us hl => match us, hl with | [_], _ => rfl⟩
end
end CP
/-! part CpU -/
set_option Elab.async false
set_option linter.all false
set_option maxRecDepth 100000
set_option maxHeartbeats 4000000
namespace CP
open PySem PySem.Spec PyProof.Rows L2 CPH
section
variable {P : Program} {w : World} {K : PySem.W.Frag} {mg : Str → Option Value} {base : Heap}
/-! ### Network.__init__ -/
theorem sc_Network_init : FnScope ["self", "n", "cells", "outputs"] ["self", "n", "cells", "outputs"] (defScope s_Network_init) := ⟨rfl, rfl, rfl, by decide +kernel, rfl, by decide +kernel, by decide +kernel⟩
abbrev rLen' (K : PySem.W.Frag) : List V → Hp → VK → Prop := fun xs H Q => ∃ x n, xs = [x] ∧ LenV K x H n ∧ Q (.int n) H
def t_Network_init (K : PySem.W.Frag) : TS := tSeq (tIfS (tNot (tB (tU (spD (WK K) 0 (mP 3 m_is_between)) (tCons (tVar 1) (tCons (tCon K (tVar 0) "LEAST_BITS") (tCons (tCon K (tVar 0) "MOST_BITS") tNil))) tNil))) tNever tNext)
  (tSeq (sFld K (tVar 0) (tVar 1) "bits")
  (tSeq (sFld K (tVar 0) (tU (spD (WK K) 0 (mP 3 m_checked_cells)) (tCons (tVar 1) (tCons (tVar 2) (tCons (tCon K (tVar 0) "LOWEST") tNil))) tNil) "joins")
  (tSeq (sFld K (tVar 0) (tU (spD (WK K) 0 (mP 4 m_checked_outputs)) (tCons (tVar 1) (tCons (tCB (rLen' K) (tCons (tFld K (tVar 0) "joins") tNil)) (tCons (tVar 3) (tCons (tCon K (tVar 0) "LOWEST") tNil)))) tNil) "ends")
  (sFld K (tVar 0) CPX.tUnitF "held"))))
theorem bk_Network_init (T : Txt K mg) : BodyOk P w K mg base ["self", "n", "cells", "outputs"] "Network.__init__" (defScope s_Network_init) (defBody s_Network_init) 4 (t_Network_init K) := fun f cdv A outer s H E hr =>
  pss_cons (ps_if (pt_not (pt_val (pe_u (g_is_between T) (hr.mono (by decide)) (by rfl) (pa_cons (pv 1) (pa_cons (pe_con (pv 0) rfl) (pa_cons (pe_con (pv 0) rfl) pa_nil)))))) (pss_one ps_never) pss_nil)
    (pss_cons (ps_fld (pv 0) (pv 1) rfl)
    (pss_cons (ps_fld (pv 0) (pe_u (g_checked_cells T) (hr.mono (by decide)) (by rfl) (pa_cons (pv 1) (pa_cons (pv 2) (pa_cons (pe_con (pv 0) rfl) pa_nil)))) rfl)
    (pss_cons (ps_fld (pv 0) (pe_u (g_checked_outputs T) (hr.mono (by decide)) (by rfl) (pa_cons (pv 1) (pa_cons (pe_callB call_len (by rfl) T.b_len (by decide +kernel) (pa_cons (pe_fld (pv 0) rfl) pa_nil)) (pa_cons (pv 3) (pa_cons (pe_con (pv 0) rfl) pa_nil))))) rfl)
    (pss_one (ps_fld (pv 0) CPX.pe_unitF rfl)))))
/-- what a class of networks is -/
structure NetC (K : PySem.W.Frag) (C : Addr) (least lowest : Int) : Prop where
  cl : Cls K C
  nb : NoAttr K C "bits"
  nj : NoAttr K C "joins"
  ne : NoAttr K C "ends"
  nh : NoAttr K C "held"
  kl : ∃ u, Con K C "LEAST_BITS" (.int least) u
  km : ∃ u, Con K C "MOST_BITS" (.int 24) u
  kw : ∃ u, Con K C "LOWEST" (.int lowest) u
def m_Net_init (least lowest : Int) : List D → Option (List D) := fun ds => match ds with
  | [n, cells, outs] => match m_is_between [n, .int least, .int 24], m_checked_cells [n, cells, .int lowest] with
    | some (.bool true), some (.tup js) => (m_checked_outputs [n, .int js.length, outs, .int lowest]).map fun e => [n, .tup js, e, .tpf []]
    | _, _ => none
  | _ => none
/-- how one stands within it -/
structure Und (K : PySem.W.Frag) (F H1 : Hp) (x dx C : Addr) (fs : List (Str × V)) (F' H' : Hp) : Prop where
  e : Ext F H1 F' H'
  ix : H' x = some (.ins C dx fs)
  n : F' x = none
theorem Und.on {F H1 F' H' F2 H2 : Hp} {x dx C : Addr} {fs : List (Str × V)} (u : Und K F H1 x dx C fs F' H') (e : Ext F' H' F2 H2) : Und K F H1 x dx C fs F2 H2 :=
  ⟨u.e.trans e, e.h _ _ u.ix, e.u _ _ u.ix u.n⟩
theorem Und.put {F H1 F' H' : Hp} {x dx C : Addr} {fs gs : List (Str × V)} (u : Und K F H1 x dx C fs F' H') (hx : H1 x = none) : Und K F H1 x dx C gs F' (upd H' x (.ins C dx gs)) :=
  ⟨u.e.wr (u := .own 0) hx u.n, upd_same, u.n⟩
theorem Und.start {F H1 : Hp} {x dx C : Addr} (hx : H1 x = none) (hdx : H1 dx = none) (hne : dx ≠ x) (e : Ex F H1) : Und K F H1 x dx C [] F (upd (upd H1 dx (.own x)) x (.ins C dx [])) := by
  have hx2 : upd H1 dx (.own x) x = none := by rw [upd_ne (Ne.symm hne)]; exact hx
  exact ⟨(Ext.own e hdx).trans (Ext.own ((Ext.own e hdx).s) hx2), upd_same, e.back hx⟩
theorem rd_Network_init (T : Txt K mg) {H1 F F0 H0 : Hp} {x dx C : Addr} {least lowest : Int} {v1 v2 v3 : V} {d1 d2 d3 : D} {es : List D} {Q : VK} (N : NetC K C least lowest) (hx : H1 x = none) (u0 : Und K F H1 x dx C [] F0 H0) (r1 : Rep (WK K) F v1 d1) (r2 : Rep (WK K) F v2 d2) (r3 : Rep (WK K) F v3 d3)
    (q : m_Net_init least lowest [d1, d2, d3] = some es)
    (kk : ∀ F2 H2 xs, Ext F H1 F2 H2 → F2 x = none → H2 x = some (.ins C dx ((["bits", "joins", "ends", "held"] : List Str).zip xs)) → (["bits", "joins", "ends", "held"] : List Str).length = xs.length → Reps (WK K) F2 xs es → Q .non H2) :
    t_Network_init K { nx := fun _ H' => Q .non H', rt := Q } (L2.start ["self", "n", "cells", "outputs"] [.ref x, v1, v2, v3]) H0 := by
  unfold m_Net_init at q
  simp only at q
  split at q
  · rename_i js h1 h2
    obtain ⟨e3, h3, rfl⟩ := Option.map_eq_some_iff.mp q
    obtain ⟨ul, kl⟩ := N.kl
    obtain ⟨um, km⟩ := N.km
    obtain ⟨uw, kw⟩ := N.kw
    refine ⟨_, rfl, _, rfl, x, C, dx, [], _, ul, rfl, u0.ix, N.cl, kl, rfl, _, rfl, x, C, dx, [], _, um, rfl, u0.ix, N.cl, km, rfl, ?_⟩
    refine ⟨F0, [d1, .int least, .int 24], [], _, u0.e.s, .cons (r1.mono u0.e.f) (.cons (.int _) (.cons (.int _) .nil)), .nil, (show mP 3 m_is_between _ _ = some (.bool true) from h1), fun v F1 H1' e1 rv => ?_⟩
    cases rv
    have u1 := u0.on e1
    refine ⟨true, rfl, ?_⟩
    refine ⟨v1, rfl, _, rfl, x, C, dx, [], rfl, u1.ix, N.cl, N.nb, by show (0 : Nat) < 1000; decide, ?_⟩
    have u2 : Und K F H1 x dx C [("bits", v1)] F1 _ := u1.put hx
    refine ⟨v1, rfl, v2, rfl, _, rfl, x, C, dx, _, _, uw, rfl, u2.ix, N.cl, kw, rfl, ?_⟩
    refine ⟨F1, [d1, d2, .int lowest], [], _, u2.e.s, .cons (r1.mono u2.e.f) (.cons (r2.mono u2.e.f) (.cons (.int _) .nil)), .nil, (show mP 3 m_checked_cells _ _ = some (.tup js) from h2), fun vj F2 H2 e2 rj => ?_⟩
    have u3 := u2.on e2
    refine ⟨_, rfl, x, C, dx, _, rfl, u3.ix, N.cl, N.nj, by show (1 : Nat) < 1000; decide, ?_⟩
    have u4 : Und K F H1 x dx C [("bits", v1), ("joins", vj)] F2 _ := u3.put hx
    refine ⟨v1, rfl, _, rfl, x, C, dx, _, vj, rfl, u4.ix, N.cl, N.nj, rfl, ?_⟩
    cases rj with
    | @tup pj xj _ hp rp =>
      refine ⟨_, xj.length, rfl, .inr ⟨xj, ex_t u4.e.s hp, rfl⟩, v3, rfl, _, rfl, x, C, dx, _, _, uw, rfl, u4.ix, N.cl, kw, rfl, ?_⟩
      refine ⟨F2, [d1, .int js.length, d3, .int lowest], [], e3, u4.e.s, .cons (r1.mono u4.e.f) (.cons (by rw [rp.length]; exact .int _) (.cons (r3.mono u4.e.f) (.cons (.int _) .nil))), .nil, (show mP 4 m_checked_outputs _ _ = some e3 from h3), fun ve F3 H3 e3' re => ?_⟩
      have u5 := u4.on e3'
      refine ⟨_, rfl, x, C, dx, _, rfl, u5.ix, N.cl, N.ne, by show (2 : Nat) < 1000; decide, ?_⟩
      have u6 : Und K F H1 x dx C [("bits", v1), ("joins", .ref pj), ("ends", ve)] F3 _ := u5.put hx
      intro p hp0
      have z := Ext.new (o := .frz ({ cls := .type "tuple", data := .seq #[] } : Obj) (.tup [])) u6.e.s hp0
      have u7 := u6.on z
      refine ⟨_, rfl, x, C, dx, _, rfl, u7.ix, N.cl, N.nh, by show (3 : Nat) < 1000; decide, ?_⟩
      have u8 : Und K F H1 x dx C [("bits", v1), ("joins", .ref pj), ("ends", ve), ("held", .ref p)] _ _ := u7.put hx
      refine kk _ _ [v1, .ref pj, ve, .ref p] u8.e u8.n u8.ix rfl ?_
      exact .cons ((r1.mono u5.e.f).mono z.f) (.cons (.tup (ex_t z.f (ex_t e3'.f hp)) ((rp.mono e3'.f).mono z.f)) (.cons (re.mono z.f) (.cons (.tpf upd_same rfl rfl .nil) .nil)))
  · cases q
theorem net1 (T : Txt K mg) : NetC K 948 1 0 := ⟨T.c_Network, T.n_Network_bits, T.n_Network_joins, T.n_Network_ends, T.n_Network_held, T.k_Network_LEAST_BITS, T.k_Network_MOST_BITS, T.k_Network_LOWEST⟩
theorem net2 (T : Txt K mg) : NetC K 1171 2 1 := ⟨T.c_Ring, T.n_Ring_bits, T.n_Ring_joins, T.n_Ring_ends, T.n_Ring_held, T.k_Ring_LEAST_BITS, T.k_Ring_MOST_BITS, T.k_Ring_LOWEST⟩
theorem net3 (T : Txt K mg) : NetC K 1083 1 0 := ⟨T.c_Faulty, T.n_Faulty_bits, T.n_Faulty_joins, T.n_Faulty_ends, T.n_Faulty_held, T.k_Faulty_LEAST_BITS, T.k_Faulty_MOST_BITS, T.k_Faulty_LOWEST⟩
def NetOk (K : PySem.W.Frag) (c : Nat) (least lowest : Int) : Prop := NetC K ((WK K).ca c) least lowest ∧ (WK K).fn c = (["bits", "joins", "ends", "held"] : List Str)
theorem fr_of_ok {k : Nat} {f : Addr} {fd : FuncData} {ps : List Str} {sp : Sp} (ok : FnOk P w K mg base CX0 k f fd ps sp) (b : L2.Binds K fd ps []) : FnR P w K mg base CX0 k f sp := by
  intro A outer s H us vs Q E hr e0 r hsp
  have hl := ok.len _ _ _ _ hsp
  have KX : K.In s.heap := e0.mod.kin.keeps fun b o e => (e0.bs b o e).1
  have b' := b s us KX (by rw [List.append_nil, ← r.length]; exact hl)
  rw [List.append_nil] at b'
  exact ok.run A outer s H ⟨us, []⟩ us vs Q E hr e0 b' r hsp
theorem fr_Network_init (T : Txt K mg) {c : Nat} {least lowest : Int} (N : NetOk K c least lowest) : FnR P w K mg base CX0 5 745 (spInit (WK K) c (m_Net_init least lowest)) := by
  obtain ⟨fd, F⟩ := T.d_Network_init
  have ok : FnOk P w K mg base CX0 5 745 fd ["self", "n", "cells", "outputs"] (spInit (WK K) c (m_Net_init least lowest)) := by
    refine F.ok sc_Network_init (fun vs H Q E ⟨H1, F, x, dx, ws, ds, es, e1, _, _, _, _, _, r, q, _⟩ => ?_) fun cdv A outer s H vs Q E hr ⟨H1, F, x, dx, ws, ds, es, e1, hx, hdx, hne, eH, e, r, q, kk⟩ => ?_
    · subst e1
      unfold m_Net_init at q
      split at q
      · rw [List.length_cons, r.length]
        rfl
      · cases q
    · subst e1 eH
      refine ⟨t_Network_init K, PSs.nox (bk_Network_init T 745 cdv A outer s _ E hr), ?_⟩
      have q' := q
      unfold m_Net_init at q'
      split at q'
      · cases r with
        | cons r1 r =>
          cases r with
          | cons r2 r =>
            cases r with
            | cons r3 r =>
              cases r
              refine rd_Network_init T N.1 hx (Und.start hx hdx hne e) r1 r2 r3 q fun F2 H2 xs a1 a2 a3 a4 a5 => kk F2 H2 xs a1 a2 (N.2.symm ▸ a3) (N.2.symm ▸ a4) a5
      · cases q'
  exact fr_of_ok ok (F.bindsN fun _ _ _ _ _ _ us hl => match us, hl with | [_, _, _, _], _ => rfl)
end
end CP
/-! part CpAA -/
set_option Elab.async false
set_option linter.all false
set_option maxRecDepth 100000
set_option maxHeartbeats 4000000
namespace CP
open PySem PySem.Spec PyProof.Rows L2 CPH
/-! ### two new lists of one's own, in a tuple -/
def SmW (W : Wd) (t : TE) (m : Env → Option (List D × List D)) : Prop := ∀ (H0 F H : Hp) (σ : L2.St) (ρ : Env) (r : List D × List D), Ex F H → EnvR W H0 F H σ ρ → m ρ = some r →
  ∀ Q : VK, (∀ p a b us ws F' H', Ext F H F' H' → H a = none → H b = none → F' a = none → F' b = none → a ≠ b → H' p = some (.tup [.ref a, .ref b]) → H' a = some (.lst us) → H' b = some (.lst ws) → Reps W F' us r.1 → Reps W F' ws r.2 → Q (.ref p) H') → t σ H Q
def spW (W : Wd) (m : List D → Option (List D × List D)) : SpK := fun vs zs H Q => ∃ F ds r, Ex F H ∧ Reps W F vs ds ∧ m ds = some r ∧
  ∀ p a b us ws F' H', Ext F H F' H' → H a = none → H b = none → F' a = none → F' b = none → a ≠ b → H' p = some (.tup [.ref a, .ref b]) → H' a = some (.lst us) → H' b = some (.lst ws) → Reps W F' us r.1 → Reps W F' ws r.2 → Q (.ref p) H'
section
variable {W : Wd}
theorem smw_u {m : List D → Option (List D × List D)} {t : TA} {a : MA} (ha : SmA W t a) : SmW W (tU (spW W m) t tNil) (fun ρ => (a ρ).bind m) := fun H0 F H σ ρ r e g q Q k => by
  obtain ⟨ds, h1, h2⟩ := Option.bind_eq_some_iff.mp q
  refine ha H0 F H σ ρ ds e g h1 _ fun vs F1 H1 e1 r1 => ?_
  refine ⟨F1, ds, r, e1.s, r1, h2, fun p a b us ws F' H' e2 n1 n2 n3 n4 => k p a b us ws F' H' (e1.trans e2) (e1.h.back n1) (e1.h.back n2) n3 n4⟩
theorem smw_if {c : TT} {t u : TE} {mc : MT} {m1 m2 : Env → Option (List D × List D)} (hc : SmT W c mc) (h1 : SmW W t m1) (h2 : SmW W u m2) : SmW W (tIf c t u) (fun ρ => (mc ρ).bind fun x => if x = true then m1 ρ else m2 ρ) := fun H0 F H σ ρ r e g q Q k => by
  obtain ⟨x, g1, g2⟩ := Option.bind_eq_some_iff.mp q
  refine hc H0 F H σ ρ x e g g1 _ fun F1 H1 e1 => ?_
  have k' : ∀ p a b us ws F' H', Ext F1 H1 F' H' → H1 a = none → H1 b = none → F' a = none → F' b = none → a ≠ b → H' p = some (.tup [.ref a, .ref b]) → H' a = some (.lst us) → H' b = some (.lst ws) → Reps W F' us r.1 → Reps W F' ws r.2 → Q (.ref p) H' :=
    fun p a b us ws F' H' e2 n1 n2 => k p a b us ws F' H' (e1.trans e2) (e1.h.back n1) (e1.h.back n2)
  cases x with
  | true => exact h1 H0 F1 H1 σ ρ r e1.s (g.ext e1) g2 Q k'
  | false => exact h2 H0 F1 H1 σ ρ r e1.s (g.ext e1) g2 Q k'
def sOwn2 (i j : Nat) (m : Env → Option (List D × List D)) : MS := fun ρ => (m ρ).map fun r => .nx (setOw j r.2 (setOw i r.1 ρ))
theorem sms_own2 {t : TE} {m : Env → Option (List D × List D)} {i j : Nat} (hij : i ≠ j) (h : SmW W t m) : SmS W (tAsg t (gTup W.K 2 (gCons (gName i) (gCons (gName j) gNil)))) (sOwn2 i j m) := fun F0 H0 F H σ ρ r e g q Dd k => by
  obtain ⟨r, h1, rfl⟩ := Option.map_eq_some_iff.mp q
  refine h H0 F H σ ρ r e.s g h1 _ fun p a b us ws F1 H1 e1 n1 n2 n3 n4 hab hp ha hb ra rb => ?_
  refine ⟨p, _, rfl, .inl (.inl hp), rfl, _, _, rfl, _, _, rfl, rfl, ?_⟩
  have g1 := (g.ext e1).setOw (i := i) ha n3 (e.h.back n1) ra fun k' es _ hj hs => by
    obtain ⟨p', xs, q2, q3, _⟩ := g.ow k' es hj
    rw [q2] at hs
    cases hs
    rw [n1] at q3
    cases q3
  have g2 := g1.setOw (i := j) hb n4 (e.h.back n2) rb fun k' es hk hj hs => by
    rcases set_get hj with ⟨rfl, q, hl⟩ | ⟨ne, q⟩
    · have hl' : i < σ.length := by rw [g.len]; exact hl
      rw [List.getElem?_set_self hl'] at hs
      cases hs
      exact hab rfl
    · obtain ⟨p', xs, q2, q3, _⟩ := g.ow k' es q
      rw [List.getElem?_set_ne ne, q2] at hs
      cases hs
      rw [n2] at q3
      cases q3
  exact k _ F1 H1 (e.trans e1) g2
/-! ### chained -/
def mCh (n : Int) : List D → List D → D → Option (List D × D)
  | [], cs, l => some (cs, l)
  | p :: ps, cs, l => if cap (cs.length + 1) = true then mCh n ps (cs ++ [.tup [p, l]]) (.int (n + ((cs.length + 1 : Nat) : Int))) else none
def m_chained : D → List D → D → D → Option (List D × D) := fun n cs ps l => match n, ps with
  | .int n, .tup ps => mCh n ps.reverse cs l
  | _, _ => none
def spCh (W : Wd) : SpK := fun vs zs H Q => ∃ F vn a vp vl us dn cs dp dl r, vs = [vn, .ref a, vp, vl] ∧ Ex F H ∧ F a = none ∧ H a = some (.lst us) ∧ Rep W F vn dn ∧ Reps W F us cs ∧ Rep W F vp dp ∧ Rep W F vl dl ∧ m_chained dn cs dp dl = some r ∧
  ∀ v F2 H2 us', Ext F H F2 H2 → F2 a = none → Reps W F2 us' r.1 → Rep W F2 v r.2 → Q v (upd H2 a (.lst us'))
/-- xs[j] = chained(n, cells, .., ..) -/
def sChain (ie ic : Nat) (mn mp ml : ME) (mj : ME) : MS := fun ρ => (mn ρ).bind fun dn => (mp ρ).bind fun dp => (ml ρ).bind fun dl => match ρ[ic]? with
  | some (some (.ow cs)) => (m_chained dn cs dp dl).bind fun r => (mj (setOw ic r.1 ρ)).bind fun x => (dI x).bind fun n => (match (setOw ic r.1 ρ)[ie]? with
    | some (some (.ow ds)) => (ixN ds.length n).map fun l => .nx (setOw ie (ds.set l r.2) (setOw ic r.1 ρ))
    | _ => none)
  | _ => none
theorem sms_chain {tn tp tl tj : TE} {mn mp ml mj : ME} {ie ic : Nat} (hn : Sm W tn mn) (hp : Sm W tp mp) (hl : Sm W tl ml) (hj : Sm W tj mj) :
    SmS W (tAsg (tU (spCh W) (tCons tn (tCons (tVar ic) (tCons tp (tCons tl tNil)))) tNil) (gSub (tVar ie) tj rSetL)) (sChain ie ic mn mp ml mj) := fun F0 H0 F H σ ρ r e g q Dd k => by
  obtain ⟨dn, h1, qa⟩ := Option.bind_eq_some_iff.mp q
  obtain ⟨dp, h2, qb⟩ := Option.bind_eq_some_iff.mp qa
  obtain ⟨dl, h3, qc⟩ := Option.bind_eq_some_iff.mp qb
  clear q qa qb
  split at qc
  · rename_i cs hρ
    obtain ⟨r1, h4, qd⟩ := Option.bind_eq_some_iff.mp qc
    obtain ⟨x, h5, qe⟩ := Option.bind_eq_some_iff.mp qd
    obtain ⟨n, h6, qf⟩ := Option.bind_eq_some_iff.mp qe
    clear qc qd qe
    cases dI_eq h6
    split at qf
    · rename_i ds hρ2
      obtain ⟨l, h7, rfl⟩ := Option.map_eq_some_iff.mp qf
      obtain ⟨a, us, g1, g2, g3, g0, g4⟩ := g.ow ic cs hρ
      refine hn H0 F H σ ρ dn e.s g h1 _ fun vn F1 H1 e1 rn => ⟨_, g1, ?_⟩
      refine hp H0 F1 H1 σ ρ dp e1.s (g.ext e1) h2 _ fun vp F2 H2 e2 rp => ?_
      refine hl H0 F2 H2 σ ρ dl e2.s ((g.ext e1).ext e2) h3 _ fun vl F3 H3 e3 rl => ?_
      have e13 := (e1.trans e2).trans e3
      refine ⟨F3, vn, a, vp, vl, us, dn, cs, dp, dl, r1, rfl, e3.s, e13.u _ _ g2 g3, e13.h _ _ g2, (rn.mono e2.f).mono e3.f, g4.mono e13.f, rp.mono e3.f, rl, h4, fun v F4 H4 us' e4 hF4 ru rv => ?_⟩
      have e14 := e13.trans e4
      have gw : EnvR W H0 F4 (upd H4 a (.lst us')) σ (CP.setOw ic r1.1 ρ) := (g.ext e14).write hρ g1 ru
      have ew : Ext F0 H0 F4 (upd H4 a (.lst us')) := Ext.wr (u := .own 0) (e.trans e14) g0 hF4
      obtain ⟨b, ws, k1, k2, k3, k0, k4⟩ := gw.ow ie ds hρ2
      refine ⟨_, k1, ?_⟩
      refine hj H0 F4 _ σ _ _ ew.s gw h5 _ fun u F5 H5 e5 r5 => ?_
      cases r5
      refine ⟨b, ws, n, l, rfl, rfl, e5.h _ _ k2, by rw [k4.length]; exact h7, ?_⟩
      have hF5 := e5.u _ _ k2 k3
      exact k σ F5 _ (Ext.wr (u := .own 0) (ew.trans e5) k0 hF5) ((gw.ext e5).write hρ2 k1 ((k4.mono e5.f).set (rv.mono e5.f) l))
    · cases qf
  · cases qc
end
section
variable {P : Program} {w : World} {K : PySem.W.Frag} {mg : Str → Option Value} {base : Heap}
theorem sc_chained : FnScope ["n", "cells", "positions", "last", "position"] ["n", "cells", "positions", "last"] (defScope s_chained) := ⟨rfl, rfl, rfl, by decide +kernel, rfl, by decide +kernel, by decide +kernel⟩
def t_chained (K : PySem.W.Frag) : TS := tSeq (tFor (iTup K (CPX.tRevT K (tVar 2))) (gName 4) (tSeq (tDrop (tBM K "list" rAppend (tVar 1) (tCons (tTup (tCons (tVar 4) (tCons (tVar 3) tNil))) tNil))) (tAsg (tOp (rI0 fun i j => .int (i + j)) (tVar 0) (tCB (rLen' K) (tCons (tVar 1) tNil))) (gName 3)))) (tRet (tVar 3))
theorem bk_chained (T : Txt K mg) : BodyOk P w K mg base ["n", "cells", "positions", "last", "position"] "chained" (defScope s_chained) (defBody s_chained) 0 (t_chained K) := fun f cdv A outer s H E hr =>
  pss_cons (ps_for PassesOwn.never rfl (pi_tup (CPX.pe_revT (pv 2))) (pg_name (i := 4) sc_chained.nd rfl (Or.inl rfl))
    (pss_cons (ps_expr (pe_bm PySem.F.plainAttrs_list PySem.F.slot_list_append PySem.F.type_list_append mt_append (pv 1) (pa_cons (pe_tup (pa_cons (pv 4) (pa_cons (pv 3) pa_nil))) pa_nil)))
      (pss_one (ps_set (i := 3) sc_chained.nd rfl (Or.inl rfl) (pe_op op_add (pv 0) (pe_callB call_len (by rfl) T.b_len (by decide +kernel) (pa_cons (pv 1) pa_nil)))))))
    (pss_one (ps_ret (pv 3)))
theorem upd_swap {H : Hp} {a b : Addr} {x y : HO} (h : a ≠ b) : upd (upd H a x) b y = upd (upd H b y) a x := by
  funext c
  by_cases h1 : c = b
  · subst h1
    rw [upd_same, upd_ne (Ne.symm h), upd_same]
  · rw [upd_ne h1]
    by_cases h2 : c = a
    · subst h2
      rw [upd_same, upd_same]
    · rw [upd_ne h2, upd_ne h2, upd_ne h1]
theorem upd_twice {H : Hp} {a : Addr} {x y : HO} : upd (upd H a x) a y = upd H a y := by
  funext c
  by_cases h : c = a
  · subst h
    rw [upd_same, upd_same]
  · rw [upd_ne h, upd_ne h, upd_ne h]
theorem upd_id {H : Hp} {a : Addr} {x : HO} (h : H a = some x) : upd H a x = H := by
  funext c
  by_cases e : c = a
  · subst e
    rw [upd_same, h]
  · rw [upd_ne e]
theorem g_chained (T : Txt K mg) : Good P w K mg base 1 "chained" [] (spCh (WK K)) := by
  obtain ⟨f, fd, hm, F⟩ := T.f_chained
  have ok : FnOk P w K mg base CX0 1 f fd ["n", "cells", "positions", "last"] (fun vs H Q _ => spCh (WK K) vs [] H Q) := by
    refine F.ok sc_chained (fun vs H Q E ⟨_, _, _, _, _, _, _, _, _, _, _, e1, _⟩ => by rw [e1]; rfl) fun cdv A outer s H vs Q E hr ⟨F, vn, a, vp, vl, us, dn, cs, dp, dl, r, ev, eF, fa, ha, rn, ru, rp, rl, q, kk⟩ => ⟨t_chained K, PSs.nox (bk_chained T f cdv A outer s H E hr), ?_⟩
    subst ev
    unfold m_chained at q
    split at q
    · rename_i n ps
      cases rn
      cases rp with
      | @tup p xs _ hp rp =>
        refine ⟨_, rfl, p, xs, rfl, ex_t eF hp, fun p2 hp2 => ⟨p2, rfl, ⟨_, .inl (.inl upd_same)⟩, ?_⟩⟩
        have hap2 : a ≠ p2 := ne_of_none ha hp2
        refine for_tup (xs := xs.reverse) (fun i σ H' => ∃ F' Hb us' cs' vl' dl' z, i ≤ xs.reverse.length ∧ H' = upd Hb a (.lst us') ∧ Ext F H F' Hb ∧ F' a = none ∧ Hb p2 = some (.tup xs.reverse) ∧ Reps (WK K) F' us' cs' ∧ Rep (WK K) F' vl' dl' ∧ mCh n (ps.reverse.drop i) cs' dl' = some r ∧ σ = [some (.int n), some (.ref a), some (.ref p), some vl', z])
          ⟨F, upd H p2 (.tup xs.reverse), us, cs, vl, dl, none, Nat.zero_le _, ?_, Ext.own eF hp2, fa, upd_same, ru, rl, q, rfl⟩ (fun i σ H' _ h => ?_) (fun i v σ H' hv h => ?_) fun σ H' h => ?_
        · exact (upd_id (by rw [upd_ne hap2]; exact ha)).symm
        · obtain ⟨F', Hb, us', cs', vl', dl', z, _, rfl, _, _, h2, _⟩ := h
          exact .inl (.inl (by rw [upd_ne (Ne.symm hap2)]; exact h2))
        · obtain ⟨F', Hb, us', cs', vl', dl', z, hi, rfl, e1, f1, h2, ru', rl', q', rfl⟩ := h
          obtain ⟨d, hd, rd⟩ := (Reps.reverse (rp.mono e1.f)).get' hv
          rw [drop_some hd] at q'
          unfold mCh at q'
          split at q'
          · rename_i hc
            refine ⟨_, rfl, .inl ⟨rfl, us', .inl (.inl upd_same)⟩, ?_⟩
            refine ⟨_, rfl, _, rfl, by show (2 : Nat) ≤ sizeLine; decide, fun p3 hp3 => ?_⟩
            obtain ⟨hp3a, hp3b⟩ := upd_none hp3
            have hl : us'.length = cs'.length := ru'.length
            have hc' := Nat.le_of_ble_eq_true hc
            refine ⟨a, us', .ref p3, rfl, rfl, by rw [upd_ne (Ne.symm hp3a), upd_same], Nat.lt_of_lt_of_le (show us'.length < 100001 by omega) (by decide), ?_⟩
            have hz : upd (upd (upd Hb a (.lst us')) p3 (.tup [v, vl'])) a (.lst (us' ++ [.ref p3])) = upd (upd Hb p3 (.tup [v, vl'])) a (.lst (us' ++ [.ref p3])) := by
              rw [upd_swap (Ne.symm hp3a), upd_twice]
            rw [hz]
            have x := Ext.new (o := .tup [v, vl']) e1.s hp3b
            refine ⟨_, rfl, _, rfl, _, us'.length + 1, rfl, .inl ⟨_, .inl (.inl upd_same), by simp⟩, n, ((us'.length + 1 : Nat) : Int), rfl, rfl, ?_⟩
            refine ⟨_, upd Hb p3 (.tup [v, vl']), us' ++ [.ref p3], cs' ++ [.tup [d, dl']], _, _, some v, (List.getElem?_eq_some_iff.mp hv).1, rfl, e1.trans x, by rw [upd_ne (Ne.symm hp3a)]; exact f1, x.h _ _ h2, (ru'.mono x.f).append (.cons (.tup (.inl (.inl upd_same)) (.cons (rd.mono x.f) (.cons (rl'.mono x.f) .nil))) .nil), .int _, ?_, rfl⟩
            rw [hl]
            exact q'
          · cases q'
        · obtain ⟨F', Hb, us', cs', vl', dl', z, hi, rfl, e1, f1, h2, ru', rl', q', rfl⟩ := h
          have e0 : ps.reverse.drop xs.reverse.length = [] := by
            rw [List.length_reverse, rp.length, ← List.length_reverse, List.drop_length]
          rw [e0] at q'
          cases q'
          exact ⟨vl', rfl, kk vl' F' Hb us' e1 f1 ru' rl'⟩
    · cases q
  refine ⟨f, hm, F.kp, fun A outer s H us ws vs zs Q hr e0 r rz hl h => ?_⟩
  cases ws with
  | cons _ _ => cases hl
  | nil =>
    cases rz
    exact fr_of_ok ok (F.bindsN fun _ _ _ _ _ _ us hl => match us, hl with | [_, _, _, _], _ => rfl) A outer s H us vs Q _ hr e0 r h
end
end CP
/-! part CpAB -/
set_option Elab.async false
set_option linter.all false
set_option maxRecDepth 100000
set_option maxHeartbeats 4000000
namespace CP
open PySem PySem.Spec PyProof.Rows L2 CPH
section
variable {P : Program} {w : World} {K : PySem.W.Frag} {mg : Str → Option Value} {base : Heap}
theorem sc_serial_wiring : FnScope ["n", "ends", "cells", "position"] ["n"] (defScope s_serial_wiring) := ⟨rfl, rfl, rfl, by decide +kernel, rfl, by decide +kernel, by decide +kernel⟩
def t_serial_wiring (K : PySem.W.Frag) : TS := (tSeq (tAsg (tLst (tCons (tC (.int 0)) tNil)) (gName 1)) (tSeq (tAsg (tLst tNil) (gName 2)) (tSeq (tFor (iRng2 (tCons (tC (.int 1)) (tCons (tOp (rI0 fun i j => .int (i + j)) (tVar 0) (tC (.int 1))) tNil))) (gName 3) (tSeq (tDrop (tBM K "list" rAppend (tVar 2) (tCons (tTup (tCons (tVar 3) (tCons (tOp (rIx K) (tVar 1) (tUn (rU fun i => .int (-i)) (tC (.int 1)))) tNil))) tNil))) (tDrop (tBM K "list" rAppend (tVar 1) (tCons (tOp (rI0 fun i j => .int (i + j)) (tVar 0) (tCB (fun xs H Q => ∃ x n, xs = [x] ∧ LenV K x H n ∧ Q (.int n) H) (tCons (tVar 2) tNil))) tNil))))) (tRet (tTup (tCons (tVar 2) (tCons (tVar 1) tNil)))))))
def tp_serial_wiring (K : PySem.W.Frag) : TS := (tSeq (tAsg (tLst (tCons (tC (.int 0)) tNil)) (gName 1)) (tSeq (tAsg (tLst tNil) (gName 2)) (tFor (iRng2 (tCons (tC (.int 1)) (tCons (tOp (rI0 fun i j => .int (i + j)) (tVar 0) (tC (.int 1))) tNil))) (gName 3) (tSeq (tDrop (tBM K "list" rAppend (tVar 2) (tCons (tTup (tCons (tVar 3) (tCons (tOp (rIx K) (tVar 1) (tUn (rU fun i => .int (-i)) (tC (.int 1)))) tNil))) tNil))) (tDrop (tBM K "list" rAppend (tVar 1) (tCons (tOp (rI0 fun i j => .int (i + j)) (tVar 0) (tCB (fun xs H Q => ∃ x n, xs = [x] ∧ LenV K x H n ∧ Q (.int n) H) (tCons (tVar 2) tNil))) tNil)))))))
def bp_serial_wiring : MS := (sSeq (sAsgO 1 (aCap (aCons (eC (.int 0)) aNil))) (sSeq (sAsgO 2 (aCap aNil)) (sFor (iR2 (aCons (eC (.int 1)) (aCons (eBin gAdd (eVar 0) (eC (.int 1))) aNil))) (gN 3) (sSeq (sApp 2 (eTup (aCons (eVar 3) (aCons (eBin gIx (eOwn 1) (eNeg (eC (.int 1)))) aNil)))) (sApp 1 (eBin gAdd (eVar 0) (eCall cLen (aCons (eOwn 2) aNil))))))))
theorem bk_serial_wiring (T : Txt K mg) : BodyOk P w K mg base ["n", "ends", "cells", "position"] "serial_wiring" (defScope s_serial_wiring) (defBody s_serial_wiring) 0 (t_serial_wiring K) := fun f cdv A outer s H E hr =>
  (pss_cons (ps_set (i := 1) sc_serial_wiring.nd rfl (by first | exact Or.inl rfl | exact Or.inr rfl) (pe_lst (pa_cons pe_int pa_nil))) (pss_cons (ps_set (i := 2) sc_serial_wiring.nd rfl (by first | exact Or.inl rfl | exact Or.inr rfl) (pe_lst pa_nil)) (pss_cons (ps_for PassesOwn.never rfl (pi_range2 (by rfl) T.b_range (pa_cons pe_int (pa_cons (pe_op op_add (pv 0) pe_int) pa_nil))) (pg_name (i := 3) sc_serial_wiring.nd rfl (by first | exact Or.inl rfl | exact Or.inr rfl)) (pss_cons (ps_expr (pe_bm PySem.F.plainAttrs_list PySem.F.slot_list_append PySem.F.type_list_append mt_append (pv 2) (pa_cons (pe_tup (pa_cons (pv 3) (pa_cons (pe_ix ix_seq (pv 1) (pe_un un_neg pe_int) (fun _ _ => rfl)) pa_nil))) pa_nil))) (pss_one (ps_expr (pe_bm PySem.F.plainAttrs_list PySem.F.slot_list_append PySem.F.type_list_append mt_append (pv 1) (pa_cons (pe_op op_add (pv 0) (pe_callB call_len (by rfl) T.b_len (by decide +kernel) (pa_cons (pv 2) pa_nil))) pa_nil)))))) (pss_one (ps_ret (pe_tup (pa_cons (pv 2) (pa_cons (pv 1) pa_nil))))))))
theorem smp_serial_wiring (T : Txt K mg) : SmS (WK K) (tp_serial_wiring K) bp_serial_wiring :=
  (sms_seq (sms_asgO (sml_lst (sma_cons sm_int sma_nil))) (sms_seq (sms_asgO (sml_lst sma_nil)) (sms_for (smi_r2 (sma_cons sm_int (sma_cons (sm_op s_add (Sm.b sm_var) (Sm.b sm_int)) sma_nil))) tgs_name (sms_seq (sms_app (sm_tup (sma_cons sm_var (sma_cons (sm_op s_ix smb_own (Sm.b (sm_neg sm_int))) sma_nil)))) (sms_app (sm_op s_add (Sm.b sm_var) (Sm.b (sm_cb cs_len (smab_cons smb_own (SmA.b sma_nil))))))))))
def mw_serial_wiring : List D → Option (List D × List D) := fun ds => match ds with
  | [n] => (bp_serial_wiring (startE 4 [n])).bind fun r => (match r with
    | Res.nx ρ => (match ρ[2]?, ρ[1]? with
      | some (some (EV.ow cs)), some (some (EV.ow es)) => some (cs, es)
      | _, _ => none)
    | _ => none)
  | _ => none
theorem g_serial_wiring (T : Txt K mg) : Good P w K mg base 1 "serial_wiring" [] (spW (WK K) mw_serial_wiring) := by
  obtain ⟨f, fd, hm, F⟩ := T.f_serial_wiring
  have ok : FnOk P w K mg base CX0 1 f fd ["n"] (fun vs H Q _ => spW (WK K) mw_serial_wiring vs [] H Q) := by
    refine F.ok sc_serial_wiring (fun vs H Q E ⟨F, ds, r, e1, e2, e3, _⟩ => ?_) fun cdv A outer s H vs Q E hr ⟨F, ds, r, eF, rd, q, kk⟩ => ⟨t_serial_wiring K, PSs.nox (bk_serial_wiring T f cdv A outer s H E hr), ?_⟩
    · unfold mw_serial_wiring at e3
      split at e3
      · rw [e2.length]
        rfl
      · cases e3
    · unfold mw_serial_wiring at q
      split at q
      · obtain ⟨c, h1, h2⟩ := Option.bind_eq_some_iff.mp q
        split at h2
        · rename_i n0 ρ
          split at h2
          · rename_i cs es q1 q2
            cases h2
            

            show tSeq (tp_serial_wiring K) (tRet (tTup (tCons (tVar 2) (tCons (tVar 1) tNil)))) { nx := fun _ H' => Q .non H', rt := Q } (L2.start ["n", "ends", "cells", "position"] vs) H
            refine smp_serial_wiring T F H F H _ _ _ (.refl eF) (envR_start (N := ["n", "ends", "cells", "position"]) rd) h1 _ ?_
            intro σ F1 H1 e1 g1
            obtain ⟨a, us, a1, a2, a3, a0, a4⟩ := g1.ow 2 cs q1
            obtain ⟨b, ws, b1, b2, b3, b0, b4⟩ := g1.ow 1 es q2
            refine ⟨_, a1, _, b1, by show (2 : Nat) ≤ sizeLine; decide, fun p hp => ?_⟩
            have x3 := Ext.own (o := .tup [.ref a, .ref b]) e1.s hp
            have hab : a ≠ b := fun e => by
              subst e
              have := g1.ne 2 1 cs es a q1 q2 a1 b1
              omega
            exact kk p a b us ws F1 _ (e1.trans x3) a0 b0 a3 b3 hab upd_same (x3.h _ _ a2) (x3.h _ _ b2) a4 b4
          · cases h2
        · cases h2
      · cases q
  refine ⟨f, hm, F.kp, fun A outer s H us ws vs zs Q hr e0 r rz hl h => ?_⟩
  cases ws with
  | cons _ _ => cases hl
  | nil =>
    cases rz
    exact fr_of_ok ok (F.bindsN fun _ _ _ _ _ _ us hl => match us, hl with | [_], _ => rfl) A outer s H us vs Q _ hr e0 r h

theorem sc_ring_serial_wiring : FnScope ["n", "cells", "whole", "position", "ends", "last"] ["n"] (defScope s_ring_serial_wiring) := ⟨rfl, rfl, rfl, by decide +kernel, rfl, by decide +kernel, by decide +kernel⟩
def t_ring_serial_wiring (K : PySem.W.Frag) : TS := (tSeq (tAsg (tLst tNil) (gName 1)) (tSeq (tAsg (tC (.int 1)) (gName 2)) (tSeq (tFor (iRng2 (tCons (tC (.int 2)) (tCons (tOp (rI0 fun i j => .int (i + j)) (tVar 0) (tC (.int 1))) tNil))) (gName 3) (tSeq (tDrop (tBM K "list" rAppend (tVar 1) (tCons (tTup (tCons (tVar 3) (tCons (tVar 2) tNil))) tNil))) (tAsg (tOp (rI0 fun i j => .int (i + j)) (tVar 0) (tCB (fun xs H Q => ∃ x n, xs = [x] ∧ LenV K x H n ∧ Q (.int n) H) (tCons (tVar 1) tNil))) (gName 2)))) (tSeq (tAsg (tLst tNil) (gName 4)) (tSeq (tAsg (tVar 2) (gName 5)) (tSeq (tFor (iRng2 (tCons (tC (.int 1)) (tCons (tVar 0) tNil))) (gName 3) (tSeq (tDrop (tBM K "list" rAppend (tVar 1) (tCons (tTup (tCons (tVar 3) (tCons (tVar 5) tNil))) tNil))) (tSeq (tAsg (tOp (rI0 fun i j => .int (i + j)) (tVar 0) (tCB (fun xs H Q => ∃ x n, xs = [x] ∧ LenV K x H n ∧ Q (.int n) H) (tCons (tVar 1) tNil))) (gName 5)) (tDrop (tBM K "list" rAppend (tVar 4) (tCons (tVar 5) tNil)))))) (tRet (tTup (tCons (tVar 1) (tCons (tOp rCat (tVar 4) (tLst (tCons (tVar 2) tNil))) tNil))))))))))
def tp_ring_serial_wiring (K : PySem.W.Frag) : TS := (tSeq (tAsg (tLst tNil) (gName 1)) (tSeq (tAsg (tC (.int 1)) (gName 2)) (tSeq (tFor (iRng2 (tCons (tC (.int 2)) (tCons (tOp (rI0 fun i j => .int (i + j)) (tVar 0) (tC (.int 1))) tNil))) (gName 3) (tSeq (tDrop (tBM K "list" rAppend (tVar 1) (tCons (tTup (tCons (tVar 3) (tCons (tVar 2) tNil))) tNil))) (tAsg (tOp (rI0 fun i j => .int (i + j)) (tVar 0) (tCB (fun xs H Q => ∃ x n, xs = [x] ∧ LenV K x H n ∧ Q (.int n) H) (tCons (tVar 1) tNil))) (gName 2)))) (tSeq (tAsg (tLst tNil) (gName 4)) (tSeq (tAsg (tVar 2) (gName 5)) (tFor (iRng2 (tCons (tC (.int 1)) (tCons (tVar 0) tNil))) (gName 3) (tSeq (tDrop (tBM K "list" rAppend (tVar 1) (tCons (tTup (tCons (tVar 3) (tCons (tVar 5) tNil))) tNil))) (tSeq (tAsg (tOp (rI0 fun i j => .int (i + j)) (tVar 0) (tCB (fun xs H Q => ∃ x n, xs = [x] ∧ LenV K x H n ∧ Q (.int n) H) (tCons (tVar 1) tNil))) (gName 5)) (tDrop (tBM K "list" rAppend (tVar 4) (tCons (tVar 5) tNil)))))))))))
def bp_ring_serial_wiring : MS := (sSeq (sAsgO 1 (aCap aNil)) (sSeq (sAsg (eC (.int 1)) (gN 2)) (sSeq (sFor (iR2 (aCons (eC (.int 2)) (aCons (eBin gAdd (eVar 0) (eC (.int 1))) aNil))) (gN 3) (sSeq (sApp 1 (eTup (aCons (eVar 3) (aCons (eVar 2) aNil)))) (sAsg (eBin gAdd (eVar 0) (eCall cLen (aCons (eOwn 1) aNil))) (gN 2)))) (sSeq (sAsgO 4 (aCap aNil)) (sSeq (sAsg (eVar 2) (gN 5)) (sFor (iR2 (aCons (eC (.int 1)) (aCons (eVar 0) aNil))) (gN 3) (sSeq (sApp 1 (eTup (aCons (eVar 3) (aCons (eVar 5) aNil)))) (sSeq (sAsg (eBin gAdd (eVar 0) (eCall cLen (aCons (eOwn 1) aNil))) (gN 5)) (sApp 4 (eVar 5))))))))))
theorem bk_ring_serial_wiring (T : Txt K mg) : BodyOk P w K mg base ["n", "cells", "whole", "position", "ends", "last"] "ring_serial_wiring" (defScope s_ring_serial_wiring) (defBody s_ring_serial_wiring) 0 (t_ring_serial_wiring K) := fun f cdv A outer s H E hr =>
  (pss_cons (ps_set (i := 1) sc_ring_serial_wiring.nd rfl (by first | exact Or.inl rfl | exact Or.inr rfl) (pe_lst pa_nil)) (pss_cons (ps_set (i := 2) sc_ring_serial_wiring.nd rfl (by first | exact Or.inl rfl | exact Or.inr rfl) pe_int) (pss_cons (ps_for PassesOwn.never rfl (pi_range2 (by rfl) T.b_range (pa_cons pe_int (pa_cons (pe_op op_add (pv 0) pe_int) pa_nil))) (pg_name (i := 3) sc_ring_serial_wiring.nd rfl (by first | exact Or.inl rfl | exact Or.inr rfl)) (pss_cons (ps_expr (pe_bm PySem.F.plainAttrs_list PySem.F.slot_list_append PySem.F.type_list_append mt_append (pv 1) (pa_cons (pe_tup (pa_cons (pv 3) (pa_cons (pv 2) pa_nil))) pa_nil))) (pss_one (ps_set (i := 2) sc_ring_serial_wiring.nd rfl (by first | exact Or.inl rfl | exact Or.inr rfl) (pe_op op_add (pv 0) (pe_callB call_len (by rfl) T.b_len (by decide +kernel) (pa_cons (pv 1) pa_nil))))))) (pss_cons (ps_set (i := 4) sc_ring_serial_wiring.nd rfl (by first | exact Or.inl rfl | exact Or.inr rfl) (pe_lst pa_nil)) (pss_cons (ps_set (i := 5) sc_ring_serial_wiring.nd rfl (by first | exact Or.inl rfl | exact Or.inr rfl) (pv 2)) (pss_cons (ps_for PassesOwn.never rfl (pi_range2 (by rfl) T.b_range (pa_cons pe_int (pa_cons (pv 0) pa_nil))) (pg_name (i := 3) sc_ring_serial_wiring.nd rfl (by first | exact Or.inl rfl | exact Or.inr rfl)) (pss_cons (ps_expr (pe_bm PySem.F.plainAttrs_list PySem.F.slot_list_append PySem.F.type_list_append mt_append (pv 1) (pa_cons (pe_tup (pa_cons (pv 3) (pa_cons (pv 5) pa_nil))) pa_nil))) (pss_cons (ps_set (i := 5) sc_ring_serial_wiring.nd rfl (by first | exact Or.inl rfl | exact Or.inr rfl) (pe_op op_add (pv 0) (pe_callB call_len (by rfl) T.b_len (by decide +kernel) (pa_cons (pv 1) pa_nil)))) (pss_one (ps_expr (pe_bm PySem.F.plainAttrs_list PySem.F.slot_list_append PySem.F.type_list_append mt_append (pv 4) (pa_cons (pv 5) pa_nil))))))) (pss_one (ps_ret (pe_tup (pa_cons (pv 1) (pa_cons (pe_op op_cat (pv 4) (pe_lst (pa_cons (pv 2) pa_nil))) pa_nil)))))))))))
theorem smp_ring_serial_wiring (T : Txt K mg) : SmS (WK K) (tp_ring_serial_wiring K) bp_ring_serial_wiring :=
  (sms_seq (sms_asgO (sml_lst sma_nil)) (sms_seq (sms_asg sm_int tgs_name) (sms_seq (sms_for (smi_r2 (sma_cons sm_int (sma_cons (sm_op s_add (Sm.b sm_var) (Sm.b sm_int)) sma_nil))) tgs_name (sms_seq (sms_app (sm_tup (sma_cons sm_var (sma_cons sm_var sma_nil)))) (sms_asg (sm_op s_add (Sm.b sm_var) (Sm.b (sm_cb cs_len (smab_cons smb_own (SmA.b sma_nil))))) tgs_name))) (sms_seq (sms_asgO (sml_lst sma_nil)) (sms_seq (sms_asg sm_var tgs_name) (sms_for (smi_r2 (sma_cons sm_int (sma_cons sm_var sma_nil))) tgs_name (sms_seq (sms_app (sm_tup (sma_cons sm_var (sma_cons sm_var sma_nil)))) (sms_seq (sms_asg (sm_op s_add (Sm.b sm_var) (Sm.b (sm_cb cs_len (smab_cons smb_own (SmA.b sma_nil))))) tgs_name) (sms_app sm_var)))))))))
def mw_ring_serial_wiring : List D → Option (List D × List D) := fun ds => match ds with
  | [n] => (bp_ring_serial_wiring (startE 6 [n])).bind fun r => (match r with
    | Res.nx ρ => (match ρ[1]?, ρ[4]?, ρ[2]? with
      | some (some (EV.ow cs)), some (some (EV.ow es)), some (some (EV.fr w)) => if cap (es.length + 1) = true then some (cs, es ++ [w]) else none
      | _, _, _ => none)
    | _ => none)
  | _ => none
theorem g_ring_serial_wiring (T : Txt K mg) : Good P w K mg base 1 "ring_serial_wiring" [] (spW (WK K) mw_ring_serial_wiring) := by
  obtain ⟨f, fd, hm, F⟩ := T.f_ring_serial_wiring
  have ok : FnOk P w K mg base CX0 1 f fd ["n"] (fun vs H Q _ => spW (WK K) mw_ring_serial_wiring vs [] H Q) := by
    refine F.ok sc_ring_serial_wiring (fun vs H Q E ⟨F, ds, r, e1, e2, e3, _⟩ => ?_) fun cdv A outer s H vs Q E hr ⟨F, ds, r, eF, rd, q, kk⟩ => ⟨t_ring_serial_wiring K, PSs.nox (bk_ring_serial_wiring T f cdv A outer s H E hr), ?_⟩
    · unfold mw_ring_serial_wiring at e3
      split at e3
      · rw [e2.length]
        rfl
      · cases e3
    · unfold mw_ring_serial_wiring at q
      split at q
      · obtain ⟨c, h1, h2⟩ := Option.bind_eq_some_iff.mp q
        split at h2
        · rename_i n0 ρ
          split at h2
          · rename_i cs es w0 q1 q2 q3
            split at h2
            · rename_i hcap
              cases h2
              show tSeq (tp_ring_serial_wiring K) (tRet (tTup (tCons (tVar 1) (tCons (tOp rCat (tVar 4) (tLst (tCons (tVar 2) tNil))) tNil)))) { nx := fun _ H' => Q .non H', rt := Q } (L2.start ["n", "cells", "whole", "position", "ends", "last"] vs) H
              refine smp_ring_serial_wiring T F H F H _ _ _ (.refl eF) (envR_start (N := ["n", "cells", "whole", "position", "ends", "last"]) rd) h1 _ ?_
              intro σ F1 H1 e1 g1
              obtain ⟨a, us, a1, a2, a3, a0, a4⟩ := g1.ow 1 cs q1
              obtain ⟨b, ws, b1, b2, b3, b0, b4⟩ := g1.ow 4 es q2
              obtain ⟨v, c1, c2⟩ := g1.fr 2 w0 q3
              refine ⟨_, a1, _, b1, v, c1, by show (1 : Nat) ≤ sizeLine; decide, fun l hl => ?_⟩
              have x1 := Ext.own (o := .lst [v]) e1.s hl
              have hbl : b ≠ l := ne_of_none b2 hl
              refine ⟨b, l, ws, [v], rfl, rfl, x1.h _ _ b2, upd_same, by rw [b4.length]; exact cap_le hcap, fun z hz => ?_⟩
              have x2 := Ext.own (o := .lst (ws ++ [v])) x1.s hz
              refine ⟨by show (2 : Nat) ≤ sizeLine; decide, fun p hp => ?_⟩
              have x3 := Ext.own (o := .tup [.ref a, .ref z]) x2.s hp
              have x13 := (x1.trans x2).trans x3
              have hz1 : H1 z = none := x1.h.back hz
              exact kk p a z us (ws ++ [v]) F1 _ (e1.trans x13) a0 (e1.h.back hz1) a3 (e1.s.back hz1) (ne_of_none a2 hz1) upd_same (x13.h _ _ a2) (x3.h _ _ upd_same) a4 (b4.append (.cons c2 .nil))
            · cases h2
          · cases h2
        · cases h2
      · cases q
  refine ⟨f, hm, F.kp, fun A outer s H us ws vs zs Q hr e0 r rz hl h => ?_⟩
  cases ws with
  | cons _ _ => cases hl
  | nil =>
    cases rz
    exact fr_of_ok ok (F.bindsN fun _ _ _ _ _ _ us hl => match us, hl with | [_], _ => rfl) A outer s H us vs Q _ hr e0 r h

end
end CP
/-! part CpAC0 -/
set_option Elab.async false
set_option linter.all false
set_option maxRecDepth 100000
set_option maxHeartbeats 4000000
namespace CP
open PySem PySem.Spec PyProof.Rows L2 CPH
def eW (m : List D → Option (List D × List D)) (a : MA) : Env → Option (List D × List D) := fun ρ => (a ρ).bind m
def eWIf (c : MT) (m1 m2 : Env → Option (List D × List D)) : Env → Option (List D × List D) := fun ρ => (c ρ).bind fun x => if x = true then m1 ρ else m2 ρ
theorem smw_u' {W : Wd} {m : List D → Option (List D × List D)} {t : TA} {a : MA} (ha : SmA W t a) : SmW W (tU (spW W m) t tNil) (eW m a) := smw_u ha
theorem smw_if' {W : Wd} {c : TT} {t u : TE} {mc : MT} {m1 m2 : Env → Option (List D × List D)} (hc : SmT W c mc) (h1 : SmW W t m1) (h2 : SmW W u m2) : SmW W (tIf c t u) (eWIf mc m1 m2) := smw_if hc h1 h2
section
variable {P : Program} {w : World} {K : PySem.W.Frag} {mg : Str → Option Value} {base : Heap}
theorem netOk1 (T : Txt K mg) : NetOk K 1 1 0 := ⟨net1 T, rfl⟩
theorem netOk2 (T : Txt K mg) : NetOk K 2 2 1 := ⟨net2 T, rfl⟩
theorem netOk3 (T : Txt K mg) : NetOk K 3 1 0 := ⟨net3 T, rfl⟩
def m_Faulty_init : List D → Option (List D) := fun ds => match ds with
  | [n, cells, outs, st] => (m_Net_init 1 0 [n, cells, outs]).bind fun es => (match es with
    | [n', .tup js, e, _] => (m_checked_stuck [st, .int js.length]).map fun h => [n', .tup js, e, h]
    | _ => none)
  | _ => none
/-- Faulty.__init__ keeps its promise -/
def HFau (P : Program) (w : World) (K : PySem.W.Frag) (mg : Str → Option Value) (base : Heap) : Prop := FnR P w K mg base CX0 7 989 (spInit (WK K) 3 m_Faulty_init)
end
end CP
/-! part CpAC -/
set_option Elab.async false
set_option linter.all false
set_option maxRecDepth 100000
set_option maxHeartbeats 4000000
namespace CP
open PySem PySem.Spec PyProof.Rows L2 CPH
section
variable {P : Program} {w : World} {K : PySem.W.Frag} {mg : Str → Option Value} {base : Heap}
theorem sc_network_with : FnScope ["n", "output", "row", "ring", "stuck", "cells", "ends"] ["n", "output", "row", "ring"] (defScope s_network_with) := ⟨rfl, rfl, rfl, by decide +kernel, rfl, by decide +kernel, by decide +kernel⟩
def t_network_with (K : PySem.W.Frag) : TS := (tSeq (tIfS (tNot (tB (tU (spD (WK K) 0 (mP 3 m_is_between)) (tCons (tVar 1) (tCons (tCB (fun xs H Q => (∃ i, xs = [.int i] ∧ Q (.int i) H) ∨ ∃ k, xs = [.bl k] ∧ Q (.int (if k then 1 else 0)) H) (tCons (tVar 3) tNil)) (tCons (tVar 0) tNil))) tNil))) tNever tNext) (tSeq (tDrop (tU (spD (WK K) 0 (mP 3 m_need_row)) (tCons (tVar 0) (tCons (tVar 2) (tCons (tVar 3) tNil))) tNil)) (tSeq (tAsg (tIf (tB (tVar 3)) (tU (spW (WK K) mw_ring_serial_wiring) (tCons (tVar 0) tNil) tNil) (tU (spW (WK K) mw_serial_wiring) (tCons (tVar 0) tNil) tNil)) (gTup K 2 (gCons (gName 5) (gCons (gName 6) gNil)))) (tSeq (tIfS (tNot (tB (tU (spD (WK K) 0 (mP 1 m_ends_with_letter)) (tCons (tVar 2) tNil) tNil))) (tSeq (tAsg (tU (spCh (WK K)) (tCons (tVar 0) (tCons (tVar 5) (tCons (tSl (rSlA K) (tVar 2) tNoPart (tPart (tUn (rU fun i => .int (-i)) (tC (.int 1))))) (tCons (tOp (rIx K) (tVar 2) (tUn (rU fun i => .int (-i)) (tC (.int 1)))) tNil)))) tNil) (gSub (tVar 6) (tOp (rI0 fun i j => .int (i - j)) (tVar 1) (tCB (fun xs H Q => (∃ i, xs = [.int i] ∧ Q (.int i) H) ∨ ∃ k, xs = [.bl k] ∧ Q (.int (if k then 1 else 0)) H) (tCons (tVar 3) tNil))) rSetL)) (tRet (tIf (tB (tVar 3)) (StX.tMakeR 1171 (spInit (WK K) 2 (m_Net_init 2 1)) (fun _ _ _ => False) (tCons (tVar 0) (tCons (tVar 5) (tCons (tVar 6) tNil)))) (StX.tMakeR 948 (spInit (WK K) 1 (m_Net_init 1 0)) (fun _ _ _ => False) (tCons (tVar 0) (tCons (tVar 5) (tCons (tVar 6) tNil))))))) tNext) (tSeq (tAsg (tLst (tCons (tTup (tCons (tCB (fun xs H Q => ∃ x n, xs = [x] ∧ LenV K x H n ∧ Q (.int n) H) (tCons (tVar 5) tNil)) (tCons (tOp (rIx K) (tVar 2) (tUn (rU fun i => .int (-i)) (tC (.int 1)))) tNil))) tNil)) (gName 4)) (tSeq (tDrop (tBM K "list" rAppend (tVar 5) (tCons (tTup (tCons (tC (.int 0)) (tCons (tC (.int 0)) tNil))) tNil))) (tSeq (tAsg (tU (spCh (WK K)) (tCons (tVar 0) (tCons (tVar 5) (tCons (tSl (rSlA K) (tVar 2) tNoPart (tPart (tUn (rU fun i => .int (-i)) (tC (.int 1))))) (tCons (tOp (rI0 fun i j => .int (i + j)) (tVar 0) (tCB (fun xs H Q => ∃ x n, xs = [x] ∧ LenV K x H n ∧ Q (.int n) H) (tCons (tVar 5) tNil))) tNil)))) tNil) (gSub (tVar 6) (tVar 1) rSetL)) (tRet (StX.tMakeR 1083 (spInit (WK K) 3 m_Faulty_init) (fun _ _ _ => False) (tCons (tVar 0) (tCons (tVar 5) (tCons (tVar 6) (tCons (tVar 4) tNil)))))))))))))
def b_network_with : MS := (sSeq (sIf (mNot (tOf (eU (mP 3 m_is_between) (aCons (eVar 1) (aCons (eCall cInt (aCons (eVar 3) aNil)) (aCons (eVar 0) aNil))) aNil))) sNever sNext) (sSeq (sDrop (eU (mP 3 m_need_row) (aCons (eVar 0) (aCons (eVar 2) (aCons (eVar 3) aNil))) aNil)) (sSeq (sOwn2 5 6 (eWIf (tOf (eVar 3)) (eW mw_ring_serial_wiring (aCons (eVar 0) aNil)) (eW mw_serial_wiring (aCons (eVar 0) aNil)))) (sSeq (sIf (mNot (tOf (eU (mP 1 m_ends_with_letter) (aCons (eVar 2) aNil) aNil))) (sSeq (sChain 6 5 (eVar 0) (eSlT (eVar 2) oNone (oSome (eNeg (eC (.int 1))))) (eBin gIx (eVar 2) (eNeg (eC (.int 1)))) (eBin gSubI (eVar 1) (eCall cInt (aCons (eVar 3) aNil)))) (fun ρ => (fun ρ => (sRet (eIf (tOf (eVar 3)) (eMake 2 (m_Net_init 2 1) (aCons (eVar 0) (aCons (eVar 5) (aCons (eVar 6) aNil)))) (eMake 1 (m_Net_init 1 0) (aCons (eVar 0) (aCons (eVar 5) (aCons (eVar 6) aNil)))))) (freeze 5 ρ)) (freeze 6 ρ))) sNext) (sSeq (sAsg (eLst (aCons (eTup (aCons (eCall cLen (aCons (eOwn 5) aNil)) (aCons (eBin gIx (eVar 2) (eNeg (eC (.int 1)))) aNil))) aNil)) (gN 4)) (sSeq (sApp 5 (eTup (aCons (eC (.int 0)) (aCons (eC (.int 0)) aNil)))) (sSeq (sChain 6 5 (eVar 0) (eSlT (eVar 2) oNone (oSome (eNeg (eC (.int 1))))) (eBin gAdd (eVar 0) (eCall cLen (aCons (eOwn 5) aNil))) (eVar 1)) (fun ρ => (fun ρ => (sRet (eMake 3 m_Faulty_init (aCons (eVar 0) (aCons (eVar 5) (aCons (eVar 6) (aCons (eVar 4) aNil)))))) (freeze 5 ρ)) (freeze 6 ρ)))))))))
def m_network_with : List D → Option D := runB 7 b_network_with
theorem bk_network_with (T : Txt K mg) (HF : HFau P w K mg base) : BodyOk P w K mg base ["n", "output", "row", "ring", "stuck", "cells", "ends"] "network_with" (defScope s_network_with) (defBody s_network_with) 8 (t_network_with K) := fun f cdv A outer s H E hr =>
  (pss_cons (ps_if (pt_not (pt_val (pe_u (g_is_between T) (hr.mono (by decide)) (by rfl) (pa_cons (pv 1) (pa_cons (pe_callTy call_int1 (by rfl) T.b_int (by decide +kernel) (pa_cons (pv 3) pa_nil)) (pa_cons (pv 0) pa_nil)))))) (pss_one (ps_never)) pss_nil) (pss_cons (ps_expr (pe_u (g_need_row T) (hr.mono (by decide)) (by rfl) (pa_cons (pv 0) (pa_cons (pv 2) (pa_cons (pv 3) pa_nil))))) (pss_cons (ps_asg (pe_ifExp (pt_val (pv 3)) (pe_u (g_ring_serial_wiring T) (hr.mono (by decide)) (by rfl) (pa_cons (pv 0) pa_nil)) (pe_u (g_serial_wiring T) (hr.mono (by decide)) (by rfl) (pa_cons (pv 0) pa_nil))) (pg_tup rfl (pgs_cons (pg_name (i := 5) sc_network_with.nd rfl (by first | exact Or.inl rfl | exact Or.inr rfl)) (pgs_cons (pg_name (i := 6) sc_network_with.nd rfl (by first | exact Or.inl rfl | exact Or.inr rfl)) pgs_nil)))) (pss_cons (ps_if (pt_not (pt_val (pe_u (g_ends_with_letter T) (hr.mono (by decide)) (by rfl) (pa_cons (pv 2) pa_nil)))) (pss_cons (ps_asg (pe_u (g_chained T) (hr.mono (by decide)) (by rfl) (pa_cons (pv 0) (pa_cons (pv 5) (pa_cons (pe_slice sl_tupA (pv 2) po_none (po_some (pe_un un_neg pe_int))) (pa_cons (pe_ix ix_seq (pv 2) (pe_un un_neg pe_int) (fun _ _ => rfl)) pa_nil))))) (pg_sub (pv 6) (pe_op op_sub (pv 1) (pe_callTy call_int1 (by rfl) T.b_int (by decide +kernel) (pa_cons (pv 3) pa_nil))) set_list)) (pss_one (ps_ret (pe_ifExp (pt_val (pv 3)) (StX.pe_makeR T.m_Ring (fr_Network_init T (netOk2 T)) (hr.mono (by decide)) (by rfl) T.g_Ring passE (pa_cons (pv 0) (pa_cons (pv 5) (pa_cons (pv 6) pa_nil)))) (StX.pe_makeR T.m_Network (fr_Network_init T (netOk1 T)) (hr.mono (by decide)) (by rfl) T.g_Network passE (pa_cons (pv 0) (pa_cons (pv 5) (pa_cons (pv 6) pa_nil)))))))) pss_nil) (pss_cons (ps_set (i := 4) sc_network_with.nd rfl (by first | exact Or.inl rfl | exact Or.inr rfl) (pe_lst (pa_cons (pe_tup (pa_cons (pe_callB call_len (by rfl) T.b_len (by decide +kernel) (pa_cons (pv 5) pa_nil)) (pa_cons (pe_ix ix_seq (pv 2) (pe_un un_neg pe_int) (fun _ _ => rfl)) pa_nil))) pa_nil))) (pss_cons (ps_expr (pe_bm PySem.F.plainAttrs_list PySem.F.slot_list_append PySem.F.type_list_append mt_append (pv 5) (pa_cons (pe_tup (pa_cons pe_int (pa_cons pe_int pa_nil))) pa_nil))) (pss_cons (ps_asg (pe_u (g_chained T) (hr.mono (by decide)) (by rfl) (pa_cons (pv 0) (pa_cons (pv 5) (pa_cons (pe_slice sl_tupA (pv 2) po_none (po_some (pe_un un_neg pe_int))) (pa_cons (pe_op op_add (pv 0) (pe_callB call_len (by rfl) T.b_len (by decide +kernel) (pa_cons (pv 5) pa_nil))) pa_nil))))) (pg_sub (pv 6) (pv 1) set_list)) (pss_one (ps_ret (StX.pe_makeR T.m_Faulty HF (hr.mono (by decide)) (by rfl) T.g_Faulty passE (pa_cons (pv 0) (pa_cons (pv 5) (pa_cons (pv 6) (pa_cons (pv 4) pa_nil))))))))))))))
theorem sm_network_with (T : Txt K mg) : SmS (WK K) (t_network_with K) b_network_with :=
  (sms_seq (sms_if (smt_not (smt_B (sm_u (sma_cons sm_var (sma_cons (sm_cb cs_int (smab_cons (Sm.b sm_var) (SmA.b sma_nil))) (sma_cons sm_var sma_nil))) sma_nil))) sms_never sms_next) (sms_seq (sms_drop (sm_u (sma_cons sm_var (sma_cons sm_var (sma_cons sm_var sma_nil))) sma_nil)) (sms_seq (sms_own2 (by decide) (smw_if' (smt_B sm_var) (smw_u' (sma_cons sm_var sma_nil)) (smw_u' (sma_cons sm_var sma_nil)))) (sms_seq (sms_if (smt_not (smt_B (sm_u (sma_cons sm_var sma_nil) sma_nil))) (sms_seq (sms_chain sm_var (sm_slT sm_var smo_none (smo_some (sm_neg sm_int))) (sm_op s_ix (Sm.b sm_var) (Sm.b (sm_neg sm_int))) (sm_op s_sub (Sm.b sm_var) (Sm.b (sm_cb cs_int (smab_cons (Sm.b sm_var) (SmA.b sma_nil)))))) (sms_freeze 6 (sms_freeze 5 (sms_ret (sm_if (smt_B sm_var) (sm_make (c := 2) (sma_cons sm_var (sma_cons sm_var (sma_cons sm_var sma_nil)))) (sm_make (c := 1) (sma_cons sm_var (sma_cons sm_var (sma_cons sm_var sma_nil))))))))) sms_next) (sms_seq (sms_asg (sm_lst (sma_cons (sm_tup (sma_cons (sm_cb cs_len (smab_cons smb_own (SmA.b sma_nil))) (sma_cons (sm_op s_ix (Sm.b sm_var) (Sm.b (sm_neg sm_int))) sma_nil))) sma_nil)) tgs_name) (sms_seq (sms_app (sm_tup (sma_cons sm_int (sma_cons sm_int sma_nil)))) (sms_seq (sms_chain sm_var (sm_slT sm_var smo_none (smo_some (sm_neg sm_int))) (sm_op s_add (Sm.b sm_var) (Sm.b (sm_cb cs_len (smab_cons smb_own (SmA.b sma_nil))))) sm_var) (sms_freeze 6 (sms_freeze 5 (sms_ret (sm_make (c := 3) (sma_cons sm_var (sma_cons sm_var (sma_cons sm_var (sma_cons sm_var sma_nil)))))))))))))))
theorem ok_network_with (T : Txt K mg) (HF : HFau P w K mg base) {f : Addr} {fd : FuncData} (F : FunD K "network_with" "network_with" (defArgs s_network_with) (defBody s_network_with) (defScope s_network_with) [] [("ring", .bl false)] f fd) : FnOk P w K mg base CX0 9 f fd ["n", "output", "row", "ring"] (spO (WK K) 4 m_network_with) := ok_def F sc_network_with (bk_network_with T HF) (sm_network_with T)
theorem g_network_with (T : Txt K mg) (HF : HFau P w K mg base) : GoodD P w K mg base (WK K) 9 "network_with" ["ring"] (mKw 3 m_network_with) := by
  obtain ⟨f, fd, hm, F⟩ := T.f_network_with
  exact good_kw (ps := ["n", "output", "row"]) (ks := ["ring"]) (N := ["n", "output", "row", "ring", "stuck", "cells", "ends"]) hm F (ok_network_with T HF F) (fun kV doc pm an cdv ct us ws hl hw => match us, hl, ws, hw with | [_, _, _], _, [_], _ => rfl)
end
end CP
/-! part CpAD0 -/
set_option Elab.async false
set_option linter.all false
set_option maxRecDepth 100000
set_option maxHeartbeats 4000000
namespace CP
open PySem PySem.Spec PyProof.Rows L2 CPH
def tOr3 (t1 t2 t3 : TE) : TE := fun σ H Q => t1 σ H Q ∨ t2 σ H Q ∨ t3 σ H Q
theorem pe_or3 {X : Cx} {e : Expr} {t1 t2 t3 : TE} (h1 : PE X e t1) (h2 : PE X e t2) (h3 : PE X e t3) : PE X e (tOr3 t1 t2 t3) := ⟨fun pins s σ H Q I h => by
  rcases h with h | h | h
  · exact h1.run pins s σ H Q I h
  · exact h2.run pins s σ H Q I h
  · exact h3.run pins s σ H Q I h⟩
def eOr3 (m1 m2 m3 : ME) : ME := fun ρ => match m1 ρ with
  | some d => some d
  | none => match m2 ρ with
    | some d => some d
    | none => m3 ρ
theorem sm_or3 {W : Wd} {t1 t2 t3 : TE} {m1 m2 m3 : ME} (h1 : Sm W t1 m1) (h2 : Sm W t2 m2) (h3 : Sm W t3 m3) : Sm W (tOr3 t1 t2 t3) (eOr3 m1 m2 m3) := fun H0 F H σ ρ d e r q Q k => by
  unfold eOr3 at q
  split at q
  · rename_i d' g
    cases q
    exact .inl (h1 H0 F H σ ρ _ e r g Q k)
  · split at q
    · rename_i d' g
      cases q
      exact .inr (.inl (h2 H0 F H σ ρ _ e r g Q k))
    · exact .inr (.inr (h3 H0 F H σ ρ _ e r q Q k))
end CP
/-! part CpAD -/
set_option Elab.async false
set_option linter.all false
set_option maxRecDepth 100000
set_option maxHeartbeats 4000000
namespace CP
open PySem PySem.Spec PyProof.Rows L2 CPH
section
variable {P : Program} {w : World} {K : PySem.W.Frag} {mg : Str → Option Value} {base : Heap}
theorem sc__law_net_right : FnScope ["_law_found", "_law_some", "_law_size", "_law_is_ring", "_law_net", "_law_at", "_law_due_here", "_law_trial_here", "_law_end", "_law_row", "_law_last"] ["_law_found", "_law_some", "_law_size", "_law_is_ring"] (defScope s__law_net_right) := ⟨rfl, rfl, rfl, by decide +kernel, rfl, by decide +kernel, by decide +kernel⟩
def t__law_net_right (K : PySem.W.Frag) : TS := (tSeq (tAsg (tSl (rSlA K) (tVar 0) (tPart (tC (.int 1))) tNoPart) (gTup K 3 (gCons (gName 8) (gCons (gName 9) (gCons (gName 10) gNil))))) (tSeq (tIfS (tAnd (tB (tVar 3)) (tB (tIsi K "str" (tOp (rIx K) (tVar 9) (tUn (rU fun i => .int (-i)) (tC (.int 1))))))) (tRet (tC (.bl true))) tNext) (tSeq (tAsg (tUK 1 (spD (WK K) 1 (mKw 3 m_network_with)) (tCons (tVar 2) (tCons (tVar 8) (tCons (tVar 9) tNil))) (tCons (tVar 3) tNil)) (gName 4)) (tSeq (tAsg (tOp (rI0 fun i j => .int (i - j)) (tVar 8) (tCB (fun xs H Q => (∃ i, xs = [.int i] ∧ Q (.int i) H) ∨ ∃ k, xs = [.bl k] ∧ Q (.int (if k then 1 else 0)) H) (tCons (tVar 3) tNil))) (gName 5)) (tSeq (tAsg (tU (spD (WK K) 0 (mP 3 m__law_due)) (tCons (tVar 2) (tCons (tVar 8) (tCons (tVar 3) tNil))) tNil) (gName 6)) (tSeq (tFor (iList K (tVar 1)) (gName 7) (tIfS (tTest (tOp rNe (tOp (rIx K) (tOr3 (tMeth 948 "carries" (spO (WK K) 2 m_Network_carries_N) [] (fun _ _ _ => False) (tVar 4) (tCons (tVar 7) tNil)) (tMeth 1171 "carries" (spO (WK K) 2 m_Network_carries_R) [] (fun _ _ _ => False) (tVar 4) (tCons (tVar 7) tNil)) (tMeth 1083 "carries" (spO (WK K) 2 m_Network_carries_F) [] (fun _ _ _ => False) (tVar 4) (tCons (tVar 7) tNil))) (tVar 5)) (tU (spD (WK K) 0 (mP 2 m__law_seen)) (tCons (tVar 6) (tCons (tVar 7) tNil)) tNil))) (tRet (tC (.bl false))) tNext)) (tRet (tAndV (tOp rNe (tOp (rIx K) (tOr3 (tMeth 948 "carries" (spO (WK K) 2 m_Network_carries_N) [] (fun _ _ _ => False) (tVar 4) (tCons (tVar 10) tNil)) (tMeth 1171 "carries" (spO (WK K) 2 m_Network_carries_R) [] (fun _ _ _ => False) (tVar 4) (tCons (tVar 10) tNil)) (tMeth 1083 "carries" (spO (WK K) 2 m_Network_carries_F) [] (fun _ _ _ => False) (tVar 4) (tCons (tVar 10) tNil))) (tVar 5)) (tU (spD (WK K) 0 (mP 2 m__law_seen)) (tCons (tVar 6) (tCons (tVar 10) tNil)) tNil)) (tAndV (tOp (rEqD K) (tOr3 (tProp 948 (spO (WK K) 1 m_Network_wrong_outputs) [] (fun _ _ _ => False) (tVar 4)) (tProp 1171 (spO (WK K) 1 m_Ring_wrong_outputs) [] (fun _ _ _ => False) (tVar 4)) (tProp 1083 (spO (WK K) 1 m_Faulty_wrong_outputs) [] (fun _ _ _ => False) (tVar 4))) (tTup (tCons (tVar 8) tNil))) (tOp rIsB (tOr3 (tProp 948 (spO (WK K) 1 m_Network_is_right) [] (fun _ _ _ => False) (tVar 4)) (tProp 1171 (spO (WK K) 1 m_Network_is_right_R) [] (fun _ _ _ => False) (tVar 4)) (tProp 1083 (spO (WK K) 1 m_Faulty_is_right) [] (fun _ _ _ => False) (tVar 4))) (tC (.bl false))))))))))))
def b__law_net_right : MS := (sSeq (sAsg (eSlT (eVar 0) (oSome (eC (.int 1))) oNone) (gTp (gCons0 (gN 8) (gCons0 (gN 9) (gCons0 (gN 10) gNil0))) 3)) (sSeq (sIf (mAnd (tOf (eVar 3)) (tOf (eIsi "str" (eBin gIx (eVar 9) (eNeg (eC (.int 1))))))) (sRet (eC (.bool true))) sNext) (sSeq (sAsg (eUK 1 (mKw 3 m_network_with) (aCons (eVar 2) (aCons (eVar 8) (aCons (eVar 9) aNil))) (aCons (eVar 3) aNil)) (gN 4)) (sSeq (sAsg (eBin gSubI (eVar 8) (eCall cInt (aCons (eVar 3) aNil))) (gN 5)) (sSeq (sAsg (eU (mP 3 m__law_due) (aCons (eVar 2) (aCons (eVar 8) (aCons (eVar 3) aNil))) aNil) (gN 6)) (sSeq (sFor (iLst (eVar 1)) (gN 7) (sIf (tOf (eBin (gEq true) (eBin gIx (eOr3 (eOM 1 2 m_Network_carries_N (eVar 4) (aCons (eVar 7) aNil)) (eOM 2 2 m_Network_carries_R (eVar 4) (aCons (eVar 7) aNil)) (eOM 3 2 m_Network_carries_F (eVar 4) (aCons (eVar 7) aNil))) (eVar 5)) (eU (mP 2 m__law_seen) (aCons (eVar 6) (aCons (eVar 7) aNil)) aNil))) (sRet (eC (.bool false))) sNext)) (sRet (eAndV (eBin (gEq true) (eBin gIx (eOr3 (eOM 1 2 m_Network_carries_N (eVar 4) (aCons (eVar 10) aNil)) (eOM 2 2 m_Network_carries_R (eVar 4) (aCons (eVar 10) aNil)) (eOM 3 2 m_Network_carries_F (eVar 4) (aCons (eVar 10) aNil))) (eVar 5)) (eU (mP 2 m__law_seen) (aCons (eVar 6) (aCons (eVar 10) aNil)) aNil)) (eAndV (eBin (gEqD false) (eOr3 (eProp 1 m_Network_wrong_outputs (eVar 4)) (eProp 2 m_Ring_wrong_outputs (eVar 4)) (eProp 3 m_Faulty_wrong_outputs (eVar 4))) (eTup (aCons (eVar 8) aNil))) (eBin (gIsB false) (eOr3 (eProp 1 m_Network_is_right (eVar 4)) (eProp 2 m_Network_is_right_R (eVar 4)) (eProp 3 m_Faulty_is_right (eVar 4))) (eC (.bool false))))))))))))
def m__law_net_right : List D → Option D := runB 11 b__law_net_right
theorem bk__law_net_right (T : Txt K mg) (HF : HFau P w K mg base) : BodyOk P w K mg base ["_law_found", "_law_some", "_law_size", "_law_is_ring", "_law_net", "_law_at", "_law_due_here", "_law_trial_here", "_law_end", "_law_row", "_law_last"] "_law_net_right" (defScope s__law_net_right) (defBody s__law_net_right) 13 (t__law_net_right K) := fun f cdv A outer s H E hr =>
  (pss_cons (ps_asg (pe_slice sl_tupA (pv 0) (po_some pe_int) po_none) (pg_tup rfl (pgs_cons (pg_name (i := 8) sc__law_net_right.nd rfl (by first | exact Or.inl rfl | exact Or.inr rfl)) (pgs_cons (pg_name (i := 9) sc__law_net_right.nd rfl (by first | exact Or.inl rfl | exact Or.inr rfl)) (pgs_cons (pg_name (i := 10) sc__law_net_right.nd rfl (by first | exact Or.inl rfl | exact Or.inr rfl)) pgs_nil))))) (pss_cons (ps_if (PW.pt (pw_and (pt_val (pv 3)) (pw_and1 (pt_val (pe_callB call_isi (by rfl) T.b_isinstance (by decide +kernel) (pa_cons (pe_ix ix_seq (pv 9) (pe_un un_neg pe_int) (fun _ _ => rfl)) (pa_cons (pe_bltn (by rfl) T.b_str (by decide +kernel) rfl) pa_nil))))))) (pss_one (ps_ret pe_bl)) pss_nil) (pss_cons (ps_set (i := 4) sc__law_net_right.nd rfl (by first | exact Or.inl rfl | exact Or.inr rfl) (pe_uK (g_network_with T HF) (hr.mono (by decide)) (by rfl) (pa_cons (pv 2) (pa_cons (pv 8) (pa_cons (pv 9) pa_nil))) (pk_cons (pv 3) pk_nil))) (pss_cons (ps_set (i := 5) sc__law_net_right.nd rfl (by first | exact Or.inl rfl | exact Or.inr rfl) (pe_op op_sub (pv 8) (pe_callTy call_int1 (by rfl) T.b_int (by decide +kernel) (pa_cons (pv 3) pa_nil)))) (pss_cons (ps_set (i := 6) sc__law_net_right.nd rfl (by first | exact Or.inl rfl | exact Or.inr rfl) (pe_u (g__law_due T) (hr.mono (by decide)) (by rfl) (pa_cons (pv 2) (pa_cons (pv 8) (pa_cons (pv 3) pa_nil))))) (pss_cons (ps_for PassesOwn.never rfl (pi_list (pv 1)) (pg_name (i := 7) sc__law_net_right.nd rfl (by first | exact Or.inl rfl | exact Or.inr rfl)) (pss_one (ps_if (pt_cmpR op_ne (pe_ix ix_seq (pe_or3 (pe_methX (okm_Network_carries_N T) (pv 4) T.c_Network T.h_Network_carries (hr.mono (by decide)) (pa_cons (pv 7) pa_nil)) (pe_methX (okm_Network_carries_R T) (pv 4) T.c_Ring T.h_Ring_carries (hr.mono (by decide)) (pa_cons (pv 7) pa_nil)) (pe_methX (okm_Network_carries_F T) (pv 4) T.c_Faulty T.h_Faulty_carries (hr.mono (by decide)) (pa_cons (pv 7) pa_nil))) (pv 5) (fun _ _ => rfl)) (pe_u (g__law_seen T) (hr.mono (by decide)) (by rfl) (pa_cons (pv 6) (pa_cons (pv 7) pa_nil))) (nomark _)) (pss_one (ps_ret pe_bl)) pss_nil))) (pss_one (ps_ret (pe_and (pe_cmpR op_ne (pe_ix ix_seq (pe_or3 (pe_methX (okm_Network_carries_N T) (pv 4) T.c_Network T.h_Network_carries (hr.mono (by decide)) (pa_cons (pv 10) pa_nil)) (pe_methX (okm_Network_carries_R T) (pv 4) T.c_Ring T.h_Ring_carries (hr.mono (by decide)) (pa_cons (pv 10) pa_nil)) (pe_methX (okm_Network_carries_F T) (pv 4) T.c_Faulty T.h_Faulty_carries (hr.mono (by decide)) (pa_cons (pv 10) pa_nil))) (pv 5) (fun _ _ => rfl)) (pe_u (g__law_seen T) (hr.mono (by decide)) (by rfl) (pa_cons (pv 6) (pa_cons (pv 10) pa_nil))) (nomark _)) (pe_and (pe_cmpR (op_eqD hr.units) (pe_or3 (pe_propX (okm_Network_wrong_outputs T) (pv 4) T.c_Network T.p_Network_wrong_outputs (hr.mono (by decide))) (pe_propX (okm_Ring_wrong_outputs T) (pv 4) T.c_Ring T.p_Ring_wrong_outputs (hr.mono (by decide))) (pe_propX (okm_Faulty_wrong_outputs T) (pv 4) T.c_Faulty T.p_Faulty_wrong_outputs (hr.mono (by decide)))) (pe_tup (pa_cons (pv 8) pa_nil)) (nomark _)) (pe_one (pe_cmpR op_isBl (pe_or3 (pe_propX (okm_Network_is_right T) (pv 4) T.c_Network T.p_Network_is_right (hr.mono (by decide))) (pe_propX (okm_Network_is_right_R T) (pv 4) T.c_Ring T.p_Ring_is_right (hr.mono (by decide))) (pe_propX (okm_Faulty_is_right T) (pv 4) T.c_Faulty T.p_Faulty_is_right (hr.mono (by decide)))) pe_bl (nomark _)))))))))))))
theorem sm__law_net_right (T : Txt K mg) : SmS (WK K) (t__law_net_right K) b__law_net_right :=
  (sms_seq (sms_asg (sm_slT sm_var (smo_some sm_int) smo_none) (tgs_tup (tgss_cons tgs_name (tgss_cons tgs_name (tgss_cons tgs_name tgss_nil))))) (sms_seq (sms_if (smt_and (smt_B sm_var) (smt_B (sm_isi (Sm.b (sm_op s_ix (Sm.b sm_var) (Sm.b (sm_neg sm_int))))))) (sms_ret sm_bl) sms_next) (sms_seq (sms_asg (sm_uK (sma_cons sm_var (sma_cons sm_var (sma_cons sm_var sma_nil))) (sma_cons sm_var sma_nil)) tgs_name) (sms_seq (sms_asg (sm_op s_sub (Sm.b sm_var) (Sm.b (sm_cb cs_int (smab_cons (Sm.b sm_var) (SmA.b sma_nil))))) tgs_name) (sms_seq (sms_asg (sm_u (sma_cons sm_var (sma_cons sm_var (sma_cons sm_var sma_nil))) sma_nil) tgs_name) (sms_seq (sms_for (smi_list sm_var) tgs_name (sms_if (smt_T (sm_op s_ne (Sm.b (sm_op s_ix (Sm.b (sm_or3 (sm_om (c := 1) (n := 2) (by rfl) sm_var (sma_cons sm_var sma_nil)) (sm_om (c := 2) (n := 2) (by rfl) sm_var (sma_cons sm_var sma_nil)) (sm_om (c := 3) (n := 2) (by rfl) sm_var (sma_cons sm_var sma_nil)))) (Sm.b sm_var))) (Sm.b (sm_u (sma_cons sm_var (sma_cons sm_var sma_nil)) sma_nil)))) (sms_ret sm_bl) sms_next)) (sms_ret (sm_andV (sm_op s_ne (Sm.b (sm_op s_ix (Sm.b (sm_or3 (sm_om (c := 1) (n := 2) (by rfl) sm_var (sma_cons sm_var sma_nil)) (sm_om (c := 2) (n := 2) (by rfl) sm_var (sma_cons sm_var sma_nil)) (sm_om (c := 3) (n := 2) (by rfl) sm_var (sma_cons sm_var sma_nil)))) (Sm.b sm_var))) (Sm.b (sm_u (sma_cons sm_var (sma_cons sm_var sma_nil)) sma_nil))) (sm_andV (sm_op s_eqD (Sm.b (sm_or3 (sm_prop (c := 1) sm_var) (sm_prop (c := 2) sm_var) (sm_prop (c := 3) sm_var))) (Sm.b (sm_tup (sma_cons sm_var sma_nil)))) (sm_op s_isB (Sm.b (sm_or3 (sm_prop (c := 1) sm_var) (sm_prop (c := 2) sm_var) (sm_prop (c := 3) sm_var))) (Sm.b sm_bl)))))))))))
theorem g__law_net_right (T : Txt K mg) (HF : HFau P w K mg base) : GoodD P w K mg base (WK K) 14 "_law_net_right" [] (mP 4 m__law_net_right) := by
  obtain ⟨f, fd, hm, F⟩ := T.f__law_net_right
  exact good_of hm F (ok_def F sc__law_net_right (bk__law_net_right T HF) (sm__law_net_right T)) (F.bindsN fun _ _ _ _ _ _ us hl => match us, hl with | [_, _, _, _], _ => rfl)
end
end CP
/-! part CpAE -/
set_option Elab.async false
set_option linter.all false
set_option maxRecDepth 100000
set_option maxHeartbeats 4000000
namespace CP
open PySem PySem.Spec PyProof.Rows L2 CPH
/-! ### the pen -/
def PenAt (K : PySem.W.Frag) (H : Hp) (p q : Addr) (ns : List Int) (N : Int) : Prop := ∃ (at_ rest : Int), H p = some (.lst [.ref q, .int at_, .int rest]) ∧ H q = some (.lst (ns.map V.int)) ∧ q ≠ p ∧ 0 ≤ at_ ∧ at_ ≤ N ∧ 0 ≤ rest
/-- all but p stays -/
def ExB (p : Addr) (H H2 : Hp) : Prop := ∀ a o, a ≠ p → H a = some o → H2 a = some o
theorem ExB.refl {p : Addr} {H : Hp} : ExB p H H := fun _ _ _ h => h
theorem ExB.trans {p : Addr} {H H1 H2 : Hp} (a : ExB p H H1) (b : ExB p H1 H2) : ExB p H H2 := fun x o n h => b x o n (a x o n h)
theorem ExB.of {p : Addr} {H H2 : Hp} (e : Ex H H2) : ExB p H H2 := fun x o _ h => e x o h
theorem ExB.put {p : Addr} {H H2 : Hp} {o : HO} (e : ExB p H H2) : ExB p H (upd H2 p o) := fun x u n h => by rw [upd_ne n]; exact e x u n h
theorem ExB.sq {K : PySem.W.Frag} {p q : Addr} {H H2 : Hp} {xs : List V} (e : ExB p H H2) (hq : q ≠ p) (h : SqL K H q xs) : SqL K H2 q xs := by
  rcases h with (h | ⟨o, h⟩) | h
  · exact .inl (.inl (e _ _ hq h))
  · exact .inl (.inr ⟨o, e _ _ hq h⟩)
  · exact .inr h
theorem ExB.ex {p : Addr} {F H H2 : Hp} (e : ExB p H H2) (f : Ex F H) (n : F p = none) : Ex F H2 := fun a o h => e a o (ne_of_none h n) (f a o h)
theorem PenAt.on {K : PySem.W.Frag} {H H2 : Hp} {p q : Addr} {ns : List Int} {N : Int} (h : PenAt K H p q ns N) (e : Ex H H2) : PenAt K H2 p q ns N := by
  obtain ⟨a, r, h1, h2, h3⟩ := h
  exact ⟨a, r, e _ _ h1, e _ _ h2, h3⟩
theorem PenAt.mono {K : PySem.W.Frag} {H : Hp} {p q : Addr} {ns : List Int} {N M : Int} (h : PenAt K H p q ns N) (l : N ≤ M) : PenAt K H p q ns M := by
  obtain ⟨a, r, h1, h2, h3, h4, h5, h6⟩ := h
  exact ⟨a, r, h1, h2, h3, h4, by omega, h6⟩
def spDr (K : PySem.W.Frag) : SpK := fun vs zs H Q => ∃ (p q : Addr) (b N : Int) (ns : List Int), vs = [.ref p, .int b] ∧ PenAt K H p q ns N ∧ ns.length ≤ 63 ∧ N < 100000 ∧ 0 < b ∧ b < 100000 ∧
  ∀ d H2, 0 ≤ d → d < b → ExB p H H2 → PenAt K H2 p q ns (N + 1) → Q (.int d) H2
theorem lay_ints : ∀ ns : List Int, PyData.canLayAll0 (ns.map PyData.int) = true
  | [] => rfl
  | n :: ns => by simp [PyData.canLayAll0, PyData.canLay0, lay_ints ns]
theorem dep_ints : ∀ ns : List Int, PyData.depthAll (ns.map PyData.int) = 0
  | [] => by simp [PyData.depthAll]
  | n :: ns => by simp [PyData.depthAll, PyData.depth, dep_ints ns]
theorem shaped_ints (ns : List Int) : SeqAt.shaped (.list (ns.map PyData.int)) = true := by
  unfold SeqAt.shaped
  simp [PyData.canLay0, PyData.depth, lay_ints ns, dep_ints ns]
theorem eqv_ints (ns : List Int) : PyData.eqv (.list (ns.map PyData.int)) (.list []) = ns.isEmpty := by
  cases ns <;> simp [PyData.eqv, PyData.eqvAll]
theorem dp_ints {K : PySem.W.Frag} {H : Hp} : ∀ ns : List Int, DpAll K H (ns.map V.int) (ns.map PyData.int)
  | [] => .nil
  | n :: ns => .cons (.int n) (dp_ints ns)
section
variable {P : Program} {w : World} {K : PySem.W.Frag} {mg : Str → Option Value} {base : Heap}
theorem sc__law_draw : FnScope ["_law_pen_here", "_law_bound", "_law_at", "_law_cell", "_law_mixed", "_law_digit", "_law_great"] ["_law_pen_here", "_law_bound"] (defScope s__law_draw) := ⟨rfl, rfl, rfl, by decide +kernel, rfl, by decide +kernel, by decide +kernel⟩
def tl2__law_draw (K : PySem.W.Frag) : TS := (tSeq (tAsg (tOp (rI (fun _ j => 0 < j) fun i j => .int (i % j)) (tOp (rI CPow fun i j => .int (i ^ j.toNat)) (tOp (rI0 fun i j => .int (i + j)) (tOp (rI0 fun i j => .int (i + j)) (tOp (rI (fun _ j => 0 < j) fun i j => .int (i % j)) (tVar 3) (tC (.int 2147483563))) (tOp (rI CMul fun i j => .int (i * j)) (tC (.int 40801)) (tVar 2))) (tC (.int 29))) (tC (.int 5))) (tC (.int 2147483647))) (gName 4)) (tSeq (tAsg (tOp (rI (fun _ j => 0 < j) fun i j => .int (i % j)) (tOp (rI CPow fun i j => .int (i ^ j.toNat)) (tOp (rI0 fun i j => .int (i + j)) (tOp (rI0 fun i j => .int (i + j)) (tOp (rI CMul fun i j => .int (i * j)) (tVar 4) (tOp (rI0 fun i j => .int (i + j)) (tVar 2) (tC (.int 50021)))) (tOp (rI CMul fun i j => .int (i * j)) (tOp (rI CMul fun i j => .int (i * j)) (tC (.int 70001)) (tVar 2)) (tVar 2))) (tC (.int 11))) (tC (.int 3))) (tC (.int 2147483587))) (gName 4)) (tRet (tOp (rI (fun _ j => 0 < j) fun i j => .int (i % j)) (tOp (rI CDiv fun i j => .int (i / j)) (tVar 4) (tC (.int 32))) (tVar 1)))))
def tl__law_draw (K : PySem.W.Frag) : TS := (tSeq (tIfS (tAnd (tTest (tOp (rI0 fun i j => .bl (decide (i < j))) (tVar 2) (tCB (fun xs H Q => ∃ x n, xs = [x] ∧ LenV K x H n ∧ Q (.int n) H) (tCons (tOp (rIx K) (tVar 0) (tC (.int 0))) tNil)))) (tTest (tOp (rI0 fun i j => .bl (decide (j ≤ i))) (tCB (fun xs H Q => ∃ i, xs = [.int i] ∧ Q (.int (if i < 0 then -i else i)) H) (tCons (tVar 3) tNil)) (tOp (rI CPow fun i j => .int (i ^ j.toNat)) (tC (.int 10)) (tC (.int 18)))))) (tSeq (tAsg (tOp (rI0 fun i j => .int (i + j)) (tOp (rI CMul fun i j => .int (i * j)) (tC (.int 2)) (tCB (fun xs H Q => ∃ i, xs = [.int i] ∧ Q (.int (if i < 0 then -i else i)) H) (tCons (tVar 3) tNil))) (tCB (fun xs H Q => (∃ i, xs = [.int i] ∧ Q (.int i) H) ∨ ∃ k, xs = [.bl k] ∧ Q (.int (if k then 1 else 0)) H) (tCons (tOp (rI0 fun i j => .bl (decide (i < j))) (tVar 3) (tC (.int 0))) tNil))) (gName 6)) (tSeq (tAsg (tOp (rI CDiv fun i j => .int (i / j)) (tVar 6) (tVar 1)) (gSub (tVar 0) (tC (.int 2)) rSetL)) (tRet (tOp (rI (fun _ j => 0 < j) fun i j => .int (i % j)) (tVar 6) (tVar 1))))) tNext) (tSeq (tAsg (tOp (rI (fun _ j => 0 < j) fun i j => .int (i % j)) (tOp (rI CPow fun i j => .int (i ^ j.toNat)) (tOp (rI0 fun i j => .int (i + j)) (tOp (rI0 fun i j => .int (i + j)) (tOp (rI (fun _ j => 0 < j) fun i j => .int (i % j)) (tVar 3) (tC (.int 2147483563))) (tOp (rI CMul fun i j => .int (i * j)) (tC (.int 40801)) (tVar 2))) (tC (.int 29))) (tC (.int 5))) (tC (.int 2147483647))) (gName 4)) (tSeq (tAsg (tOp (rI (fun _ j => 0 < j) fun i j => .int (i % j)) (tOp (rI CPow fun i j => .int (i ^ j.toNat)) (tOp (rI0 fun i j => .int (i + j)) (tOp (rI0 fun i j => .int (i + j)) (tOp (rI CMul fun i j => .int (i * j)) (tVar 4) (tOp (rI0 fun i j => .int (i + j)) (tVar 2) (tC (.int 50021)))) (tOp (rI CMul fun i j => .int (i * j)) (tOp (rI CMul fun i j => .int (i * j)) (tC (.int 70001)) (tVar 2)) (tVar 2))) (tC (.int 11))) (tC (.int 3))) (tC (.int 2147483587))) (gName 4)) (tRet (tOp (rI (fun _ j => 0 < j) fun i j => .int (i % j)) (tOp (rI CDiv fun i j => .int (i / j)) (tVar 4) (tC (.int 32))) (tVar 1))))))
def t__law_draw (K : PySem.W.Frag) : TS := (tSeq (tIfS (tTest (tOp (rI0 fun i j => .bl (decide (j < i))) (tOp (rIx K) (tVar 0) (tC (.int 2))) (tC (.int 0)))) (tSeq (tAsg (tOp (rI (fun _ j => 0 < j) fun i j => .int (i % j)) (tOp (rIx K) (tVar 0) (tC (.int 2))) (tVar 1)) (gName 5)) (tSeq (tAsg (tOp (rI CDiv fun i j => .int (i / j)) (tOp (rIx K) (tVar 0) (tC (.int 2))) (tVar 1)) (gSub (tVar 0) (tC (.int 2)) rSetL)) (tRet (tVar 5)))) tNext) (tSeq (tAsg (tOp (rIx K) (tVar 0) (tC (.int 1))) (gName 2)) (tSeq (tAsg (tOp (rI0 fun i j => .int (i + j)) (tVar 2) (tC (.int 1))) (gSub (tVar 0) (tC (.int 1)) rSetL)) (tSeq (tAsg (tOp (rI0 fun i j => .int (i + j)) (tOp (rI CMul fun i j => .int (i * j)) (tC (.int 5623)) (tVar 2)) (tC (.int 283))) (gName 3)) (tSeq (tIfS (tTest (tOp (rNeD K) (tOp (rIx K) (tVar 0) (tC (.int 0))) (tLst tNil))) (tAsg (tOp (rIx K) (tOp (rIx K) (tVar 0) (tC (.int 0))) (tOp (rI (fun _ j => 0 < j) fun i j => .int (i % j)) (tVar 2) (tCB (fun xs H Q => ∃ x n, xs = [x] ∧ LenV K x H n ∧ Q (.int n) H) (tCons (tOp (rIx K) (tVar 0) (tC (.int 0))) tNil)))) (gName 3)) tNext) (tSeq (tIfS (tAnd (tTest (tOp (rI0 fun i j => .bl (decide (i < j))) (tVar 2) (tCB (fun xs H Q => ∃ x n, xs = [x] ∧ LenV K x H n ∧ Q (.int n) H) (tCons (tOp (rIx K) (tVar 0) (tC (.int 0))) tNil)))) (tTest (tOp (rI0 fun i j => .bl (decide (j ≤ i))) (tCB (fun xs H Q => ∃ i, xs = [.int i] ∧ Q (.int (if i < 0 then -i else i)) H) (tCons (tVar 3) tNil)) (tOp (rI CPow fun i j => .int (i ^ j.toNat)) (tC (.int 10)) (tC (.int 18)))))) (tSeq (tAsg (tOp (rI0 fun i j => .int (i + j)) (tOp (rI CMul fun i j => .int (i * j)) (tC (.int 2)) (tCB (fun xs H Q => ∃ i, xs = [.int i] ∧ Q (.int (if i < 0 then -i else i)) H) (tCons (tVar 3) tNil))) (tCB (fun xs H Q => (∃ i, xs = [.int i] ∧ Q (.int i) H) ∨ ∃ k, xs = [.bl k] ∧ Q (.int (if k then 1 else 0)) H) (tCons (tOp (rI0 fun i j => .bl (decide (i < j))) (tVar 3) (tC (.int 0))) tNil))) (gName 6)) (tSeq (tAsg (tOp (rI CDiv fun i j => .int (i / j)) (tVar 6) (tVar 1)) (gSub (tVar 0) (tC (.int 2)) rSetL)) (tRet (tOp (rI (fun _ j => 0 < j) fun i j => .int (i % j)) (tVar 6) (tVar 1))))) tNext) (tSeq (tAsg (tOp (rI (fun _ j => 0 < j) fun i j => .int (i % j)) (tOp (rI CPow fun i j => .int (i ^ j.toNat)) (tOp (rI0 fun i j => .int (i + j)) (tOp (rI0 fun i j => .int (i + j)) (tOp (rI (fun _ j => 0 < j) fun i j => .int (i % j)) (tVar 3) (tC (.int 2147483563))) (tOp (rI CMul fun i j => .int (i * j)) (tC (.int 40801)) (tVar 2))) (tC (.int 29))) (tC (.int 5))) (tC (.int 2147483647))) (gName 4)) (tSeq (tAsg (tOp (rI (fun _ j => 0 < j) fun i j => .int (i % j)) (tOp (rI CPow fun i j => .int (i ^ j.toNat)) (tOp (rI0 fun i j => .int (i + j)) (tOp (rI0 fun i j => .int (i + j)) (tOp (rI CMul fun i j => .int (i * j)) (tVar 4) (tOp (rI0 fun i j => .int (i + j)) (tVar 2) (tC (.int 50021)))) (tOp (rI CMul fun i j => .int (i * j)) (tOp (rI CMul fun i j => .int (i * j)) (tC (.int 70001)) (tVar 2)) (tVar 2))) (tC (.int 11))) (tC (.int 3))) (tC (.int 2147483587))) (gName 4)) (tRet (tOp (rI (fun _ j => 0 < j) fun i j => .int (i % j)) (tOp (rI CDiv fun i j => .int (i / j)) (tVar 4) (tC (.int 32))) (tVar 1)))))))))))
theorem bk__law_draw (T : Txt K mg) : BodyOk P w K mg base ["_law_pen_here", "_law_bound", "_law_at", "_law_cell", "_law_mixed", "_law_digit", "_law_great"] "_law_draw" (defScope s__law_draw) (defBody s__law_draw) 0 (t__law_draw K) := fun f cdv A outer s H E hr =>
  (pss_cons (ps_if (pt_cmpR op_gt (pe_ix ix_seq (pv 0) pe_int (fun _ _ => rfl)) pe_int (nomark _)) (pss_cons (ps_set (i := 5) sc__law_draw.nd rfl (by first | exact Or.inl rfl | exact Or.inr rfl) (pe_op op_mod (pe_ix ix_seq (pv 0) pe_int (fun _ _ => rfl)) (pv 1))) (pss_cons (ps_asg (pe_op op_fdiv (pe_ix ix_seq (pv 0) pe_int (fun _ _ => rfl)) (pv 1)) (pg_sub (pv 0) pe_int set_list)) (pss_one (ps_ret (pv 5))))) pss_nil) (pss_cons (ps_set (i := 2) sc__law_draw.nd rfl (by first | exact Or.inl rfl | exact Or.inr rfl) (pe_ix ix_seq (pv 0) pe_int (fun _ _ => rfl))) (pss_cons (ps_asg (pe_op op_add (pv 2) pe_int) (pg_sub (pv 0) pe_int set_list)) (pss_cons (ps_set (i := 3) sc__law_draw.nd rfl (by first | exact Or.inl rfl | exact Or.inr rfl) (pe_op op_add (pe_op op_mul pe_int (pv 2)) pe_int)) (pss_cons (ps_if (pt_cmpR (op_neD hr.units) (pe_ix ix_seq (pv 0) pe_int (fun _ _ => rfl)) (pe_lst pa_nil) (nomark _)) (pss_one (ps_set (i := 3) sc__law_draw.nd rfl (by first | exact Or.inl rfl | exact Or.inr rfl) (pe_ix ix_seq (pe_ix ix_seq (pv 0) pe_int (fun _ _ => rfl)) (pe_op op_mod (pv 2) (pe_callB call_len (by rfl) T.b_len (by decide +kernel) (pa_cons (pe_ix ix_seq (pv 0) pe_int (fun _ _ => rfl)) pa_nil))) (fun _ _ => rfl)))) pss_nil) (pss_cons (ps_if (PW.pt (pw_and (pt_cmpR op_lt (pv 2) (pe_callB call_len (by rfl) T.b_len (by decide +kernel) (pa_cons (pe_ix ix_seq (pv 0) pe_int (fun _ _ => rfl)) pa_nil)) (nomark _)) (pw_and1 (pt_cmpR op_ge (pe_callB call_abs (by rfl) T.b_abs (by decide +kernel) (pa_cons (pv 3) pa_nil)) (pe_op op_pow pe_int pe_int) (nomark _))))) (pss_cons (ps_set (i := 6) sc__law_draw.nd rfl (by first | exact Or.inl rfl | exact Or.inr rfl) (pe_op op_add (pe_op op_mul pe_int (pe_callB call_abs (by rfl) T.b_abs (by decide +kernel) (pa_cons (pv 3) pa_nil))) (pe_callTy call_int1 (by rfl) T.b_int (by decide +kernel) (pa_cons (pe_cmpR op_lt (pv 3) pe_int (nomark _)) pa_nil)))) (pss_cons (ps_asg (pe_op op_fdiv (pv 6) (pv 1)) (pg_sub (pv 0) pe_int set_list)) (pss_one (ps_ret (pe_op op_mod (pv 6) (pv 1)))))) pss_nil) (pss_cons (ps_set (i := 4) sc__law_draw.nd rfl (by first | exact Or.inl rfl | exact Or.inr rfl) (pe_op op_mod (pe_op op_pow (pe_op op_add (pe_op op_add (pe_op op_mod (pv 3) pe_int) (pe_op op_mul pe_int (pv 2))) pe_int) pe_int) pe_int)) (pss_cons (ps_set (i := 4) sc__law_draw.nd rfl (by first | exact Or.inl rfl | exact Or.inr rfl) (pe_op op_mod (pe_op op_pow (pe_op op_add (pe_op op_add (pe_op op_mul (pv 4) (pe_op op_add (pv 2) pe_int)) (pe_op op_mul (pe_op op_mul pe_int (pv 2)) (pv 2))) pe_int) pe_int) pe_int)) (pss_one (ps_ret (pe_op op_mod (pe_op op_fdiv (pv 4) pe_int) (pv 1))))))))))))
theorem sc__law_mode : FnScope ["_law_pen_here"] ["_law_pen_here"] (defScope s__law_mode) := ⟨rfl, rfl, rfl, by decide +kernel, rfl, by decide +kernel, by decide +kernel⟩
def t__law_mode (K : PySem.W.Frag) : TS := (tRet (tTup (tCons (tOp rEq (tU (spDr K) (tCons (tVar 0) (tCons (tC (.int 3)) tNil)) tNil) (tC (.int 0))) (tCons (tOp rEq (tU (spDr K) (tCons (tVar 0) (tCons (tC (.int 3)) tNil)) tNil) (tC (.int 0))) tNil))))
theorem sc__law_pen : FnScope ["_law_script"] ["_law_script"] (defScope s__law_pen) := ⟨rfl, rfl, rfl, by decide +kernel, rfl, by decide +kernel, by decide +kernel⟩
def t__law_pen (K : PySem.W.Frag) : TS := (tRet (tLst (tCons (tCB (fun xs H Q => ∃ p ys, xs = [.ref p] ∧ (SqL K H p ys ∨ SqT K H p ys) ∧ ∀ l, H l = none → Q (.ref l) (upd H l (.lst ys))) (tCons (tSl (rSlL K) (tVar 0) tNoPart (tPart (tC (.int 63)))) tNil)) (tCons (tC (.int 0)) (tCons (tC (.int 0)) tNil)))))
theorem bk__law_pen (T : Txt K mg) : BodyOk P w K mg base ["_law_script"] "_law_pen" (defScope s__law_pen) (defBody s__law_pen) 0 (t__law_pen K) := fun f cdv A outer s H E hr =>
  (pss_one (ps_ret (pe_lst (pa_cons (pe_callTy call_list_of (by rfl) T.b_list (by decide +kernel) (pa_cons (pe_slice sl_list (pv 0) po_none (po_some pe_int)) pa_nil)) (pa_cons pe_int (pa_cons pe_int pa_nil))))))
theorem draw_bounds {m a : Int} (h1 : 0 ≤ m) (h2 : m < 2147483647) (h3 : 0 ≤ a) (h4 : a < 100000) : CMul m (a + 50021) ∧ CMul (70001 * a) a ∧ (m * (a + 50021) + 70001 * a * a + 11).natAbs < 2 ^ 64 := by
  have n1 : 70001 * a * a ≤ 70001 * a * 100000 := Int.mul_le_mul_of_nonneg_left (by omega) (by omega)
  have n2 : 0 ≤ 70001 * a * a := Int.mul_nonneg (by omega) h3
  have n3 : m * (a + 50021) ≤ m * 150021 := Int.mul_le_mul_of_nonneg_left (by omega) h1
  have n4 : 0 ≤ m * (a + 50021) := Int.mul_nonneg h1 (by omega)
  exact ⟨.inl ⟨by omega, by omega⟩, .inl ⟨by omega, by omega⟩, by omega⟩
theorem at0 {K : PySem.W.Frag} {H : Hp} {p : Addr} {xs : List V} {Q : VK} {v : V} {i : Int} (h : H p = some (.lst xs)) (hv : atI xs i = some v) (q : Q v H) : rIx K (.ref p) (.int i) H Q := .inl ⟨p, xs, i, v, rfl, rfl, .inl (.inl h), hv, q⟩
theorem rd__law_draw {H : Hp} {p q : Addr} {b N : Int} {ns : List Int} {Q : VK} (h : PenAt K H p q ns N) (h63 : ns.length ≤ 63) (hN : N < 100000) (hb : 0 < b) (hb2 : b < 100000) (kk : ∀ d H2, 0 ≤ d → d < b → ExB p H H2 → PenAt K H2 p q ns (N + 1) → Q (.int d) H2) :
    t__law_draw K { nx := fun _ H' => Q .non H', rt := Q } (L2.start ["_law_pen_here", "_law_bound", "_law_at", "_law_cell", "_law_mixed", "_law_digit", "_law_great"] [.ref p, .int b]) H := by
  obtain ⟨at_, rest, h1, h2, h3, h4, h5, h6⟩ := h
  have cd : CDiv rest b := ⟨hb, by omega⟩
  refine ⟨_, rfl, at0 h1 rfl ⟨rest, 0, rfl, rfl, _, rfl, ?_⟩⟩
  by_cases hr : 0 < rest
  · rw [decide_eq_true hr]
    refine iteT ?_
    refine ⟨_, rfl, at0 h1 rfl ⟨_, rfl, rest, b, rfl, rfl, hb, ?_⟩⟩
    refine ⟨_, rfl, at0 h1 rfl ⟨_, rfl, rest, b, rfl, rfl, cd, ?_⟩⟩
    refine ⟨_, rfl, p, _, 2, 2, rfl, rfl, h1, rfl, ?_⟩
    refine ⟨_, rfl, kk _ _ (Int.emod_nonneg _ (by omega)) (Int.emod_lt_of_pos _ hb) (ExB.refl.put) ⟨at_, rest / b, upd_same, ExB.refl.put q _ h3 h2, h3, h4, by omega, Int.ediv_nonneg h6 (by omega)⟩⟩
  · rw [decide_eq_false hr]
    refine iteF ?_
    refine ⟨_, rfl, at0 h1 rfl ?_⟩
    refine ⟨_, rfl, at_, 1, rfl, rfl, _, rfl, p, _, 1, 1, rfl, rfl, h1, rfl, ?_⟩
    generalize hH1 : upd H p (.lst ([V.ref q, V.int at_, V.int rest].set 1 (V.int (at_ + 1)))) = H1
    have g1 : H1 p = some (.lst [.ref q, .int (at_ + 1), .int rest]) := by rw [← hH1, upd_same]; rfl
    have x1 : ExB p H H1 := by rw [← hH1]; exact ExB.refl.put
    have s1 : H1 q = some (.lst (ns.map V.int)) := x1 q _ h3 h2
    refine ⟨_, rfl, 5623, at_, rfl, rfl, .inl ⟨by decide, by decide⟩, _, 283, rfl, rfl, ?_⟩
    refine ⟨_, rfl, at0 g1 rfl ⟨by show (0 : Nat) ≤ sizeLine; decide, fun l hl => ?_⟩⟩
    have g2 : upd H1 l (.lst []) p = some (.lst [.ref q, .int (at_ + 1), .int rest]) := by rw [upd_ne (ne_of_none g1 hl)]; exact g1
    have x2 : ExB p H (upd H1 l (.lst [])) := x1.trans (.of (.new hl))
    have s2 : (upd H1 l (.lst [])) q = some (.lst (ns.map V.int)) := (Ex.new hl) _ _ s1
    refine ⟨.list (ns.map .int), .list [], .lst (.inl (.inl s2)) (dp_ints ns), .lst (.inl (.inl upd_same)) .nil, shaped_ints ns, rfl, ?_⟩
    rw [eqv_ints]
    generalize upd H1 l (.lst []) = H2 at g2 x2 s2
    have key : ∀ cell : Int, tl__law_draw K { nx := fun _ H' => Q .non H', rt := Q } [some (.ref p), some (.int b), some (.int at_), some (.int cell), none, none, none] H2 := fun cell => by
      have fin : ∀ d H3, 0 ≤ d → d < b → ExB p H2 H3 → (∃ r, H3 p = some (.lst [.ref q, .int (at_ + 1), .int r]) ∧ 0 ≤ r) → Q (.int d) H3 := fun d H3 a1 a2 a3 ⟨r, a4, a5⟩ =>
        kk d H3 a1 a2 (x2.trans a3) ⟨at_ + 1, r, a4, a3 q _ h3 s2, h3, by omega, by omega, a5⟩
      have rest' : ∀ σ', σ' = [some (V.ref p), some (.int b), some (.int at_), some (.int cell), none, none, none] → tl2__law_draw K { nx := fun _ H' => Q .non H', rt := Q } σ' H2 := by
        rintro σ' rfl
        have m1 : (0 : Int) ≤ cell % 2147483563 := Int.emod_nonneg _ (by decide)
        have m2 : cell % 2147483563 < 2147483563 := Int.emod_lt_of_pos _ (by decide)
        refine ⟨_, rfl, cell, 2147483563, rfl, rfl, (by show (0 : Int) < _; decide), _, rfl, 40801, at_, rfl, rfl, .inl ⟨by decide, by decide⟩, _, _, rfl, rfl, _, 29, rfl, rfl, _, 5, rfl, rfl, ⟨by decide, by decide, by omega⟩, _, 2147483647, rfl, rfl, (by show (0 : Int) < _; decide), ?_⟩
        have m3 : 0 ≤ (cell % 2147483563 + 40801 * at_ + 29) ^ (5 : Int).toNat % 2147483647 := Int.emod_nonneg _ (by decide)
        have m4 : (cell % 2147483563 + 40801 * at_ + 29) ^ (5 : Int).toNat % 2147483647 < 2147483647 := Int.emod_lt_of_pos _ (by decide)
        obtain ⟨b1, b2, b3⟩ := draw_bounds m3 m4 h4 (show at_ < 100000 by omega)
        refine ⟨_, rfl, _, rfl, at_, 50021, rfl, rfl, _, at_ + 50021, rfl, rfl, b1, _, rfl, 70001, at_, rfl, rfl, .inl ⟨by decide, by decide⟩, _, rfl, 70001 * at_, at_, rfl, rfl, b2, _, _, rfl, rfl, _, 11, rfl, rfl, _, 3, rfl, rfl, ⟨by decide, by decide, b3⟩, _, 2147483587, rfl, rfl, (by show (0 : Int) < _; decide), ?_⟩
        refine ⟨_, rfl, _, 32, rfl, rfl, ⟨by decide, by decide⟩, _, rfl, _, b, rfl, rfl, hb, ?_⟩
        exact fin _ H2 (Int.emod_nonneg _ (by omega)) (Int.emod_lt_of_pos _ hb) .refl ⟨rest, g2, h6⟩
      have hlen : (ns.map V.int).length = ns.length := List.length_map ..
      refine ⟨_, rfl, _, rfl, at0 g2 rfl ⟨_, ns.length, rfl, .inl ⟨_, .inl (.inl s2), hlen.symm⟩, at_, (ns.length : Int), rfl, rfl, _, rfl, ?_⟩⟩
      by_cases hl1 : at_ < (ns.length : Int)
      · rw [decide_eq_true hl1]
        refine iteT ⟨_, rfl, cell, rfl, 10, 18, rfl, rfl, ⟨by decide, by decide, by decide⟩, _, _, rfl, rfl, _, rfl, ?_⟩
        by_cases hl2 : (10 : Int) ^ (18 : Int).toNat ≤ (if cell < 0 then -cell else cell)
        · rw [decide_eq_true hl2]
          refine iteT ⟨_, rfl, cell, rfl, 2, _, rfl, rfl, .inl ⟨by decide, by decide⟩, _, rfl, cell, 0, rfl, rfl, .inr ⟨_, rfl, _, _, rfl, rfl, ?_⟩⟩
          have g2n : 0 ≤ 2 * (if cell < 0 then -cell else cell) + (if decide (cell < 0) = true then 1 else 0) := by
            split <;> split <;> omega
          refine ⟨_, rfl, _, rfl, _, b, rfl, rfl, ⟨hb, by omega⟩, _, rfl, p, _, 2, 2, rfl, rfl, g2, rfl, ?_⟩
          refine ⟨_, rfl, _, rfl, _, b, rfl, rfl, hb, ?_⟩
          exact fin _ _ (Int.emod_nonneg _ (by omega)) (Int.emod_lt_of_pos _ hb) (ExB.refl.put) ⟨_, upd_same, Int.ediv_nonneg g2n (by omega)⟩
        · rw [decide_eq_false hl2]
          exact iteF (rest' _ rfl)
      · rw [decide_eq_false hl1]
        exact iteF (rest' _ rfl)
    refine ⟨_, rfl, ?_⟩
    by_cases hns : ns.isEmpty = true
    · rw [hns]
      exact iteF (key _)
    · rw [Bool.not_eq_true] at hns
      rw [hns]
      have hpos : 0 < (ns.length : Int) := by
        cases ns with
        | nil => cases hns
        | cons a l => simp
      have hmod0 : 0 ≤ at_ % (ns.length : Int) := Int.emod_nonneg _ (by omega)
      have hmod : at_ % (ns.length : Int) < (ns.length : Int) := Int.emod_lt_of_pos _ hpos
      have hlen : (ns.map V.int).length = ns.length := List.length_map ..
      refine iteT ⟨_, rfl, at0 g2 rfl ⟨_, rfl, _, rfl, at0 g2 rfl ⟨_, ns.length, rfl, .inl ⟨_, .inl (.inl s2), hlen.symm⟩, at_, (ns.length : Int), rfl, rfl, hpos, ?_⟩⟩⟩
      obtain ⟨j, hj, ej⟩ : ∃ j : Nat, j < ns.length ∧ at_ % (ns.length : Int) = (j : Int) := ⟨(at_ % (ns.length : Int)).toNat, by omega, by omega⟩
      refine .inl ⟨q, ns.map V.int, at_ % (ns.length : Int), .int ns[j], rfl, rfl, .inl (.inl s2), ?_, key _⟩
      rw [ej]
      refine atI_nat ?_
      rw [List.getElem?_map, List.getElem?_eq_getElem hj]
      rfl
theorem g__law_draw (T : Txt K mg) : Good P w K mg base 1 "_law_draw" [] (spDr K) := by
  obtain ⟨f, fd, hm, F⟩ := T.f__law_draw
  have ok : FnOk P w K mg base CX0 1 f fd ["_law_pen_here", "_law_bound"] (fun vs H Q _ => spDr K vs [] H Q) := by
    refine F.ok sc__law_draw (fun vs H Q E ⟨_, _, _, _, _, e1, _⟩ => by rw [e1]; rfl) fun cdv A outer s H vs Q E hr ⟨p, q, b, N, ns, ev, h1, h2, h3, h4, h5, kk⟩ => ⟨t__law_draw K, PSs.nox (bk__law_draw T f cdv A outer s H E hr), ?_⟩
    subst ev
    exact rd__law_draw h1 h2 h3 h4 h5 kk
  refine ⟨f, hm, F.kp, fun A outer s H us ws vs zs Q hr e0 r rz hl h => ?_⟩
  cases ws with
  | cons _ _ => cases hl
  | nil =>
    cases rz
    exact fr_of_ok ok (F.bindsN fun _ _ _ _ _ _ us hl => match us, hl with | [_, _], _ => rfl) A outer s H us vs Q _ hr e0 r h
/-! ### _law_mode, _law_pen -/
theorem bk__law_mode (T : Txt K mg) : BodyOk P w K mg base ["_law_pen_here"] "_law_mode" (defScope s__law_mode) (defBody s__law_mode) 1 (t__law_mode K) := fun f cdv A outer s H E hr =>
  (pss_one (ps_ret (pe_tup (pa_cons (pe_cmpR op_eq (pe_u (g__law_draw T) (hr.mono (by decide)) (by rfl) (pa_cons (pv 0) (pa_cons pe_int pa_nil))) pe_int (nomark _)) (pa_cons (pe_cmpR op_eq (pe_u (g__law_draw T) (hr.mono (by decide)) (by rfl) (pa_cons (pv 0) (pa_cons pe_int pa_nil))) pe_int (nomark _)) pa_nil)))))
def spMode (K : PySem.W.Frag) : SpK := fun vs zs H Q => ∃ (p q : Addr) (N : Int) (ns : List Int), vs = [.ref p] ∧ PenAt K H p q ns N ∧ ns.length ≤ 63 ∧ N < 99999 ∧
  ∀ b1 b2 t H2, ExB p H H2 → PenAt K H2 p q ns (N + 2) → H2 t = some (.tup [.bl b1, .bl b2]) → H t = none → Q (.ref t) H2
theorem g__law_mode (T : Txt K mg) : Good P w K mg base 2 "_law_mode" [] (spMode K) := by
  obtain ⟨f, fd, hm, F⟩ := T.f__law_mode
  have ok : FnOk P w K mg base CX0 2 f fd ["_law_pen_here"] (fun vs H Q _ => spMode K vs [] H Q) := by
    refine F.ok sc__law_mode (fun vs H Q E ⟨_, _, _, _, e1, _⟩ => by rw [e1]; rfl) fun cdv A outer s H vs Q E hr ⟨p, q, N, ns, ev, h1, h2, h3, kk⟩ => ⟨t__law_mode K, PSs.nox (bk__law_mode T f cdv A outer s H E hr), ?_⟩
    subst ev
    refine ⟨_, rfl, p, q, 3, N, ns, rfl, h1, h2, by omega, by decide, by decide, fun d1 H1 a1 a2 e1 p1 => ⟨rfl, ?_⟩⟩
    refine ⟨_, rfl, p, q, 3, N + 1, ns, rfl, p1, h2, by omega, by decide, by decide, fun d2 H2 b1 b2 e2 p2 => ⟨rfl, by show (2 : Nat) ≤ sizeLine; decide, fun t ht => ?_⟩⟩
    have e12 := e1.trans e2
    have hpt : p ≠ t := by
      obtain ⟨a, r, g, _⟩ := p2
      exact ne_of_none g ht
    have hHt : H t = none := by
      cases g : H t with
      | none => rfl
      | some o =>
        have := e12 t o (Ne.symm hpt) g
        rw [ht] at this
        cases this
    exact kk _ _ t _ (e12.trans (.of (.new ht))) ((p2.on (.new ht)).mono (by omega)) upd_same hHt
  refine ⟨f, hm, F.kp, fun A outer s H us ws vs zs Q hr e0 r rz hl h => ?_⟩
  cases ws with
  | cons _ _ => cases hl
  | nil =>
    cases rz
    exact fr_of_ok ok (F.bindsN fun _ _ _ _ _ _ us hl => match us, hl with | [_], _ => rfl) A outer s H us vs Q _ hr e0 r h
def spPen (K : PySem.W.Frag) : SpK := fun vs zs H Q => ∃ (a : Addr) (ns : List Int), vs = [.ref a] ∧ SqL K H a (ns.map V.int) ∧
  ∀ p q H2, Ex H H2 → H p = none → PenAt K H2 p q (ns.take 63) 0 → Q (.ref p) H2
theorem cut63 (ns : List Int) : cutV (ns.map V.int) none (some 63) = (ns.take 63).map V.int := by
  unfold cutV
  rw [List.map_take]
  show ((ns.map V.int).drop 0).take (min (63 : Int).toNat (ns.map V.int).length - 0) = _
  rw [List.drop_zero, Nat.sub_zero]
  have e : (63 : Int).toNat = 63 := rfl
  rw [e]
  by_cases h : (ns.map V.int).length ≤ 63
  · rw [Nat.min_eq_right h, List.take_of_length_le (Nat.le_refl _), List.take_of_length_le h]
  · rw [Nat.min_eq_left (by omega)]
theorem g__law_pen (T : Txt K mg) : Good P w K mg base 1 "_law_pen" [] (spPen K) := by
  obtain ⟨f, fd, hm, F⟩ := T.f__law_pen
  have ok : FnOk P w K mg base CX0 1 f fd ["_law_script"] (fun vs H Q _ => spPen K vs [] H Q) := by
    refine F.ok sc__law_pen (fun vs H Q E ⟨_, _, e1, _⟩ => by rw [e1]; rfl) fun cdv A outer s H vs Q E hr ⟨a, ns, ev, h1, kk⟩ => ⟨t__law_pen K, PSs.nox (bk__law_pen T f cdv A outer s H E hr), ?_⟩
    subst ev
    refine ⟨_, rfl, 63, rfl, a, ns.map V.int, rfl, h1, fun p1 hp1 => ?_⟩
    rw [cut63]
    refine ⟨p1, _, rfl, .inl (.inl (.inl upd_same)), fun p2 hp2 => ⟨by show (3 : Nat) ≤ sizeLine; decide, fun p3 hp3 => ?_⟩⟩
    have h12 : upd H p1 (.lst ((ns.take 63).map V.int)) p2 = none := hp2
    have x1 : Ex H (upd H p1 (.lst ((ns.take 63).map V.int))) := .new hp1
    have x2 := x1.trans (.new (o := .lst ((ns.take 63).map V.int)) hp2)
    have x3 := x2.trans (.new (o := .lst [V.ref p2, .int 0, .int 0]) hp3)
    have hp23 : p2 ≠ p3 := ne_of_none upd_same hp3
    exact kk p3 p2 _ x3 (x2.back hp3) ⟨0, 0, upd_same, (by rw [upd_ne hp23, upd_same]), hp23, by decide, by decide, by decide⟩
  refine ⟨f, hm, F.kp, fun A outer s H us ws vs zs Q hr e0 r rz hl h => ?_⟩
  cases ws with
  | cons _ _ => cases hl
  | nil =>
    cases rz
    exact fr_of_ok ok (F.bindsN fun _ _ _ _ _ _ us hl => match us, hl with | [_], _ => rfl) A outer s H us vs Q _ hr e0 r h
end
end CP
/-! part CpAF -/
set_option Elab.async false
set_option linter.all false
set_option maxRecDepth 100000
set_option maxHeartbeats 4000000
namespace CP
open PySem PySem.Spec PyProof.Rows L2 CPH
/-! ### _law_trial -/
def sg : List Str := ["G", "K", "P"]
def trS (n : Int) (ring : Bool) : List Str := if ring = true then ["GGP", "GKP", "GPP", "KGP", "KKP", "KPP", "PGP", "PKP", "PPP"] else if n = 1 then ["GG", "KG", "PG", "GK", "KK", "PK"] else
  ["GGG", "GKG", "GPG", "KGG", "KKG", "KPG", "PGG", "PKG", "PPG", "GGK", "GKK", "GPK", "KGK", "KKK", "KPK", "PGK", "PKK", "PPK"]
def ModeOk (n : Int) (ring : Bool) : Prop := (n = 1 ∧ ring = false) ∨ n = 2
def strsOf (d : Option D) : List Str := match d with
  | some (.lst ds) => (strsD ds).getD []
  | _ => []
def stdB (n : Int) (ring : Bool) : Bool := match m__law_standard [.int n, .bool ring, .bool true] with
  | some (.lst ds) => match strsD ds with
    | some l => l.all (fun z => (trS n ring).contains z) && !l.isEmpty && Nat.ble l.length 10
    | none => false
  | _ => false
theorem std_ok {n : Int} {ring : Bool} (h : ModeOk n ring) : stdB n ring = true := by
  rcases h with ⟨rfl, rfl⟩ | rfl
  · decide +kernel
  · cases ring <;> decide +kernel
theorem strsD_map : ∀ {ds : List D} {l : List Str}, strsD ds = some l → ds = l.map .str
  | [], _, h => by cases h; rfl
  | d :: ds, _, h => by
    cases d with
    | str z =>
      obtain ⟨js, h1, rfl⟩ := Option.map_eq_some_iff.mp h
      rw [strsD_map h1]
      rfl
    | _ => cases h
theorem std_eq {n : Int} {ring : Bool} (h : ModeOk n ring) : ∃ l : List Str, m__law_standard [.int n, .bool ring, .bool true] = some (.lst (l.map .str)) ∧ (∀ z ∈ l, z ∈ trS n ring) ∧ 0 < l.length ∧ l.length ≤ 10 := by
  have g := std_ok h
  unfold stdB at g
  split at g
  · rename_i ds hd
    split at g
    · rename_i l hl
      simp only [Bool.and_eq_true, List.all_eq_true] at g
      refine ⟨l, by rw [hd, strsD_map hl], fun z hz => ?_, ?_, Nat.le_of_ble_eq_true g.2⟩
      · have := g.1.1 z hz
        simpa using this
      · cases l with
        | nil => simp at g
        | cons a l => simp
    · cases g
  · cases g
def sigs : List Str := ["GKP", "GKPPPP", "PPPG", "PPPK", "GK"]
theorem join1 : ∀ s1 ∈ sg, ∀ l ∈ (["G", "K"] : List Str), Txt.join "" [s1] ++ l ∈ trS 1 false := by decide +kernel
theorem join2 : ∀ s1 ∈ sg, ∀ s2 ∈ sg, ∀ l ∈ (["G", "K"] : List Str), Txt.join "" [s1, s2] ++ l ∈ trS 2 false := by decide +kernel
theorem join3 : ∀ s1 ∈ sg, ∀ s2 ∈ sg, Txt.join "" [s1, s2] ++ "P" ∈ trS 2 true := by decide +kernel
theorem sig_ok : ∀ z ∈ sigs, z.length ≤ 6 ∧ 0 < z.length ∧ ∀ i : Nat, i < z.length → ∃ c, z.cps.toList[i]? = some c ∧ (⟨#[c]⟩ : Str) ∈ sg := by
  have h : ∀ z ∈ sigs, z.length ≤ 6 ∧ 0 < z.length ∧ ∀ i ∈ List.range z.length, (match z.cps.toList[i]? with
    | some c => sg.contains (⟨#[c]⟩ : Str)
    | none => false) = true := by decide +kernel
  intro z hz
  obtain ⟨a, b, c⟩ := h z hz
  refine ⟨a, b, fun i hi => ?_⟩
  have := c i (List.mem_range.mpr hi)
  split at this
  · rename_i c' e
    exact ⟨c', e, by simpa using this⟩
  · cases this
section
variable {P : Program} {w : World} {K : PySem.W.Frag} {mg : Str → Option Value} {base : Heap}
theorem sc__law_trial : FnScope ["_law_pen_here", "_law_size", "_law_is_ring", "_law_way", "_law_some", "_law_signs", "_law_last", "_law_k"] ["_law_pen_here", "_law_size", "_law_is_ring"] (defScope s__law_trial) := ⟨rfl, rfl, rfl, by decide +kernel, rfl, by decide +kernel, by decide +kernel⟩
def tlc__law_trial (K : PySem.W.Frag) : TE := (tLc (iRng1 (tCons (tVar 1) tNil)) (gName 7) tYes (tOp (rIx K) (tVar 5) (tU (spDr K) (tCons (tVar 0) (tCons (tCB (fun xs H Q => ∃ x n, xs = [x] ∧ LenV K x H n ∧ Q (.int n) H) (tCons (tVar 5) tNil)) tNil)) tNil)) [7])
def tl__law_trial (K : PySem.W.Frag) : TS := (tRet (tOp (fun x y H Q => ∃ i j, x = .str i ∧ y = .str j ∧ i.length + j.length ≤ sizeLine ∧ Q (.str (i ++ j)) H) (tBM K "str" (fun x xs H Q => ∃ a p, ∃ ys : List Str, x = .str a ∧ xs = [.ref p] ∧ (SqL K H p (ys.map V.str) ∨ SqT K H p (ys.map V.str)) ∧ (ys.map (·.length)).sum + ys.length * a.length ≤ 16777216 ∧ Q (.str (Txt.join a ys)) H) (tC (.str "")) (tCons (tLc (iRng1 (tCons (tVar 1) tNil)) (gName 7) tYes (tOp (rIx K) (tVar 5) (tU (spDr K) (tCons (tVar 0) (tCons (tCB (fun xs H Q => ∃ x n, xs = [x] ∧ LenV K x H n ∧ Q (.int n) H) (tCons (tVar 5) tNil)) tNil)) tNil)) [7]) tNil)) (tVar 6)))
def t__law_trial (K : PySem.W.Frag) : TS := (tSeq (tAsg (tU (spDr K) (tCons (tVar 0) (tCons (tC (.int 3)) tNil)) tNil) (gName 3)) (tSeq (tAsg (tU (spD (WK K) 0 (mP 3 m__law_standard)) (tCons (tVar 1) (tCons (tVar 2) (tCons (tC (.bl true)) tNil))) tNil) (gName 4)) (tSeq (tIfS (tTest (tOp rEq (tVar 3) (tC (.int 0)))) (tRet (tOp (rIx K) (tVar 4) (tU (spDr K) (tCons (tVar 0) (tCons (tCB (fun xs H Q => ∃ x n, xs = [x] ∧ LenV K x H n ∧ Q (.int n) H) (tCons (tVar 4) tNil)) tNil)) tNil))) tNext) (tSeq (tAsg (tOp (rIx K) (tLst (tCons (tC (.str "GKP")) (tCons (tC (.str "GKPPPP")) (tCons (tC (.str "PPPG")) (tCons (tC (.str "PPPK")) (tCons (tC (.str "GK")) tNil)))))) (tU (spDr K) (tCons (tVar 0) (tCons (tOp (rIx K) (tLst (tCons (tC (.int 5)) (tCons (tC (.int 2)) tNil))) (tOp (rI0 fun i j => .int (i - j)) (tVar 3) (tC (.int 1)))) tNil)) tNil)) (gName 5)) (tSeq (tAsg (tIf (tB (tVar 2)) (tC (.str "P")) (tOp (rIx K) (tC (.str "GK")) (tU (spDr K) (tCons (tVar 0) (tCons (tC (.int 2)) tNil)) tNil))) (gName 6)) (tRet (tOp (fun x y H Q => ∃ i j, x = .str i ∧ y = .str j ∧ i.length + j.length ≤ sizeLine ∧ Q (.str (i ++ j)) H) (tBM K "str" (fun x xs H Q => ∃ a p, ∃ ys : List Str, x = .str a ∧ xs = [.ref p] ∧ (SqL K H p (ys.map V.str) ∨ SqT K H p (ys.map V.str)) ∧ (ys.map (·.length)).sum + ys.length * a.length ≤ 16777216 ∧ Q (.str (Txt.join a ys)) H) (tC (.str "")) (tCons (tLc (iRng1 (tCons (tVar 1) tNil)) (gName 7) tYes (tOp (rIx K) (tVar 5) (tU (spDr K) (tCons (tVar 0) (tCons (tCB (fun xs H Q => ∃ x n, xs = [x] ∧ LenV K x H n ∧ Q (.int n) H) (tCons (tVar 5) tNil)) tNil)) tNil)) [7]) tNil)) (tVar 6))))))))
theorem bk__law_trial (T : Txt K mg) : BodyOk P w K mg base ["_law_pen_here", "_law_size", "_law_is_ring", "_law_way", "_law_some", "_law_signs", "_law_last", "_law_k"] "_law_trial" (defScope s__law_trial) (defBody s__law_trial) 2 (t__law_trial K) := fun f cdv A outer s H E hr =>
  (pss_cons (ps_set (i := 3) sc__law_trial.nd rfl (by first | exact Or.inl rfl | exact Or.inr rfl) (pe_u (g__law_draw T) (hr.mono (by decide)) (by rfl) (pa_cons (pv 0) (pa_cons pe_int pa_nil)))) (pss_cons (ps_set (i := 4) sc__law_trial.nd rfl (by first | exact Or.inl rfl | exact Or.inr rfl) (pe_u (g__law_standard T) (hr.mono (by decide)) (by rfl) (pa_cons (pv 1) (pa_cons (pv 2) (pa_cons pe_bl pa_nil))))) (pss_cons (ps_if (pt_cmpR op_eq (pv 3) pe_int (nomark _)) (pss_one (ps_ret (pe_ix ix_seq (pv 4) (pe_u (g__law_draw T) (hr.mono (by decide)) (by rfl) (pa_cons (pv 0) (pa_cons (pe_callB call_len (by rfl) T.b_len (by decide +kernel) (pa_cons (pv 4) pa_nil)) pa_nil))) (fun _ _ => rfl)))) pss_nil) (pss_cons (ps_set (i := 5) sc__law_trial.nd rfl (by first | exact Or.inl rfl | exact Or.inr rfl) (pe_ix ix_seq (pe_lst (pa_cons pe_str (pa_cons pe_str (pa_cons pe_str (pa_cons pe_str (pa_cons pe_str pa_nil)))))) (pe_u (g__law_draw T) (hr.mono (by decide)) (by rfl) (pa_cons (pv 0) (pa_cons (pe_ix ix_seq (pe_lst (pa_cons pe_int (pa_cons pe_int pa_nil))) (pe_op op_sub (pv 3) pe_int) (fun _ _ => rfl)) pa_nil))) (fun _ _ => rfl))) (pss_cons (ps_set (i := 6) sc__law_trial.nd rfl (by first | exact Or.inl rfl | exact Or.inr rfl) (pe_ifExp (pt_val (pv 2)) pe_str (pe_ix ix_seq pe_str (pe_u (g__law_draw T) (hr.mono (by decide)) (by rfl) (pa_cons (pv 0) (pa_cons pe_int pa_nil))) (fun _ _ => rfl)))) (pss_one (ps_ret (pe_op op_add_str (pe_bm PySem.F.plainAttrs_str PySem.F.slot_str_join PySem.F.type_str_join mt_join pe_str (pa_cons (pe_lc (own := [("_law_k", 7)]) rfl sc__law_trial.nd (pi_range1 (by rfl) T.b_range (pa_cons (pv 1) pa_nil)) (blkOk_by (by rfl)) (fun _ _ _ _ _ => (pg_name (i := 7) sc__law_trial.nd rfl (by first | exact Or.inl rfl | exact Or.inr rfl))) (fun _ _ _ _ _ => pts_nil) (fun _ _ _ _ _ => (pe_ix ix_seq (pv 5) (pe_u (g__law_draw T) (hr.mono (by decide)) (by rfl) (pa_cons (pv 0) (pa_cons (pe_callB call_len (by rfl) T.b_len (by decide +kernel) (pa_cons (pv 5) pa_nil)) pa_nil))) (fun _ _ => rfl)))) pa_nil)) (pv 6)))))))))
def spTrial (K : PySem.W.Frag) : SpK := fun vs zs H Q => ∃ (p q : Addr) (n : Int) (ring : Bool) (N : Int) (ns : List Int), vs = [.ref p, .int n, .bl ring] ∧ ModeOk n ring ∧ PenAt K H p q ns N ∧ ns.length ≤ 63 ∧ N < 99000 ∧
  ∀ z H2, z ∈ trS n ring → ExB p H H2 → PenAt K H2 p q ns (N + 6) → Q (.str z) H2
theorem ModeOk.le {n : Int} {ring : Bool} (h : ModeOk n ring) : 1 ≤ n ∧ n ≤ 2 := by
  rcases h with ⟨rfl, _⟩ | rfl
  · exact ⟨by decide, by decide⟩
  · exact ⟨by decide, by decide⟩
theorem tr_join {n : Int} {ring : Bool} (hm : ModeOk n ring) {ss : List Str} {last : Str} (h : ss.length = n.toNat) (hs : ∀ z ∈ ss, z ∈ sg) (hl : last ∈ (if ring = true then ["P"] else ["G", "K"] : List Str)) : Txt.join "" ss ++ last ∈ trS n ring ∧ (ss.map (·.length)).sum ≤ 4 ∧ (Txt.join "" ss).length ≤ 4 ∧ last.length ≤ 4 := by
  have hsl : ∀ z ∈ sg, z.length = 1 := by decide
  have one : ∀ l ∈ (["G", "K"] : List Str), l.length = 1 := by decide
  have j1 : ∀ s1 ∈ sg, (Txt.join "" [s1]).length ≤ 4 := by decide +kernel
  have j2 : ∀ s1 ∈ sg, ∀ s2 ∈ sg, (Txt.join "" [s1, s2]).length ≤ 4 := by decide +kernel
  rcases hm with ⟨rfl, rfl⟩ | rfl
  · match ss, h with
    | [s1], _ =>
      have g1 := hs s1 (by simp)
      exact ⟨join1 s1 g1 last hl, by simp [hsl s1 g1], j1 s1 g1, by rw [one last hl]; decide⟩
  · match ss, h with
    | [s1, s2], _ =>
      have g1 := hs s1 (by simp)
      have g2 := hs s2 (by simp)
      cases ring with
      | true =>
        have : last = "P" := by simpa using hl
        subst this
        exact ⟨join3 s1 g1 s2 g2, by simp [hsl s1 g1, hsl s2 g2], j2 s1 g1 s2 g2, by decide⟩
      | false => exact ⟨join2 s1 g1 s2 g2 last hl, by simp [hsl s1 g1, hsl s2 g2], j2 s1 g1 s2 g2, by rw [one last hl]; decide⟩
theorem rd_tail {p q : Addr} {n : Int} {ring : Bool} {M : Int} {ns : List Int} {H : Hp} {Q : VK} {v3 v4 v7 : Option V} {sgn last : Str} (hm : ModeOk n ring) (h1 : PenAt K H p q ns M) (h2 : ns.length ≤ 63) (h3 : M < 99900) (hs : sgn ∈ sigs) (hl : last ∈ (if ring = true then ["P"] else ["G", "K"] : List Str))
    (kk : ∀ z H2, z ∈ trS n ring → ExB p H H2 → PenAt K H2 p q ns (M + 2) → Q (.str z) H2) :
    tl__law_trial K { nx := fun _ H' => Q .non H', rt := Q } [some (.ref p), some (.int n), some (.bl ring), v3, v4, some (.str sgn), some (.str last), v7] H := by
  obtain ⟨s1, s2, s3⟩ := sig_ok sgn hs
  have hn := hm.le
  have hq : ∃ o, H q = some o := by
    obtain ⟨a, r, g, g2, _⟩ := h1
    exact ⟨_, g2⟩
  have hpp : ∃ o, H p = some o := by
    obtain ⟨a, r, g, g2, _⟩ := h1
    exact ⟨_, g⟩
  refine ⟨rfl, _, rfl, n, rfl, by omega, by omega, fun Dl hD => ?_⟩
  have hpD : p ≠ Dl := ne_of_none hpp.choose_spec hD
  have hqD : q ≠ Dl := ne_of_none hq.choose_spec hD
  refine lc_it (n := n.toNat) (walk_range (lo := 0) (n := n.toNat)) (fun i H' => ∃ ss : List Str, H' Dl = some (.lst (ss.map V.str)) ∧ ss.length = i ∧ (∀ z ∈ ss, z ∈ sg) ∧ ExB p H H' ∧ PenAt K H' p q ns (M + i)) ⟨[], upd_same, rfl, fun z hz => (by cases hz), ExB.of (.new hD), (h1.on (.new hD)).mono (by omega)⟩ (fun _ _ _ _ => trivial) (fun i x H' H'' hi ⟨ss, q1, q2, q3, q4, q5⟩ ⟨y1, y2⟩ => ?_) fun H' ⟨ss, q1, q2, q3, q4, q5⟩ => ?_
  · subst y1 y2
    refine ⟨rfl, _, rfl, _, rfl, _, rfl, _, sgn.length, rfl, ⟨Nat.le_trans s1 (by decide), rfl⟩, p, q, (sgn.length : Int), M + i, ns, rfl, q5, h2, by omega, by omega, by omega, fun d H3 d1 d2 e3 p3 => ?_⟩
    obtain ⟨c, hc, hcs⟩ := s3 d.toNat (by omega)
    refine .inr (.inr ⟨sgn, d, c, rfl, rfl, Nat.le_trans s1 (by decide), ?_, ?_⟩)
    · rw [show d = ((d.toNat : Nat) : Int) by omega]
      exact atI_nat hc
    · have hDl : Dl ≠ p := Ne.symm hpD
      refine ⟨ss.map V.str, e3 _ _ hDl q1, ?_, ss ++ [⟨#[c]⟩], ?_, ?_, ?_, ?_, ?_⟩
      · rw [List.length_map, q2]
        exact Nat.lt_of_lt_of_le (show i < 10 by omega) (by decide)
      · rw [upd_same, List.map_append]
        rfl
      · rw [List.length_append, q2]
        rfl
      · intro z hz
        rcases List.mem_append.mp hz with h | h
        · exact q3 z h
        · rw [List.mem_singleton.mp h]
          exact hcs
      · intro a o ha hH
        by_cases haD : a = Dl
        · subst haD
          rw [hD] at hH
          cases hH
        · rw [upd_ne haD]
          exact e3 a o ha (q4 a o ha hH)
      · obtain ⟨a, r, g1, g2, g3, g4, g5, g6⟩ := p3
        exact ⟨a, r, by rw [upd_ne hpD]; exact g1, by rw [upd_ne hqD]; exact g2, g3, g4, by omega, g6⟩
  · obtain ⟨t1, t2, t3, t4⟩ := tr_join hm q2 q3 hl
    refine ⟨"", Dl, ss, rfl, rfl, .inl (.inl (.inl q1)), ?_, _, rfl, _, _, rfl, rfl, ?_, ?_⟩
    · have : ("" : Str).length = 0 := rfl
      rw [this]
      omega
    · exact Nat.le_trans (show _ ≤ 8 by omega) (by decide)
    · exact kk _ H' t1 q4 (q5.mono (by omega))
theorem rd__law_trial {p q : Addr} {n : Int} {ring : Bool} {N : Int} {ns : List Int} {H : Hp} {Q : VK} (hm : ModeOk n ring) (h1 : PenAt K H p q ns N) (h2 : ns.length ≤ 63) (h3 : N < 99000)
    (kk : ∀ z H2, z ∈ trS n ring → ExB p H H2 → PenAt K H2 p q ns (N + 6) → Q (.str z) H2) :
    t__law_trial K { nx := fun _ H' => Q .non H', rt := Q } (L2.start ["_law_pen_here", "_law_size", "_law_is_ring", "_law_way", "_law_some", "_law_signs", "_law_last", "_law_k"] [.ref p, .int n, .bl ring]) H := by
  refine ⟨_, rfl, p, q, 3, N, ns, rfl, h1, h2, by omega, by decide, by decide, fun d H1 d1 d2 e1 p1 => ?_⟩
  obtain ⟨l, hl, l1, l2, l3⟩ := std_eq hm
  refine ⟨_, rfl, _, rfl, fun _ => none, [.int n, .bool ring, .bool true], [], _, (fun a o h => by cases h), .cons (.int _) (.cons (.bl _) (.cons (.bl _) .nil)), .nil, (show mP 3 m__law_standard _ _ = some _ from hl), fun v F2 H2 e2 r2 => ?_⟩
  have p2 := p1.on e2.h
  cases r2 with
  | @lst a xs _ ha ra =>
    have hHa : H2 a = some (.lst xs) := e2.s _ _ ha
    have hap : a ≠ p := by
      obtain ⟨a', r, g, _⟩ := p1
      rintro rfl
      have := e2.u _ _ g rfl
      rw [ha] at this
      cases this
    have hxs : xs.length = l.length := by rw [ra.length, List.length_map]
    refine ⟨_, rfl, rfl, _, rfl, ?_⟩
    have e12 : ExB p H H2 := e1.trans (ExB.of e2.h)
    by_cases hd : d = 0
    · subst hd
      refine iteT ⟨_, rfl, _, rfl, _, rfl, _, xs.length, rfl, .inl ⟨xs, .inl (.inl hHa), rfl⟩, p, q, (xs.length : Int), N + 1, ns, rfl, p2, h2, by omega, by omega, by omega, fun d' H3 a1 a2 e3 p3 => ?_⟩
      obtain ⟨j, rfl⟩ : ∃ j : Nat, d' = j := ⟨d'.toNat, by omega⟩
      have hi : j < xs.length := by omega
      obtain ⟨d0, g1, g2⟩ := ra.get' (List.getElem?_eq_getElem hi)
      rw [List.getElem?_map] at g1
      obtain ⟨z, hz, rfl⟩ := Option.map_eq_some_iff.mp g1
      refine .inl ⟨a, xs, (j : Int), xs[j], rfl, rfl, .inl (.inl (e3 _ _ hap hHa)), atI_nat (List.getElem?_eq_getElem hi), ?_⟩
      · generalize xs[j] = w0 at g2 ⊢
        cases g2
        exact kk z H3 (l1 z (List.mem_of_getElem? hz)) (e12.trans e3) (p3.mono (by omega))
    · have hdf : decide (V.int d = V.int 0) = false := decide_eq_false (fun h => hd (by injection h))
      rw [hdf]
      refine iteF ?_
      refine ⟨by show (5 : Nat) ≤ sizeLine; decide, fun l5 hl5 => ?_⟩
      have hx5 : ExB p H2 (upd H2 l5 (.lst [.str "GKP", .str "GKPPPP", .str "PPPG", .str "PPPK", .str "GK"])) := ExB.of (.new hl5)
      refine ⟨_, rfl, by show (2 : Nat) ≤ sizeLine; decide, fun l6 hl6 => ?_⟩
      have h56 : l5 ≠ l6 := ne_of_none upd_same hl6
      have hp5 : p ≠ l5 := by
        obtain ⟨a', r, g, _⟩ := p2
        exact ne_of_none g hl5
      have hp6 : p ≠ l6 := by
        obtain ⟨a', r, g, _⟩ := p2.on (.new hl5)
        exact ne_of_none g hl6
      have hx6 := hx5.trans (ExB.of (p := p) (.new (o := .lst [.int 5, .int 2]) hl6))
      have p6 := (p2.on (.new (o := .lst [.str "GKP", .str "GKPPPP", .str "PPPG", .str "PPPK", .str "GK"]) hl5)).on (.new (o := .lst [.int 5, .int 2]) hl6)
      have hbound : ∃ b : Int, atI ([.int 5, .int 2] : List V) (d - 1) = some (.int b) ∧ 0 < b ∧ b ≤ 5 := by
        have : d = 1 ∨ d = 2 := by omega
        rcases this with rfl | rfl
        · exact ⟨5, rfl, by decide, by decide⟩
        · exact ⟨2, rfl, by decide, by decide⟩
      obtain ⟨b, hb1, hb2, hb3⟩ := hbound
      refine ⟨_, rfl, d, 1, rfl, rfl, .inl ⟨l6, _, d - 1, .int b, rfl, rfl, .inl (.inl upd_same), hb1, ?_⟩⟩
      refine ⟨p, q, b, N + 1, ns, rfl, p6, h2, by omega, hb2, by omega, fun d' H7 a1 a2 e7 p7 => ?_⟩
      have h5' : H7 l5 = some (.lst [.str "GKP", .str "GKPPPP", .str "PPPG", .str "PPPK", .str "GK"]) := e7 _ _ (Ne.symm hp5) (by rw [upd_ne h56, upd_same])
      have hsig : ∃ sgn, atI ([.str "GKP", .str "GKPPPP", .str "PPPG", .str "PPPK", .str "GK"] : List V) d' = some (.str sgn) ∧ sgn ∈ sigs := by
        have : d' = 0 ∨ d' = 1 ∨ d' = 2 ∨ d' = 3 ∨ d' = 4 := by omega
        rcases this with rfl | rfl | rfl | rfl | rfl
        · exact ⟨"GKP", rfl, by decide⟩
        · exact ⟨"GKPPPP", rfl, by decide⟩
        · exact ⟨"PPPG", rfl, by decide⟩
        · exact ⟨"PPPK", rfl, by decide⟩
        · exact ⟨"GK", rfl, by decide⟩
      obtain ⟨sgn, hs1, hs2⟩ := hsig
      refine .inl ⟨l5, _, d', .str sgn, rfl, rfl, .inl (.inl h5'), hs1, ?_⟩
      have e17 : ExB p H H7 := (e12.trans hx6).trans e7
      refine ⟨_, rfl, ring, rfl, ?_⟩
      cases ring with
      | true => exact rd_tail hm p7 h2 (by omega) hs2 (by simp) fun z H8 c1 c2 c3 => kk z H8 c1 (e17.trans c2) (c3.mono (by omega))
      | false =>
        refine ⟨_, rfl, p, q, 2, N + 1 + 1, ns, rfl, p7, h2, by omega, by decide, by decide, fun d8 H8 a1 a2 e8 p8 => ?_⟩
        have hlast : ∃ c, atI (("GK" : Str).cps.toList) d8 = some c ∧ (⟨#[c]⟩ : Str) ∈ (["G", "K"] : List Str) := by
          have : d8 = 0 ∨ d8 = 1 := by omega
          rcases this with rfl | rfl
          · exact ⟨71, by decide +kernel, by decide +kernel⟩
          · exact ⟨75, by decide +kernel, by decide +kernel⟩
        obtain ⟨c, hc1, hc2⟩ := hlast
        refine .inr (.inr ⟨"GK", d8, c, rfl, rfl, by show (2 : Nat) ≤ sizeLine; decide, hc1, ?_⟩)
        exact rd_tail hm p8 h2 (by omega) hs2 hc2 fun z H9 c1 c2 c3 => kk z H9 c1 ((e17.trans e8).trans c2) (c3.mono (by omega))
theorem g__law_trial (T : Txt K mg) : Good P w K mg base 3 "_law_trial" [] (spTrial K) := by
  obtain ⟨f, fd, hm, F⟩ := T.f__law_trial
  have ok : FnOk P w K mg base CX0 3 f fd ["_law_pen_here", "_law_size", "_law_is_ring"] (fun vs H Q _ => spTrial K vs [] H Q) := by
    refine F.ok sc__law_trial (fun vs H Q E ⟨_, _, _, _, _, _, e1, _⟩ => by rw [e1]; rfl) fun cdv A outer s H vs Q E hr ⟨p, q, n, ring, N, ns, ev, hmo, h1, h2, h3, kk⟩ => ⟨t__law_trial K, PSs.nox (bk__law_trial T f cdv A outer s H E hr), ?_⟩
    subst ev
    exact rd__law_trial hmo h1 h2 h3 kk
  refine ⟨f, hm, F.kp, fun A outer s H us ws vs zs Q hr e0 r rz hl h => ?_⟩
  cases ws with
  | cons _ _ => cases hl
  | nil =>
    cases rz
    exact fr_of_ok ok (F.bindsN fun _ _ _ _ _ _ us hl => match us, hl with | [_, _, _], _ => rfl) A outer s H us vs Q _ hr e0 r h
end
end CP
/-! part CpAG -/
set_option Elab.async false
set_option linter.all false
set_option maxRecDepth 100000
set_option maxHeartbeats 4000000
namespace CP
open PySem PySem.Spec PyProof.Rows L2 CPH
section
variable {P : Program} {w : World} {K : PySem.W.Frag} {mg : Str → Option Value} {base : Heap}
theorem chain_cj (D : Addr) (doc pm : Value) (an : Option Addr) (cdv ct a b c r s u : Value) : KwChain D [("outputs", u)] (bindArgs (PySem.W.fnOf "check_judgement" "check_judgement" (defArgs s_check_judgement) (defBody s_check_judgement) (defScope s_check_judgement) .none (.ref D) doc pm an cdv ct) ⟨[a, b, c], [("ring", r), ("stuck", s)]⟩)
    [("n", a), ("trials", b), ("thing", c), ("outputs", u), ("ring", r), ("stuck", s)] := ⟨_, _, _, _, _, _, rfl, rfl, rfl⟩
def mCJ : List D → List D → Option D := fun ds es => match ds, es with
  | [a, b, c], [r, s] => m_check_judgement [a, b, c, .non, r, s]
  | _, _ => none
theorem g2_check_judgement (T : Txt K mg) : Good P w K mg base 6 "check_judgement" ["ring", "stuck"] (spD (WK K) 2 mCJ) := by
  obtain ⟨f, fd, hm, F⟩ := T.f_check_judgement
  have ok : FnOk P w K mg base CX0 6 f fd ["n", "trials", "thing", "outputs", "ring", "stuck"] (spO (WK K) 6 m_check_judgement) := ok_check_judgement T F
  refine ⟨f, hm, F.kp, fun A outer s H us ws vs zs Q hr e0 r rz hl ⟨G, ds, es, d, e, r1, r2, q, kk⟩ => ?_⟩
  obtain ⟨oc, od, dV, kV, doc, pm, an, cdv, ct, osl, rfl, lk, hcd, hD, hK⟩ := F.ex
  obtain rfl : dV = .none := by
    rcases hD with ⟨_, h⟩ | ⟨h, _⟩
    · exact h
    · exact absurd rfl h
  rcases hK with h | ⟨D, rfl, hq⟩
  · cases h
  · have KX : K.In s.heap := e0.mod.kin.keeps fun b o e => (e0.bs b o e).1
    obtain ⟨u, hu, ru⟩ := hq ("outputs", .non) (by simp)
    cases ru
    unfold mCJ at q
    split at q
    · obtain ⟨v1, v2, v3, rfl, b1, b2, b3⟩ : ∃ v1 v2 v3, vs = [v1, v2, v3] ∧ Rep (WK K) G v1 _ ∧ Rep (WK K) G v2 _ ∧ Rep (WK K) G v3 _ := by
        cases r1 with
        | cons b1 r1 => cases r1 with
          | cons b2 r1 => cases r1 with
            | cons b3 r1 => cases r1; exact ⟨_, _, _, rfl, b1, b2, b3⟩
      obtain ⟨z1, z2, rfl, d1, d2⟩ : ∃ v1 v2, zs = [v1, v2] ∧ Rep (WK K) G v1 _ ∧ Rep (WK K) G v2 _ := by
        cases r2 with
        | cons b1 r1 => cases r1 with
          | cons b2 r1 => cases r1; exact ⟨_, _, rfl, b1, b2⟩
      obtain ⟨u1, u2, u3, rfl, a1, a2, a3⟩ : ∃ u1 u2 u3, us = [u1, u2, u3] ∧ RelV v1 u1 ∧ RelV v2 u2 ∧ RelV v3 u3 := by
        cases r with
        | cons b1 r => cases r with
          | cons b2 r => cases r with
            | cons b3 r => cases r; exact ⟨_, _, _, rfl, b1, b2, b3⟩
      obtain ⟨w1, w2, rfl, c1, c2⟩ : ∃ u1 u2, ws = [u1, u2] ∧ RelV z1 u1 ∧ RelV z2 u2 := by
        cases rz with
        | cons b1 r => cases r with
          | cons b2 r => cases r; exact ⟨_, _, rfl, b1, b2⟩
      have b : BindsTo s (PySem.W.fnOf "check_judgement" "check_judgement" (defArgs s_check_judgement) (defBody s_check_judgement) (defScope s_check_judgement) .none (.ref D) doc pm an cdv ct) ⟨[u1, u2, u3], [("ring", w1), ("stuck", w2)]⟩ ((["n", "trials", "thing", "outputs", "ring", "stuck"] : List Str).zip [u1, u2, u3, .none, w1, w2]) :=
        BindsTo.of_looks fun M => KwChain.looks KX (fun q hq' => by
          rw [List.mem_singleton.mp hq']
          exact hu) (chain_cj D doc pm an cdv ct u1 u2 u3 w1 w2 .none)
      exact ok.run A outer s H _ [u1, u2, u3, .none, w1, w2] [v1, v2, v3, .non, z1, z2] Q _ hr e0 b (.cons a1 (.cons a2 (.cons a3 (.cons rfl (.cons c1 (.cons c2 .nil)))))) ⟨G, _, d, e, .cons b1 (.cons b2 (.cons b3 (.cons .non (.cons d1 (.cons d2 .nil))))), rfl, q, kk⟩
    · cases q
end
end CP
/-! part CpAH0 -/
set_option Elab.async false
set_option linter.all false
set_option maxRecDepth 100000
set_option maxHeartbeats 4000000
namespace CP
open PySem PySem.Spec PyProof.Rows L2 CPH
/-! ### repr of a list or of a truth value, where the guards are known -/
def okP (d : PyData) : Bool := d.canLay0 && d.showable && Nat.ble d.depth 60 && Nat.ble d.shown.length 1000000
def rRepr (K : PySem.W.Frag) : List V → Hp → VK → Prop := fun xs H Q => ∃ v d, xs = [v] ∧ ((∃ a, v = .ref a) ∨ ∃ b, v = .bl b) ∧ Dp K H v d ∧ okP d = true ∧ Q (.str d.shown) H
theorem call_reprG {X : Cx} (hg : X.A.guards = some []) (hu : X.A.units + 65 < cLine) : CallR X (.builtin "repr") (rRepr X.K) := by
  intro pins s σ H xs us Q I r h
  obtain ⟨v, d, rfl, hv, hd, ho, q⟩ := h
  obtain ⟨u, rfl, rv⟩ := vals1 r
  unfold okP at ho
  simp only [Bool.and_eq_true] at ho
  obtain ⟨⟨⟨o1, o2⟩, o3⟩, o4⟩ := ho
  have o3' := Nat.le_of_ble_eq_true o3
  have o4' := Nat.le_of_ble_eq_true o4
  have hs : sizeLine = 16777216 := sizeLine_eq
  obtain ⟨as, rd⟩ := Dp.reads I d v u hd rv
  rcases hv with ⟨a, rfl⟩ | ⟨b, rfl⟩
  · cases rv
    exact repr_of_reads' (h₀ := s.heap) rd o2 (PyData.noDict_hsm (PyData.hasDict_of_canLay d o1)) hg (by omega) (fun _ _ e => e) (fun h' t tk hk => ⟨.str d.shown, H, I.kept hk, ⟨_, rfl⟩, q⟩) (by omega)
  · cases rv
    cases hd
    refine PySem.P.repr_of_bool ⟨.str (PyData.shown (.bool b)), H, I.tok _, ⟨s.toks, ?_⟩, q⟩
    simp only [PyData.shown]
def isRB : D → Bool
  | .tup _ => true
  | .lst _ => true
  | .bool _ => true
  | _ => false
def cRepr (ds : List D) : Option D := match ds with
  | [d] => if (isRB d && okP (py d)) = true then some (.str (py d).shown) else none
  | _ => none
section
variable {W : Wd}
theorem cs_repr : CallS W (rRepr W.K) cRepr := fun F H vs ds d e r q Q k => by
  unfold cRepr at q
  split at q
  · split at q
    · rename_i d0 hc
      rw [Bool.and_eq_true] at hc
      cases q
      obtain ⟨v, rfl, rv⟩ := r.one
      have hl : (py d0).canLay0 = true := by
        have := hc.2
        unfold okP at this
        simp only [Bool.and_eq_true] at this
        exact this.1.1.1
      refine ⟨v, py d0, rfl, ?_, rv.dp e hl, hc.2, k _ F H (.refl e) (.str _)⟩
      have h1 := hc.1
      cases d0 with
      | tup ds =>
        obtain ⟨a, _, rfl, _⟩ := rv.tup e
        exact .inl ⟨a, rfl⟩
      | lst ds =>
        obtain ⟨a, _, rfl, _⟩ := rv.lst e
        exact .inl ⟨a, rfl⟩
      | bool b =>
        obtain rfl := rv.bl
        exact .inr ⟨b, rfl⟩
      | _ => cases h1
    · cases q
  · cases q
/-! ### list.index of an int -/
def allI : List D → Bool
  | [] => true
  | .int _ :: r => allI r
  | _ :: _ => false
def idxI (i : Int) : List D → Option Nat
  | [] => none
  | .int j :: r => if j = i then some 0 else (idxI i r).map (· + 1)
  | _ :: _ => none
def cIndex (x : D) (ds : List D) : Option D := match x, ds with
  | .lst es, [.int i] => if allI es = true then (idxI i es).map fun n => .int (n : Nat) else none
  | _, _ => none
theorem allI_vs {F : Hp} : ∀ {es : List D} {xs : List V}, allI es = true → Reps W F xs es → ∃ js : List Int, xs = js.map V.int ∧ es = js.map D.int
  | [], _, _, .nil => ⟨[], rfl, rfl⟩
  | d :: es, _, h, .cons rd r => by
    cases d with
    | int i =>
      cases rd
      obtain ⟨js, rfl, rfl⟩ := allI_vs (es := es) h r
      exact ⟨i :: js, rfl, rfl⟩
    | _ => cases h
theorem idx_at {i : Int} : ∀ {js : List Int} {n : Nat}, idxI i (js.map D.int) = some n → js[n]? = some i ∧ ∀ (m : Nat) (z : Int), m < n → js[m]? = some z → z ≠ i
  | [], _, h => by cases h
  | j :: js, n, h => by
    simp only [List.map_cons, idxI] at h
    split at h
    · cases h
      rename_i e
      subst e
      exact ⟨rfl, fun m z hm => absurd hm (Nat.not_lt_zero m)⟩
    · obtain ⟨k, hk, rfl⟩ := Option.map_eq_some_iff.mp h
      obtain ⟨a, b⟩ := idx_at hk
      refine ⟨by simpa using a, fun m z hm hz => ?_⟩
      cases m with
      | zero =>
        rename_i hne
        cases hz
        exact hne
      | succ m => exact b m z (by omega) (by simpa using hz)
theorem mts_index : MtS W "list" (rIndex W.K) cIndex := fun F H v a vs ds d e ra r q Q k => by
  unfold cIndex at q
  split at q
  · rename_i es i
    split at q
    · rename_i hc
      obtain ⟨n, hn, rfl⟩ := Option.map_eq_some_iff.mp q
      obtain ⟨u, rfl, rv⟩ := r.one
      obtain rfl := rv.int
      obtain ⟨p, xs, rfl, h1, h2⟩ := ra.lst e
      obtain ⟨js, rfl, rfl⟩ := allI_vs hc h2
      obtain ⟨g1, g2⟩ := idx_at hn
      refine ⟨p, js.map V.int, .int i, n, .int i, rfl, rfl, .inl (.inl h1), rfl, ?_, ?_, by simp [eqV], fun m z hm hz => ?_, k _ F H (.refl e) (.int _)⟩
      · rw [List.all_eq_true]
        intro x hx
        obtain ⟨j, _, rfl⟩ := List.mem_map.mp hx
        rfl
      · rw [List.getElem?_map, g1]
        rfl
      · rw [List.getElem?_map] at hz
        obtain ⟨j, hj, rfl⟩ := Option.map_eq_some_iff.mp hz
        have := g2 m j hm hj
        simp [eqV, this]
    · cases q
  · cases q
end
/-! ### defs that are called where the guards are known -/
section
variable {P : Program} {w : World} {K : PySem.W.Frag} {mg : Str → Option Value} {base : Heap}
structure FnG (P : Program) (w : World) (K : PySem.W.Frag) (mg : Str → Option Value) (base : Heap) (k : Nat) (f : Addr) (n : Nat) (sp : List V → Hp → VK → Prop) : Prop where
  run : ∀ (A : Around) (outer : List PySem.Env) (s : Shared) (H : Hp) (us : List Value) (vs : List V) (Q : VK), A.guards = some [] → Room k A → Env0 P w K mg base A outer s H → us.length = n → Vals vs us → sp vs H Q →
    codeAny (model P w) A (.call (.ref f) ⟨us, []⟩) (CR CX0 outer P w H s Q fun _ _ _ => False) s
theorem okG {x qual : Str} {params : Arguments} {body : List Stmt} {scope : Scope} {f : Addr} {fd : FuncData} {N ps : List Str} {k : Nat} {sp : List V → Hp → VK → Prop}
    (F : FunD K x qual params body scope [] [] f fd) (S : FnScope N ps scope) (hb : Binds K fd ps [])
    (run : ∀ (cdv : Value) (A : Around) (outer : List PySem.Env) (s : Shared) (H : Hp) (vs : List V) (Q : VK), A.guards = some [] →
      Room k (A.deeper (envOfC qual scope s.heap.objs.size f cdv)) → sp vs H Q →
      ∃ t, PSs (cxOf CX0 P w K mg base N qual scope f cdv A outer s H fun _ _ _ => False) body t ∧ t { nx := fun _ H' => Q .non H', rt := Q } (start N vs) H) :
    FnG P w K mg base (k + 1) f ps.length sp := by
  obtain ⟨oc, od, dV, kV, doc, pm, an, cdv, ct, osl, rfl, lk, hcd, _, _⟩ := F.ex
  refine ⟨fun A outer s H us vs Q hg hr e0 hu rv hs => ?_⟩
  have held : K.In s.heap := by
    refine e0.mod.kin.keeps ?_
    intro b o e
    exact (e0.bs b o e).1
  have limited : s.heap.NoLimit := by
    refine e0.mod.nolimit.keeps ?_
    intro b o e
    exact (e0.bs b o e).1
  have bnd := hb s us held
    (by rw [List.append_nil]; exact hu)
  rw [List.append_nil] at bnd
  refine codeAny_call_function hr.depth (held _ _ lk) rfl
    S.co S.gen rfl (PySem.W.codeRec_of held hcd)
    (bnd _ _ _ _ ?_)
  refine wpAny_newFunctionEnv_cells S.kind ?_ ?_
  · rintro ⟨n, v⟩ mem
    cases S.par n (List.of_mem_zip mem).1 with
    | inl q => exact Or.inl q
    | inr q => exact Or.inr ⟨q,
        PySem.W.cellsFrom_some _ _ _ (.inl q)⟩
  · intro env he s1 laid
    subst he
    refine ⟨limited.keeps laid.toInCall.keep, codeAny_func ?_⟩
    obtain ⟨t, pss, ht⟩ := run cdv A outer s H vs Q hg (hr.deeper _) hs
    have inv := inv_start (CX := CX0) (P := P) (N := N)
      (E := fun _ _ _ => False) S hr.hd e0 (rv.length.trans hu)
      rv laid
    refine wpAny_mono (pss.run [] s1 (start N vs) H _ inv ht) ?_
      (fun _ _ h => h)
    intro fl s' got
    match fl, got with
    | .ret u, ⟨v, _, H2, j, r2, q2⟩ => exact ⟨v, H2, j.os, j.bare, j.base,
        j.hok, r2, q2⟩
    | .next, ⟨_, H2, j, q2⟩ => exact ⟨.non, H2, j.os, j.bare, j.base,
        j.hok, rfl, q2⟩
    | .brk, ⟨_, _, _, q2⟩ => exact q2.elim
    | .cont, ⟨_, _, _, q2⟩ => exact q2.elim
/-- called by position from a frame whose guards are known -/
def GoodG (P : Program) (w : World) (K : PySem.W.Frag) (mg : Str → Option Value) (base : Heap) (k : Nat) (x : Str) (n : Nat) (sp : List V → Hp → VK → Prop) : Prop :=
  ∃ f, mg x = some (.ref f) ∧ PySem.W.keepIn K (.ref f) = true ∧ FnG P w K mg base k f n sp
end
def tG (n : Nat) (sp : List V → Hp → VK → Prop) (t : TA) : TE := fun σ H Q => t σ H fun vs H1 => vs.length = n ∧ sp vs H1 Q
section
variable {X : Cx} {k n : Nat} {x : Str} {sp : List V → Hp → VK → Prop} {p pos : Pos} {e : Expr} {es : List Expr} {t : TA}
theorem pe_uG (G : GoodG X.prog X.w X.K X.mg X.base k x n sp) (guards : X.A.guards = some []) (hr : Room k X.A) (hg : Gl X x) (ha : PA X (e :: es) t) (hd : (x == ("__debug__" : Str)) = false := by rfl)
    (he : starEach (e :: es) X.env = (false, eval e X.env) :: starEach es X.env := by rfl) (hpl : (backTo pos (starEach es X.env)).any (·.1) = false := by rfl) :
    PE X (.Call (.Name x p) (e :: es) [] pos) (tG n sp t) := by
  obtain ⟨f, hm, hk, F⟩ := G
  refine ⟨fun pins s σ H Q I h => wpAny_Call_Name_kw (ld_glob I hg hm ?_ hd)⟩
  refine PySem.W.callWith_K (h₀ := X.base) I.ok.mod.kin hk (thn (ha.run pos pins s σ H _ I h) fun us s1 ⟨vs, H1, I1, r, hl, q⟩ => ⟨I1.kIn, ?_⟩) he hpl
  refine wpAny_call (codeAny_mono (F.run X.A X.stack s1 H1 us vs Q guards hr I1.env0 (r.length.symm.trans hl) r q) fun c s' hq => ?_)
  match c, hq with
  | .ok (.ret u), hq => exact I1.after hq
end
end CP
/-! part CpAH -/
set_option Elab.async false
set_option linter.all false
set_option maxRecDepth 100000
set_option maxHeartbeats 4000000
namespace CP
open PySem PySem.Spec PyProof.Rows L2 CPH
/-! ### statements that draw: all that may come of them -/
def frE (ρ : Env) : Env := ρ.map fun x => match x with
  | some (.ow _) => none
  | x => x
def frR : Res → Res
  | .nx ρ => .nx (frE ρ)
  | .bk ρ => .bk (frE ρ)
  | .ct ρ => .ct (frE ρ)
  | .rt d => .rt d
theorem frE_fr {ρ : Env} {i : Nat} {e : EV} (h : (frE ρ)[i]? = some (some e)) : ρ[i]? = some (some e) ∧ ∃ d, e = .fr d := by
  unfold frE at h
  rw [List.getElem?_map] at h
  obtain ⟨x, h1, h2⟩ := Option.map_eq_some_iff.mp h
  cases x with
  | none => cases h2
  | some x => cases x with
    | fr d => cases h2; exact ⟨h1, d, rfl⟩
    | ow ds => cases h2
section
variable {W : Wd} {p q : Addr} {ns : List Int}
theorem EnvR.toN {H0 H1 F H H2 : Hp} {σ : L2.St} {ρ : Env} (r : EnvR W H0 F H σ ρ) : EnvR W H1 F H2 σ (frE ρ) := by
  refine ⟨by unfold frE; rw [List.length_map]; exact r.len, fun i d h => r.fr i d (frE_fr h).1, fun i ds h => ?_, fun i j ds es a h => ?_⟩
  · obtain ⟨_, d, e⟩ := frE_fr h
    cases e
  · obtain ⟨_, d, e⟩ := frE_fr h
    cases e
/-- no list of one's own -/
def allF (ρ : Env) : Prop := ∀ (i : Nat) (ds : List D), ρ[i]? ≠ some (some (.ow ds))
theorem EnvR.allF {F H : Hp} {σ : L2.St} {ρ : Env} (r : EnvR W H F H σ ρ) : CP.allF ρ := fun i ds h => by
  obtain ⟨a, xs, _, h2, _, h3, _⟩ := r.ow i ds h
  rw [h2] at h3
  cases h3
theorem EnvR.moveN {F H H2 : Hp} {σ : L2.St} {ρ : Env} (r : EnvR W H F H σ ρ) : EnvR W H2 F H2 σ ρ :=
  ⟨r.len, r.fr, fun i ds h => absurd h (r.allF i ds), fun i j ds es a h => absurd h (r.allF i ds)⟩
theorem EnvR.stepN {F H F2 H2 : Hp} {σ : L2.St} {ρ : Env} (r : EnvR W H F H σ ρ) (e : Ex F F2) : EnvR W H2 F2 H2 σ ρ :=
  ⟨r.len, fun i d h => (r.fr i d h).imp fun v x => ⟨x.1, x.2.mono e⟩, fun i ds h => absurd h (r.allF i ds), fun i j ds es a h => absurd h (r.allF i ds)⟩
def PSt (W : Wd) (p q : Addr) (ns : List Int) (N : Int) (F H : Hp) (σ : L2.St) (ρ : Env) : Prop := Ex F H ∧ F p = none ∧ PenAt W.K H p q ns N ∧ EnvR W H F H σ ρ
def GoN (W : Wd) (p q : Addr) (ns : List Int) (F : Hp) (N : Int) (P : L2.St → Hp → Prop) (ρ : Env) : Prop := ∀ σ F' H', Ex F F' → PSt W p q ns N F' H' σ ρ → P σ H'
def ContN (W : Wd) (p q : Addr) (ns : List Int) (F : Hp) (N : Int) (Dd : Ends) : Res → Prop
  | .nx ρ => GoN W p q ns F N Dd.nx ρ
  | .bk ρ => GoN W p q ns F N Dd.bk ρ
  | .ct ρ => GoN W p q ns F N Dd.ct ρ
  | .rt d => ∀ v F' H', Ex F F' → Ex F' H' → PenAt W.K H' p q ns N → Rep W F' v d → Dd.rt v H'
theorem GoN.on {F F2 : Hp} {N M : Int} {P : L2.St → Hp → Prop} {ρ : Env} (h : GoN W p q ns F N P ρ) (e : Ex F F2) (l : M ≤ N) : GoN W p q ns F2 M P ρ :=
  fun σ F' H' e1 ⟨a, b, c, d⟩ => h σ F' H' (e.trans e1) ⟨a, b, c.mono l, d⟩
theorem ContN.on {F F2 : Hp} {N M : Int} {Dd : Ends} {r : Res} (h : ContN W p q ns F N Dd r) (e : Ex F F2) (l : M ≤ N) : ContN W p q ns F2 M Dd r := by
  cases r with
  | nx ρ => exact GoN.on h e l
  | bk ρ => exact GoN.on h e l
  | ct ρ => exact GoN.on h e l
  | rt d => exact fun v F' H' e1 e2 e3 r => h v F' H' (e.trans e1) e2 (e3.mono l) r
abbrev MN := Env → (Res → Prop) → Prop
def SmN (W : Wd) (p q : Addr) (ns : List Int) (c : Nat) (t : TS) (m : MN) : Prop := ∀ (F H : Hp) (σ : L2.St) (ρ : Env) (N : Int) (post : Res → Prop), PSt W p q ns N F H σ ρ → N + c < 99000 → m ρ post →
  ∀ Dd : Ends, (∀ r, post r → ContN W p q ns F (N + c) Dd r) → t Dd σ H
def nOf (m : MS) : MN := fun ρ post => ∃ r, m ρ = some r ∧ post (frR r)
theorem PenAt.has {K : PySem.W.Frag} {H : Hp} {N : Int} (h : PenAt K H p q ns N) : ∃ o, H p = some o := by
  obtain ⟨a, r, g, _⟩ := h
  exact ⟨_, g⟩
theorem smn_of {t : TS} {m : MS} (hs : SmS W t m) : SmN W p q ns 0 t (nOf m) := fun F H σ ρ N post ⟨e, hp, pen, env⟩ _ ⟨r, h1, h2⟩ Dd k => by
  obtain ⟨o, ho⟩ := pen.has
  have kr := k _ h2
  refine hs F H F H σ ρ r (.refl e) env h1 Dd ?_
  have mk : ∀ {ρ' : Env} {P : L2.St → Hp → Prop}, GoN W p q ns F (N + (0 : Nat)) P (frE ρ') → Goes W F H P ρ' := fun g σ' F' H' x y =>
    g σ' F' H' x.f ⟨x.s, x.u p o ho hp, (pen.on x.h).mono (by omega), y.toN⟩
  cases r with
  | nx ρ' => exact mk kr
  | bk ρ' => exact mk kr
  | ct ρ' => exact mk kr
  | rt d => exact fun v F' H' x y => kr v F' H' x.f x.s ((pen.on x.h).mono (by omega)) y
def nSeq (a b : MN) : MN := fun ρ post => a ρ fun r => match r with
  | .nx ρ' => b ρ' post
  | r => post r
theorem smn_seq {t u : TS} {a b : MN} {c d : Nat} (ha : SmN W p q ns c t a) (hb : SmN W p q ns d u b) : SmN W p q ns (c + d) (tSeq t u) (nSeq a b) := fun F H σ ρ N post st hN h Dd k => by
  refine ha F H σ ρ N _ st (by omega) h _ fun r hr => ?_
  cases r with
  | nx ρ' => exact fun σ' F' H' e st' => hb F' H' σ' ρ' _ post st' (by omega) hr Dd fun r' h' => (k r' h').on e (by omega)
  | bk ρ' => exact (show GoN W p q ns F (N + ↑(c + d)) Dd.bk ρ' from k _ hr).on (.refl F) (by omega)
  | ct ρ' => exact (show GoN W p q ns F (N + ↑(c + d)) Dd.ct ρ' from k _ hr).on (.refl F) (by omega)
  | rt d' => exact fun v F' H' e1 e2 e3 e4 => (show ContN W p q ns F (N + ↑(c + d)) Dd (.rt d') from k _ hr) v F' H' e1 e2 (e3.mono (by omega)) e4
def nForL (f : D → Env → Option Env) (b : MN) : List D → Env → (Res → Prop) → Prop
  | [], ρ, post => post (.nx ρ)
  | d :: ds, ρ, post => ∃ ρ1, f d ρ = some ρ1 ∧ b ρ1 fun r => match r with
    | .nx ρ2 => nForL f b ds ρ2 post
    | .ct ρ2 => nForL f b ds ρ2 post
    | .bk ρ2 => post (.nx ρ2)
    | .rt d => post (.rt d)
def nFor (L : Nat) (m : MA) (f : D → Env → Option Env) (b : MN) : MN := fun ρ post => ∃ ds, m ρ = some ds ∧ ds.length ≤ L ∧ nForL f b ds ρ post
theorem smn_for {wi : TI} {g : TG} {tb : TS} {m : MA} {js : List Nat} {f : D → Env → Option Env} {b : MN} {c : Nat} (L : Nat) (hi : SmI W wi m) (hg : TgS W g js f) (hb : SmN W p q ns c tb b) : SmN W p q ns (L * c) (tFor wi g tb) (nFor L m f b) := fun F H σ ρ N post ⟨e, hp, pen, env⟩ hN ⟨ds, h1, hL, h2⟩ Dd k => by
  obtain ⟨o, ho⟩ := pen.has
  refine hi H F H σ ρ ds e env h1 _ fun J F1 H1 e1 it => ?_
  have hc : ∀ i, i ≤ ds.length → i * c ≤ L * c := fun i hi => Nat.mul_le_mul_right c (Nat.le_trans hi hL)
  refine ⟨fun i n σ' H' => n = ds.length - i ∧ i ≤ ds.length ∧ ∃ F' ρ', Ex F F' ∧ Ex F1 F' ∧ PSt W p q ns (N + (i * c : Nat)) F' H' σ' ρ' ∧ nForL f b (ds.drop i) ρ' post,
    ⟨ds.length, by simp, Nat.zero_le _, F1, ρ, e1.f, .refl F1, ⟨e1.s, e1.u p o ho hp, (pen.on e1.h).mono (by simp), env.stepN e1.f⟩, by rw [List.drop_zero]; exact h2⟩, ?_⟩
  rintro i n σ' H' ⟨rfl, hin, F', ρ', e2, ef, ⟨g1, g2, g3, g4⟩, h3⟩
  obtain ⟨go, stop, yl⟩ := it F' H' ef g1
  have hci := hc i hin
  by_cases hlt : i < ds.length
  · have hci1 := hc (i + 1) hlt
    have hsplit : (i + 1) * c = i * c + c := by rw [Nat.add_mul, Nat.one_mul]
    have hd : ds[i]? = some ds[i] := List.getElem?_eq_getElem hlt
    rw [drop_some hd] at h3
    obtain ⟨ρ1, h4, h5⟩ := h3
    refine .inr ⟨go i hlt, fun σ2 H2 => i + 1 ≤ ds.length ∧ ∃ F2 ρ2, Ex F F2 ∧ Ex F1 F2 ∧ PSt W p q ns (N + ((i + 1) * c : Nat)) F2 H2 σ2 ρ2 ∧ nForL f b (ds.drop (i + 1)) ρ2 post, ?_, ?_⟩
    · rintro σ2 H2 ⟨hl, z⟩
      exact ⟨ds.length - (i + 1), by omega, rfl, hl, z⟩
    · intro x H'' y
      obtain ⟨F'', d, e3, h8, r8⟩ := yl i x H'' hlt y
      rw [hd] at h8
      cases h8
      obtain ⟨o', ho'⟩ := g3.has
      refine hg H'' F'' H'' σ' ρ' ρ1 x _ e3.s (g4.stepN e3.f) r8 h4 _ fun σ3 g5 _ => ?_
      refine hb F'' H'' σ3 ρ1 (N + (i * c : Nat)) _ ⟨e3.s, e3.u p o' ho' g2, g3.on e3.h, g5⟩ (by omega) h5 _ fun r hr => ?_
      cases r with
      | nx ρ2 => exact fun σ4 F4 H4 x1 ⟨a1, a2, a3, a4⟩ => ⟨hlt, F4, ρ2, (e2.trans e3.f).trans x1, (ef.trans e3.f).trans x1, ⟨a1, a2, a3.mono (by omega), a4⟩, hr⟩
      | ct ρ2 => exact fun σ4 F4 H4 x1 ⟨a1, a2, a3, a4⟩ => ⟨hlt, F4, ρ2, (e2.trans e3.f).trans x1, (ef.trans e3.f).trans x1, ⟨a1, a2, a3.mono (by omega), a4⟩, hr⟩
      | bk ρ2 => exact fun σ4 F4 H4 x1 st => ((k _ hr).on (e2.trans e3.f) (show N + (i * c : Nat) + (c : Nat) ≤ _ by omega)) σ4 F4 H4 x1 st
      | rt d' => exact fun v F4 H4 x1 x2 x3 x4 => ((k _ hr).on (e2.trans e3.f) (show N + (i * c : Nat) + (c : Nat) ≤ _ by omega)) v F4 H4 x1 x2 x3 x4
  · have ei : i = ds.length := by omega
    subst ei
    rw [List.drop_length] at h3
    exact .inl ⟨stop, (k _ h3) σ' F' H' e2 ⟨g1, g2, g3.mono (by omega), g4⟩⟩
/-- x = l[draw(pen, b)] -/
def nPick (i : Nat) (a b : ME) : MN := fun ρ post => ∃ ds : List D, a ρ = some (.lst ds) ∧ b ρ = some (.int (ds.length : Nat)) ∧ 0 < ds.length ∧ ds.length < 100000 ∧ ρ[0]? = some (some (.fr (.adr p))) ∧ ∀ d ∈ ds, post (.nx (setFr i d ρ))
theorem smn_pick {ta tb : TE} {a b : ME} {i : Nat} (ha : Sm W ta a) (hb : Sm W tb b) (h63 : ns.length ≤ 63) : SmN W p q ns 1 (tAsg (tOp (rIx W.K) ta (tU (spDr W.K) (tCons (tVar 0) (tCons tb tNil)) tNil)) (gName i)) (nPick (p := p) i a b) :=
    fun F H σ ρ N post ⟨e, hp, pen, env⟩ hN ⟨ds, h1, h2, h3, h4, h5, h6⟩ Dd k => by
  obtain ⟨o, ho⟩ := pen.has
  obtain ⟨v0, s0, r0⟩ := env.fr 0 _ h5
  cases r0
  refine ha H F H σ ρ _ e env h1 _ fun v F1 H1 e1 r1 => ⟨_, s0, ?_⟩
  refine hb H F1 H1 σ ρ _ e1.s (env.ext e1) h2 _ fun u F2 H2 e2 r2 => ?_
  cases r2
  have e12 := e1.trans e2
  refine ⟨p, q, _, N, ns, rfl, pen.on e12.h, h63, by omega, by omega, by omega, fun d H3 d0 d1 x3 p3 => ?_⟩
  have hF2 := e12.u p o ho hp
  have r1' := r1.mono e2.f
  cases r1' with
  | @lst a1 xs _ hl rl =>
    obtain ⟨j, rfl⟩ : ∃ j : Nat, d = (j : Int) := ⟨d.toNat, by omega⟩
    have hj : j < ds.length := by omega
    obtain ⟨w0, g1, g2⟩ := rl.get (List.getElem?_eq_getElem hj)
    have hex : Ex F2 H3 := x3.ex e12.s hF2
    refine .inl ⟨a1, xs, j, w0, rfl, rfl, .inl (.inl (hex _ _ hl)), atI_nat g1, ?_⟩
    exact (k _ (h6 _ (List.getElem_mem hj))) _ F2 H3 e12.f ⟨hex, hF2, p3, (env.stepN e12.f).setFr g2⟩
theorem smn_mono {t : TS} {m : MN} {c d : Nat} (h : SmN W p q ns c t m) (l : c ≤ d) : SmN W p q ns d t m := fun F H σ ρ N post st hN hm Dd k =>
  h F H σ ρ N post st (by omega) hm Dd fun r hr => (k r hr).on (.refl F) (by omega)
end
end CP
/-! part CpAI -/
set_option Elab.async false
set_option linter.all false
set_option maxRecDepth 100000
set_option maxHeartbeats 4000000
namespace CP
open PySem PySem.Spec PyProof.Rows L2 CPH
section
variable {P : Program} {w : World} {K : PySem.W.Frag} {mg : Str → Option Value} {base : Heap}
theorem sc__law_right : FnScope ["_law_pen_here", "_law_size", "_law_is_ring", "_law_is_stuck", "_law_many", "_law_some", "_law_ends_here", "_law_wrong", "_law_due_here", "_law_told", "_law_found", "_law_end", "_law_rows", "_law_row", "_law_trial_here", "_law_fits", "_law_value", "_law_k"] ["_law_pen_here", "_law_size", "_law_is_ring", "_law_is_stuck"] (defScope s__law_right) := ⟨rfl, rfl, rfl, by decide +kernel, rfl, by decide +kernel, by decide +kernel⟩
def t0__law_right (K : PySem.W.Frag) : TS := (tAsg (tU (spDr K) (tCons (tVar 0) (tCons (tC (.int 7)) tNil)) tNil) (gName 4))
def t1__law_right (K : PySem.W.Frag) : TS := (tAsg (tU (spD (WK K) 0 (mP 1 m__law_filled)) (tCons (tLc (iRng1 (tCons (tVar 4) tNil)) (gName 17) tYes (tU (spTrial K) (tCons (tVar 0) (tCons (tVar 1) (tCons (tVar 2) tNil))) tNil) [17]) tNil) tNil) (gName 5))
def tm__law_right (K : PySem.W.Frag) : TS := (tSeq (tAsg (tU (spD (WK K) 0 (mP 2 m__law_ends)) (tCons (tVar 1) (tCons (tVar 2) tNil)) tNil) (gName 6)) (tSeq (tAsg (tLc (iList K (tVar 6)) (gName 11) tYes (tU (spD (WK K) 0 (mP 5 m__law_wrong_ones)) (tCons (tVar 5) (tCons (tVar 1) (tCons (tVar 11) (tCons (tVar 2) (tCons (tVar 3) tNil))))) tNil) [11]) (gName 7)) (tSeq (tAsg (tLc (iZip K (tCons (tVar 6) (tCons (tVar 7) tNil))) (gTup K 2 (gCons (gName 11) (gCons (gName 12) gNil))) (tTest (tOp (rEqD K) (tVar 12) (tLst tNil))) (tVar 11) [11, 12]) (gName 8)) (tSeq (tAsg (tLst (tCons (tU (spD (WK K) 0 (mP 4 m__law_settled)) (tCons (tVar 5) (tCons (tVar 1) (tCons (tVar 2) (tCons (tVar 3) tNil)))) tNil) (tCons (tU (spD (WK K) 0 (mP 5 m__law_is_enough)) (tCons (tVar 5) (tCons (tVar 1) (tCons (tC .non) (tCons (tVar 2) (tCons (tVar 3) tNil))))) tNil) tNil))) (gName 9)) (tSeq (tIfS (tTest (tOp rNe (tCB (rRepr K) (tCons (tVar 9) tNil)) (tCB (rRepr K) (tCons (tLst (tCons (tCB (fun xs H Q => ∃ p ys, xs = [.ref p] ∧ ((SqL K H p ys ∧ ∀ l, H l = none → Q (.ref l) (upd H l (.tup ys))) ∨ (SqT K H p ys ∧ Q (.ref p) H))) (tCons (tVar 8) tNil)) (tCons (tOp (rEqD K) (tVar 8) (tVar 6)) tNil))) tNil)))) (tRet (tC (.bl false))) tNext) (tSeq (tAsg (tU (spD (WK K) 0 (mP 5 m__law_judge)) (tCons (tVar 5) (tCons (tVar 1) (tCons (tC .non) (tCons (tVar 2) (tCons (tVar 3) tNil))))) tNil) (gName 10)) (tSeq (tIfS (tTest (tOp rNotB (tUK 2 (spD (WK K) 2 mCJ) (tCons (tVar 1) (tCons (tVar 5) (tCons (tVar 10) tNil))) (tCons (tVar 2) (tCons (tVar 3) tNil))) (tC (.bl true)))) (tRet (tC (.bl false))) tNext) (tSeq (tIfS (tOr (tTest (tOp rNe (tOp rEq (tOp (rIx K) (tVar 10) (tC (.int 0))) (tC (.str "enough"))) (tOp (rEqD K) (tVar 8) (tVar 6)))) (tAnd (tTest (tOp rEq (tOp (rIx K) (tVar 10) (tC (.int 0))) (tC (.str "short")))) (tTest (tOp (rNotInD K) (tSl (rSlA K) (tVar 10) (tPart (tC (.int 2))) tNoPart) (tOp (rIx K) (tVar 7) (tBM K "list" (rIndex K) (tVar 6) (tCons (tOp (rIx K) (tVar 10) (tC (.int 1))) tNil))))))) (tRet (tC (.bl false))) tNext) (tIfS (tAnd (tTest (tOp rEq (tOp (rIx K) (tVar 10) (tC (.int 0))) (tC (.str "short")))) (tNot (tB (tU (spD (WK K) 0 (mP 4 m__law_net_right)) (tCons (tVar 10) (tCons (tVar 5) (tCons (tVar 1) (tCons (tVar 2) tNil)))) tNil)))) (tRet (tC (.bl false))) tNext)))))))))
def tp__law_right (K : PySem.W.Frag) : TS := (tAsg (tOp (rIx K) (tU (spD (WK K) 0 (mP 2 m__law_all_trials)) (tCons (tVar 1) (tCons (tVar 2) tNil)) tNil) (tU (spDr K) (tCons (tVar 0) (tCons (tCB (fun xs H Q => ∃ x n, xs = [x] ∧ LenV K x H n ∧ Q (.int n) H) (tCons (tU (spD (WK K) 0 (mP 2 m__law_all_trials)) (tCons (tVar 1) (tCons (tVar 2) tNil)) tNil) tNil)) tNil)) tNil)) (gName 14))
def tb__law_right (K : PySem.W.Frag) : TS := (tSeq (tAsg (tOp (rInD K) (tTup (tCons (tVar 13) (tCons (tVar 14) tNil))) (tVar 12)) (gName 15)) (tSeq (tAsg (tTup (tCons (tC (.str "short")) (tCons (tVar 11) (tCons (tVar 13) (tCons (tVar 14) tNil))))) (gName 16)) (tIfS (tTest (tOp rNe (tCB (rRepr K) (tCons (tUK 2 (spD (WK K) 2 mCJ) (tCons (tVar 1) (tCons (tVar 5) (tCons (tVar 16) tNil))) (tCons (tVar 2) (tCons (tVar 3) tNil))) tNil)) (tCB (rRepr K) (tCons (tVar 15) tNil)))) (tRet (tC (.bl false))) tNext)))
def tf__law_right (K : PySem.W.Frag) : TS := tFor (iZip K (tCons (tVar 6) (tCons (tVar 7) tNil))) (gTup K 2 (gCons (gName 11) (gCons (gName 12) gNil))) (tFor (iList K (tU (spD (WK K) 0 (mP 3 m__law_all_rows)) (tCons (tVar 1) (tCons (tVar 2) (tCons (tC (.bl true)) tNil))) tNil)) (gName 13) (tSeq (tp__law_right K) (tb__law_right K)))
def t__law_right (K : PySem.W.Frag) : TS := (tSeq (tAsg (tU (spDr K) (tCons (tVar 0) (tCons (tC (.int 7)) tNil)) tNil) (gName 4)) (tSeq (tAsg (tU (spD (WK K) 0 (mP 1 m__law_filled)) (tCons (tLc (iRng1 (tCons (tVar 4) tNil)) (gName 17) tYes (tU (spTrial K) (tCons (tVar 0) (tCons (tVar 1) (tCons (tVar 2) tNil))) tNil) [17]) tNil) tNil) (gName 5)) (tSeq (tAsg (tU (spD (WK K) 0 (mP 2 m__law_ends)) (tCons (tVar 1) (tCons (tVar 2) tNil)) tNil) (gName 6)) (tSeq (tAsg (tLc (iList K (tVar 6)) (gName 11) tYes (tU (spD (WK K) 0 (mP 5 m__law_wrong_ones)) (tCons (tVar 5) (tCons (tVar 1) (tCons (tVar 11) (tCons (tVar 2) (tCons (tVar 3) tNil))))) tNil) [11]) (gName 7)) (tSeq (tAsg (tLc (iZip K (tCons (tVar 6) (tCons (tVar 7) tNil))) (gTup K 2 (gCons (gName 11) (gCons (gName 12) gNil))) (tTest (tOp (rEqD K) (tVar 12) (tLst tNil))) (tVar 11) [11, 12]) (gName 8)) (tSeq (tAsg (tLst (tCons (tU (spD (WK K) 0 (mP 4 m__law_settled)) (tCons (tVar 5) (tCons (tVar 1) (tCons (tVar 2) (tCons (tVar 3) tNil)))) tNil) (tCons (tU (spD (WK K) 0 (mP 5 m__law_is_enough)) (tCons (tVar 5) (tCons (tVar 1) (tCons (tC .non) (tCons (tVar 2) (tCons (tVar 3) tNil))))) tNil) tNil))) (gName 9)) (tSeq (tIfS (tTest (tOp rNe (tCB (rRepr K) (tCons (tVar 9) tNil)) (tCB (rRepr K) (tCons (tLst (tCons (tCB (fun xs H Q => ∃ p ys, xs = [.ref p] ∧ ((SqL K H p ys ∧ ∀ l, H l = none → Q (.ref l) (upd H l (.tup ys))) ∨ (SqT K H p ys ∧ Q (.ref p) H))) (tCons (tVar 8) tNil)) (tCons (tOp (rEqD K) (tVar 8) (tVar 6)) tNil))) tNil)))) (tRet (tC (.bl false))) tNext) (tSeq (tAsg (tU (spD (WK K) 0 (mP 5 m__law_judge)) (tCons (tVar 5) (tCons (tVar 1) (tCons (tC .non) (tCons (tVar 2) (tCons (tVar 3) tNil))))) tNil) (gName 10)) (tSeq (tIfS (tTest (tOp rNotB (tUK 2 (spD (WK K) 2 mCJ) (tCons (tVar 1) (tCons (tVar 5) (tCons (tVar 10) tNil))) (tCons (tVar 2) (tCons (tVar 3) tNil))) (tC (.bl true)))) (tRet (tC (.bl false))) tNext) (tSeq (tIfS (tOr (tTest (tOp rNe (tOp rEq (tOp (rIx K) (tVar 10) (tC (.int 0))) (tC (.str "enough"))) (tOp (rEqD K) (tVar 8) (tVar 6)))) (tAnd (tTest (tOp rEq (tOp (rIx K) (tVar 10) (tC (.int 0))) (tC (.str "short")))) (tTest (tOp (rNotInD K) (tSl (rSlA K) (tVar 10) (tPart (tC (.int 2))) tNoPart) (tOp (rIx K) (tVar 7) (tBM K "list" (rIndex K) (tVar 6) (tCons (tOp (rIx K) (tVar 10) (tC (.int 1))) tNil))))))) (tRet (tC (.bl false))) tNext) (tSeq (tIfS (tAnd (tTest (tOp rEq (tOp (rIx K) (tVar 10) (tC (.int 0))) (tC (.str "short")))) (tNot (tB (tU (spD (WK K) 0 (mP 4 m__law_net_right)) (tCons (tVar 10) (tCons (tVar 5) (tCons (tVar 1) (tCons (tVar 2) tNil)))) tNil)))) (tRet (tC (.bl false))) tNext) (tSeq (tFor (iZip K (tCons (tVar 6) (tCons (tVar 7) tNil))) (gTup K 2 (gCons (gName 11) (gCons (gName 12) gNil))) (tFor (iList K (tU (spD (WK K) 0 (mP 3 m__law_all_rows)) (tCons (tVar 1) (tCons (tVar 2) (tCons (tC (.bl true)) tNil))) tNil)) (gName 13) (tSeq (tAsg (tOp (rIx K) (tU (spD (WK K) 0 (mP 2 m__law_all_trials)) (tCons (tVar 1) (tCons (tVar 2) tNil)) tNil) (tU (spDr K) (tCons (tVar 0) (tCons (tCB (fun xs H Q => ∃ x n, xs = [x] ∧ LenV K x H n ∧ Q (.int n) H) (tCons (tU (spD (WK K) 0 (mP 2 m__law_all_trials)) (tCons (tVar 1) (tCons (tVar 2) tNil)) tNil) tNil)) tNil)) tNil)) (gName 14)) (tSeq (tAsg (tOp (rInD K) (tTup (tCons (tVar 13) (tCons (tVar 14) tNil))) (tVar 12)) (gName 15)) (tSeq (tAsg (tTup (tCons (tC (.str "short")) (tCons (tVar 11) (tCons (tVar 13) (tCons (tVar 14) tNil))))) (gName 16)) (tIfS (tTest (tOp rNe (tCB (rRepr K) (tCons (tUK 2 (spD (WK K) 2 mCJ) (tCons (tVar 1) (tCons (tVar 5) (tCons (tVar 16) tNil))) (tCons (tVar 2) (tCons (tVar 3) tNil))) tNil)) (tCB (rRepr K) (tCons (tVar 15) tNil)))) (tRet (tC (.bl false))) tNext)))))) (tRet (tC (.bl true)))))))))))))))
def bm__law_right : MS := (sSeq (sAsg (eU (mP 2 m__law_ends) (aCons (eVar 1) (aCons (eVar 2) aNil)) aNil) (gN 6)) (sSeq (sAsg (eNew (aComp [11] (iLst (eVar 6)) (gN 11) (fun _ => some true) (eU (mP 5 m__law_wrong_ones) (aCons (eVar 5) (aCons (eVar 1) (aCons (eVar 11) (aCons (eVar 2) (aCons (eVar 3) aNil))))) aNil))) (gN 7)) (sSeq (sAsg (eNew (aComp [11, 12] (iZp lstOf lstOf (eVar 6) (eVar 7)) (gTp (gCons0 (gN 11) (gCons0 (gN 12) gNil0)) 2) (tOf (eBin (gEqD false) (eVar 12) (eLst aNil))) (eVar 11))) (gN 8)) (sSeq (sAsg (eLst (aCons (eU (mP 4 m__law_settled) (aCons (eVar 5) (aCons (eVar 1) (aCons (eVar 2) (aCons (eVar 3) aNil)))) aNil) (aCons (eU (mP 5 m__law_is_enough) (aCons (eVar 5) (aCons (eVar 1) (aCons (eC .non) (aCons (eVar 2) (aCons (eVar 3) aNil))))) aNil) aNil))) (gN 9)) (sSeq (sIf (tOf (eBin (gEq true) (eCall cRepr (aCons (eVar 9) aNil)) (eCall cRepr (aCons (eLst (aCons (eCall cTuple (aCons (eVar 8) aNil)) (aCons (eBin (gEqD false) (eVar 8) (eVar 6)) aNil))) aNil)))) (sRet (eC (.bool false))) sNext) (sSeq (sAsg (eU (mP 5 m__law_judge) (aCons (eVar 5) (aCons (eVar 1) (aCons (eC .non) (aCons (eVar 2) (aCons (eVar 3) aNil))))) aNil) (gN 10)) (sSeq (sIf (tOf (eBin (gIsB true) (eUK 2 mCJ (aCons (eVar 1) (aCons (eVar 5) (aCons (eVar 10) aNil))) (aCons (eVar 2) (aCons (eVar 3) aNil))) (eC (.bool true)))) (sRet (eC (.bool false))) sNext) (sSeq (sIf (mOr (tOf (eBin (gEq true) (eBin (gEq false) (eBin gIx (eVar 10) (eC (.int 0))) (eC (.str "enough"))) (eBin (gEqD false) (eVar 8) (eVar 6)))) (mAnd (tOf (eBin (gEq false) (eBin gIx (eVar 10) (eC (.int 0))) (eC (.str "short")))) (tOf (eBin (gInD true) (eSlT (eVar 10) (oSome (eC (.int 2))) oNone) (eBin gIx (eVar 7) (eMeth "list" cIndex (eVar 6) (aCons (eBin gIx (eVar 10) (eC (.int 1))) aNil))))))) (sRet (eC (.bool false))) sNext) (sIf (mAnd (tOf (eBin (gEq false) (eBin gIx (eVar 10) (eC (.int 0))) (eC (.str "short")))) (mNot (tOf (eU (mP 4 m__law_net_right) (aCons (eVar 10) (aCons (eVar 5) (aCons (eVar 1) (aCons (eVar 2) aNil)))) aNil)))) (sRet (eC (.bool false))) sNext)))))))))
def bb__law_right : MS := (sSeq (sAsg (eBin (gInD false) (eTup (aCons (eVar 13) (aCons (eVar 14) aNil))) (eVar 12)) (gN 15)) (sSeq (sAsg (eTup (aCons (eC (.str "short")) (aCons (eVar 11) (aCons (eVar 13) (aCons (eVar 14) aNil))))) (gN 16)) (sIf (tOf (eBin (gEq true) (eCall cRepr (aCons (eUK 2 mCJ (aCons (eVar 1) (aCons (eVar 5) (aCons (eVar 16) aNil))) (aCons (eVar 2) (aCons (eVar 3) aNil))) aNil)) (eCall cRepr (aCons (eVar 15) aNil)))) (sRet (eC (.bool false))) sNext)))
def ma__law_right : ME := (eU (mP 2 m__law_all_trials) (aCons (eVar 1) (aCons (eVar 2) aNil)) aNil)
def mb__law_right : ME := (eCall cLen (aCons (eU (mP 2 m__law_all_trials) (aCons (eVar 1) (aCons (eVar 2) aNil)) aNil) aNil))
def n__law_right (p : Addr) : MN := nFor 3 (iZp lstOf lstOf (eVar 6) (eVar 7)) (gTp (gCons0 (gN 11) (gCons0 (gN 12) gNil0)) 2) (nFor 30 (iLst (eU (mP 3 m__law_all_rows) (aCons (eVar 1) (aCons (eVar 2) (aCons (eC (.bool true)) aNil))) aNil)) (gN 13) (nSeq (nPick (p := p) 14 ma__law_right mb__law_right) (nOf bb__law_right)))
theorem smm__law_right (T : Txt K mg) : SmS (WK K) (tm__law_right K) bm__law_right :=
  (sms_seq (sms_asg (sm_u (sma_cons sm_var (sma_cons sm_var sma_nil)) sma_nil) tgs_name) (sms_seq (sms_asg (sm_of_l (sml_lc (vs := [11]) (smi_list sm_var) tgs_name (by decide) smt_yes (sm_u (sma_cons sm_var (sma_cons sm_var (sma_cons sm_var (sma_cons sm_var (sma_cons sm_var sma_nil))))) sma_nil))) tgs_name) (sms_seq (sms_asg (sm_of_l (sml_lc (vs := [11, 12]) (smi_zipL sm_var sm_var) (tgs_tup (tgss_cons tgs_name (tgss_cons tgs_name tgss_nil))) (by decide) (smt_T (sm_op s_eqD (Sm.b sm_var) (Sm.b (sm_lst sma_nil)))) sm_var)) tgs_name) (sms_seq (sms_asg (sm_lst (sma_cons (sm_u (sma_cons sm_var (sma_cons sm_var (sma_cons sm_var (sma_cons sm_var sma_nil)))) sma_nil) (sma_cons (sm_u (sma_cons sm_var (sma_cons sm_var (sma_cons sm_non (sma_cons sm_var (sma_cons sm_var sma_nil))))) sma_nil) sma_nil))) tgs_name) (sms_seq (sms_if (smt_T (sm_op s_ne (Sm.b (sm_cb cs_repr (smab_cons (Sm.b sm_var) (SmA.b sma_nil)))) (Sm.b (sm_cb cs_repr (smab_cons (Sm.b (sm_lst (sma_cons (sm_cb cs_tuple (smab_cons (Sm.b sm_var) (SmA.b sma_nil))) (sma_cons (sm_op s_eqD (Sm.b sm_var) (Sm.b sm_var)) sma_nil)))) (SmA.b sma_nil)))))) (sms_ret sm_bl) sms_next) (sms_seq (sms_asg (sm_u (sma_cons sm_var (sma_cons sm_var (sma_cons sm_non (sma_cons sm_var (sma_cons sm_var sma_nil))))) sma_nil) tgs_name) (sms_seq (sms_if (smt_T (sm_op s_notB (Sm.b (sm_uK (sma_cons sm_var (sma_cons sm_var (sma_cons sm_var sma_nil))) (sma_cons sm_var (sma_cons sm_var sma_nil)))) (Sm.b sm_bl))) (sms_ret sm_bl) sms_next) (sms_seq (sms_if (smt_or (smt_T (sm_op s_ne (Sm.b (sm_op s_eq (Sm.b (sm_op s_ix (Sm.b sm_var) (Sm.b sm_int))) (Sm.b sm_str))) (Sm.b (sm_op s_eqD (Sm.b sm_var) (Sm.b sm_var))))) (smt_and (smt_T (sm_op s_eq (Sm.b (sm_op s_ix (Sm.b sm_var) (Sm.b sm_int))) (Sm.b sm_str))) (smt_T (sm_op s_notInD (Sm.b (sm_slT sm_var (smo_some sm_int) smo_none)) (Sm.b (sm_op s_ix (Sm.b sm_var) (Sm.b (sm_bm mts_index (Sm.b sm_var) (smab_cons (Sm.b (sm_op s_ix (Sm.b sm_var) (Sm.b sm_int))) (SmA.b sma_nil)))))))))) (sms_ret sm_bl) sms_next) (sms_if (smt_and (smt_T (sm_op s_eq (Sm.b (sm_op s_ix (Sm.b sm_var) (Sm.b sm_int))) (Sm.b sm_str))) (smt_not (smt_B (sm_u (sma_cons sm_var (sma_cons sm_var (sma_cons sm_var (sma_cons sm_var sma_nil)))) sma_nil)))) (sms_ret sm_bl) sms_next)))))))))
theorem smb__law_right (T : Txt K mg) : SmS (WK K) (tb__law_right K) bb__law_right :=
  (sms_seq (sms_asg (sm_op s_inD (Sm.b (sm_tup (sma_cons sm_var (sma_cons sm_var sma_nil)))) (Sm.b sm_var)) tgs_name) (sms_seq (sms_asg (sm_tup (sma_cons sm_str (sma_cons sm_var (sma_cons sm_var (sma_cons sm_var sma_nil))))) tgs_name) (sms_if (smt_T (sm_op s_ne (Sm.b (sm_cb cs_repr (smab_cons (Sm.b (sm_uK (sma_cons sm_var (sma_cons sm_var (sma_cons sm_var sma_nil))) (sma_cons sm_var (sma_cons sm_var sma_nil)))) (SmA.b sma_nil)))) (Sm.b (sm_cb cs_repr (smab_cons (Sm.b sm_var) (SmA.b sma_nil)))))) (sms_ret sm_bl) sms_next)))
theorem smn__law_right (T : Txt K mg) {p q : Addr} {ns : List Int} (h63 : ns.length ≤ 63) : SmN (WK K) p q ns 90 (tf__law_right K) (n__law_right p) :=
  smn_for 3 (smi_zipL sm_var sm_var) (tgs_tup (tgss_cons tgs_name (tgss_cons tgs_name tgss_nil))) (smn_for 30 (smi_list (sm_u (sma_cons sm_var (sma_cons sm_var (sma_cons sm_bl sma_nil))) sma_nil)) tgs_name (smn_seq (smn_pick (sm_u (sma_cons sm_var (sma_cons sm_var sma_nil)) sma_nil) (sm_cb cs_len (smab_cons (Sm.b (sm_u (sma_cons sm_var (sma_cons sm_var sma_nil)) sma_nil)) (SmA.b sma_nil))) h63) (smn_of (smb__law_right T))))
theorem bk__law_right (T : Txt K mg) (HF : HFau P w K mg base) : ∀ (f : Addr) (cdv : Value) (A : Around) (outer : List PySem.Env) (s : Shared) (H : Hp) (E : XK), A.guards = some [] → Room 14 (A.deeper (envOfC "_law_right" (defScope s__law_right) s.heap.objs.size f cdv)) → PSs (cxOf CX0 P w K mg base ["_law_pen_here", "_law_size", "_law_is_ring", "_law_is_stuck", "_law_many", "_law_some", "_law_ends_here", "_law_wrong", "_law_due_here", "_law_told", "_law_found", "_law_end", "_law_rows", "_law_row", "_law_trial_here", "_law_fits", "_law_value", "_law_k"] "_law_right" (defScope s__law_right) f cdv A outer s H E).nox (defBody s__law_right) (t__law_right K) := fun f cdv A outer s H E hgd hr =>
  (pss_cons (ps_set (i := 4) sc__law_right.nd rfl (by first | exact Or.inl rfl | exact Or.inr rfl) (pe_u (g__law_draw T) (hr.mono (by decide)) (by rfl) (pa_cons (pv 0) (pa_cons pe_int pa_nil)))) (pss_cons (ps_set (i := 5) sc__law_right.nd rfl (by first | exact Or.inl rfl | exact Or.inr rfl) (pe_u (g__law_filled T) (hr.mono (by decide)) (by rfl) (pa_cons (pe_lc (own := [("_law_k", 17)]) rfl sc__law_right.nd (pi_range1 (by rfl) T.b_range (pa_cons (pv 4) pa_nil)) (blkOk_by (by rfl)) (fun _ _ _ _ _ => (pg_name (i := 17) sc__law_right.nd rfl (by first | exact Or.inl rfl | exact Or.inr rfl))) (fun _ _ _ _ _ => pts_nil) (fun _ _ _ _ _ => (pe_u (g__law_trial T) (hr.mono (by decide)) (by rfl) (pa_cons (pv 0) (pa_cons (pv 1) (pa_cons (pv 2) pa_nil)))))) pa_nil))) (pss_cons (ps_set (i := 6) sc__law_right.nd rfl (by first | exact Or.inl rfl | exact Or.inr rfl) (pe_u (g__law_ends T) (hr.mono (by decide)) (by rfl) (pa_cons (pv 1) (pa_cons (pv 2) pa_nil)))) (pss_cons (ps_setLc (i := 7) (own := [("_law_end", 11)]) rfl sc__law_right.nd rfl rfl (sw_true rfl rfl rfl (by decide +kernel)) (pi_list (pv 6)) (blkOk_by (by rfl)) (fun _ _ _ _ _ => (pg_name (i := 11) sc__law_right.nd rfl (by first | exact Or.inl rfl | exact Or.inr rfl))) (fun _ _ _ _ _ => pts_nil) (fun _ _ _ _ _ => (pe_u (g__law_wrong_ones T) (hr.mono (by decide)) (by rfl) (pa_cons (pv 5) (pa_cons (pv 1) (pa_cons (pv 11) (pa_cons (pv 2) (pa_cons (pv 3) pa_nil)))))))) (pss_cons (ps_setLc (i := 8) (own := [("_law_end", 11), ("_law_rows", 12)]) rfl sc__law_right.nd rfl rfl (sw_true rfl rfl rfl (by decide +kernel)) (pi_zip (by rfl) T.b_zip (pa_cons (pv 6) (pa_cons (pv 7) pa_nil))) (blkOk_by (by rfl)) (fun _ _ _ _ _ => (pg_tup rfl (pgs_cons (pg_name (i := 11) sc__law_right.nd rfl (by first | exact Or.inl rfl | exact Or.inr rfl)) (pgs_cons (pg_name (i := 12) sc__law_right.nd rfl (by first | exact Or.inl rfl | exact Or.inr rfl)) pgs_nil)))) (fun _ _ _ _ _ => pts_one (pt_cmpR (op_eqD hr.units) (pv 12) (pe_lst pa_nil) (nomark _))) (fun _ _ _ _ _ => (pv 11))) (pss_cons (ps_set (i := 9) sc__law_right.nd rfl (by first | exact Or.inl rfl | exact Or.inr rfl) (pe_lst (pa_cons (pe_u (g__law_settled T) (hr.mono (by decide)) (by rfl) (pa_cons (pv 5) (pa_cons (pv 1) (pa_cons (pv 2) (pa_cons (pv 3) pa_nil))))) (pa_cons (pe_u (g__law_is_enough T) (hr.mono (by decide)) (by rfl) (pa_cons (pv 5) (pa_cons (pv 1) (pa_cons pe_non (pa_cons (pv 2) (pa_cons (pv 3) pa_nil)))))) pa_nil)))) (pss_cons (ps_if (pt_cmpR op_ne (pe_callB (call_reprG hgd (hr65 hr)) (by rfl) T.b_repr (by decide +kernel) (pa_cons (pv 9) pa_nil)) (pe_callB (call_reprG hgd (hr65 hr)) (by rfl) T.b_repr (by decide +kernel) (pa_cons (pe_lst (pa_cons (pe_callTy call_tuple_of (by rfl) T.b_tuple (by decide +kernel) (pa_cons (pv 8) pa_nil)) (pa_cons (pe_cmpR (op_eqD hr.units) (pv 8) (pv 6) (nomark _)) pa_nil))) pa_nil)) (nomark _)) (pss_one (ps_ret pe_bl)) pss_nil) (pss_cons (ps_set (i := 10) sc__law_right.nd rfl (by first | exact Or.inl rfl | exact Or.inr rfl) (pe_u (g__law_judge T) (hr.mono (by decide)) (by rfl) (pa_cons (pv 5) (pa_cons (pv 1) (pa_cons pe_non (pa_cons (pv 2) (pa_cons (pv 3) pa_nil))))))) (pss_cons (ps_if (pt_cmpR op_notBl (pe_uK (g2_check_judgement T) (hr.mono (by decide)) (by rfl) (pa_cons (pv 1) (pa_cons (pv 5) (pa_cons (pv 10) pa_nil))) (pk_cons (pv 2) (pk_cons (pv 3) pk_nil))) pe_bl (nomark _)) (pss_one (ps_ret pe_bl)) pss_nil) (pss_cons (ps_if (PW.pt (pw_or (pt_cmpR op_ne (pe_cmpR op_eq (pe_ix ix_seq (pv 10) pe_int (fun _ _ => rfl)) pe_str (nomark _)) (pe_cmpR (op_eqD hr.units) (pv 8) (pv 6) (nomark _)) (nomark _)) (pw_or1 (PW.pt (pw_and (pt_cmpR op_eq (pe_ix ix_seq (pv 10) pe_int (fun _ _ => rfl)) pe_str (nomark _)) (pw_and1 (pt_cmpR (op_notInD (hr65 hr)) (pe_slice sl_tupA (pv 10) (po_some pe_int) po_none) (pe_ix ix_seq (pv 7) (pe_bm PySem.F.plainAttrs_list PySem.F.slot_list_index PySem.F.type_list_index mt_index (pv 6) (pa_cons (pe_ix ix_seq (pv 10) pe_int (fun _ _ => rfl)) pa_nil)) (fun _ _ => rfl)) (by rfl)))))))) (pss_one (ps_ret pe_bl)) pss_nil) (pss_cons (ps_if (PW.pt (pw_and (pt_cmpR op_eq (pe_ix ix_seq (pv 10) pe_int (fun _ _ => rfl)) pe_str (nomark _)) (pw_and1 (pt_not (pt_val (pe_u (g__law_net_right T HF) (hr.mono (by decide)) (by rfl) (pa_cons (pv 10) (pa_cons (pv 5) (pa_cons (pv 1) (pa_cons (pv 2) pa_nil)))))))))) (pss_one (ps_ret pe_bl)) pss_nil) (pss_cons (ps_for PassesOwn.never rfl (pi_zip (by rfl) T.b_zip (pa_cons (pv 6) (pa_cons (pv 7) pa_nil))) (pg_tup rfl (pgs_cons (pg_name (i := 11) sc__law_right.nd rfl (by first | exact Or.inl rfl | exact Or.inr rfl)) (pgs_cons (pg_name (i := 12) sc__law_right.nd rfl (by first | exact Or.inl rfl | exact Or.inr rfl)) pgs_nil))) (pss_one (ps_for PassesOwn.never rfl (pi_list (pe_u (g__law_all_rows T) (hr.mono (by decide)) (by rfl) (pa_cons (pv 1) (pa_cons (pv 2) (pa_cons pe_bl pa_nil))))) (pg_name (i := 13) sc__law_right.nd rfl (by first | exact Or.inl rfl | exact Or.inr rfl)) (pss_cons (ps_set (i := 14) sc__law_right.nd rfl (by first | exact Or.inl rfl | exact Or.inr rfl) (pe_ix ix_seq (pe_u (g__law_all_trials T) (hr.mono (by decide)) (by rfl) (pa_cons (pv 1) (pa_cons (pv 2) pa_nil))) (pe_u (g__law_draw T) (hr.mono (by decide)) (by rfl) (pa_cons (pv 0) (pa_cons (pe_callB call_len (by rfl) T.b_len (by decide +kernel) (pa_cons (pe_u (g__law_all_trials T) (hr.mono (by decide)) (by rfl) (pa_cons (pv 1) (pa_cons (pv 2) pa_nil))) pa_nil)) pa_nil))) (fun _ _ => rfl))) (pss_cons (ps_set (i := 15) sc__law_right.nd rfl (by first | exact Or.inl rfl | exact Or.inr rfl) (pe_cmpR (op_inD (hr65 hr)) (pe_tup (pa_cons (pv 13) (pa_cons (pv 14) pa_nil))) (pv 12) (by rfl))) (pss_cons (ps_set (i := 16) sc__law_right.nd rfl (by first | exact Or.inl rfl | exact Or.inr rfl) (pe_tup (pa_cons pe_str (pa_cons (pv 11) (pa_cons (pv 13) (pa_cons (pv 14) pa_nil)))))) (pss_one (ps_if (pt_cmpR op_ne (pe_callB (call_reprG hgd (hr65 hr)) (by rfl) T.b_repr (by decide +kernel) (pa_cons (pe_uK (g2_check_judgement T) (hr.mono (by decide)) (by rfl) (pa_cons (pv 1) (pa_cons (pv 5) (pa_cons (pv 16) pa_nil))) (pk_cons (pv 2) (pk_cons (pv 3) pk_nil))) pa_nil)) (pe_callB (call_reprG hgd (hr65 hr)) (by rfl) T.b_repr (by decide +kernel) (pa_cons (pv 15) pa_nil)) (nomark _)) (pss_one (ps_ret pe_bl)) pss_nil)))))))) (pss_one (ps_ret pe_bl))))))))))))))
end
end CP
/-! part CpAJ -/
set_option Elab.async false
set_option linter.all false
set_option maxRecDepth 100000
set_option maxHeartbeats 400000
namespace CP
open PySem PySem.Spec PyProof.Rows L2 CPH
section
variable {P : Program} {w : World} {K : PySem.W.Frag} {mg : Str → Option Value} {base : Heap}
def rho0 (p : Addr) (n : Int) (ring stuck : Bool) (us : List Str) : CP.Env := [some (.fr (.adr p)), some (.fr (.int n)), some (.fr (.bool ring)), some (.fr (.bool stuck)), none, some (.fr (.lst (us.map .str))), none, none, none, none, none, none, none, none, none, none, none, none]
def usOk (n : Int) (ring : Bool) (us : List Str) : Prop := (∀ z ∈ us, z ∈ trS n ring) ∧ (us.length = 0 ∨ us.length = 1 ∨ us.length = 4 ∨ us.length = 6)
/-- the plain law of _law_right -/
def PlainR : Prop := ∀ (p : Addr) (n : Int) (ring stuck : Bool) (us : List Str), ModeOk n ring → usOk n ring us →
  ∃ ρ, bm__law_right (rho0 p n ring stuck us) = some (.nx ρ) ∧ n__law_right p (frE ρ) fun r => ∃ ρ', r = .nx ρ'
def PlainF : Prop := ∀ (n : Int) (ring : Bool) (ts : List Str), (∀ z ∈ ts, z ∈ trS n ring) → ts.length ≤ 6 → ∃ us, usOk n ring us ∧ m__law_filled [.lst (ts.map .str)] = some (.lst (us.map .str))
def tr_law_right (K : PySem.W.Frag) : TS := tSeq (tm__law_right K) (tSeq (tf__law_right K) (tRet (tC (.bl true))))
theorem tSeq_assoc (a b c : TS) : tSeq (tSeq a b) c = tSeq a (tSeq b c) := rfl
theorem t_eq_law_right : t__law_right K = tSeq (t0__law_right K) (tSeq (t1__law_right K) (tr_law_right K)) := by
  unfold t__law_right tr_law_right t0__law_right t1__law_right tm__law_right tf__law_right tp__law_right tb__law_right
  simp only [tSeq_assoc]
def MonoN (m : MN) : Prop := ∀ (ρ : CP.Env) (p1 p2 : Res → Prop), (∀ r, p1 r → p2 r) → m ρ p1 → m ρ p2
theorem mono_of {m : MS} : MonoN (nOf m) := fun ρ p1 p2 h ⟨r, a, b⟩ => ⟨r, a, h _ b⟩
theorem mono_pick {p : Addr} {i : Nat} {a b : ME} : MonoN (nPick (p := p) i a b) := fun ρ p1 p2 h ⟨ds, h1, h2, h3, h4, h5, h6⟩ => ⟨ds, h1, h2, h3, h4, h5, fun d hd => h _ (h6 d hd)⟩
theorem mono_seq {a b : MN} (ha : MonoN a) (hb : MonoN b) : MonoN (nSeq a b) := fun ρ p1 p2 h x => ha ρ _ _ (fun r hr => by
  cases r with
  | nx ρ' => exact hb ρ' p1 p2 h hr
  | _ => exact h _ hr) x
theorem mono_forL {f : D → CP.Env → Option CP.Env} {b : MN} (hb : MonoN b) : ∀ (ds : List D) (ρ : CP.Env) (p1 p2 : Res → Prop), (∀ r, p1 r → p2 r) → nForL f b ds ρ p1 → nForL f b ds ρ p2
  | [], ρ, p1, p2, h, x => h _ x
  | d :: ds, ρ, p1, p2, h, ⟨ρ1, h1, h2⟩ => ⟨ρ1, h1, hb ρ1 _ _ (fun r hr => by
      cases r with
      | nx ρ2 => exact mono_forL hb ds ρ2 p1 p2 h hr
      | ct ρ2 => exact mono_forL hb ds ρ2 p1 p2 h hr
      | bk ρ2 => exact h _ hr
      | rt d => exact h _ hr) h2⟩
theorem mono_for {L : Nat} {m : MA} {f : D → CP.Env → Option CP.Env} {b : MN} (hb : MonoN b) : MonoN (nFor L m f b) := fun ρ p1 p2 h ⟨ds, h1, h2, h3⟩ => ⟨ds, h1, h2, mono_forL hb ds ρ p1 p2 h h3⟩
theorem mono__law_right {p : Addr} : MonoN (n__law_right p) := mono_for (mono_for (mono_seq mono_pick mono_of))
theorem reps_strs {W : Wd} {F : Hp} : ∀ ts : List Str, Reps W F (ts.map V.str) (ts.map D.str)
  | [] => .nil
  | t :: ts => .cons (.str t) (reps_strs ts)
theorem smn_r (T : Txt K mg) {p q : Addr} {ns : List Int} (h63 : ns.length ≤ 63) : SmN (WK K) p q ns 90 (tr_law_right K) (nSeq (nOf bm__law_right) (nSeq (n__law_right p) (nOf (sRet (eC (.bool true)))))) :=
  smn_seq (smn_of (smm__law_right T)) (smn_seq (smn__law_right T h63) (smn_of (sms_ret sm_bl)))
def spRight (K : PySem.W.Frag) : List V → Hp → VK → Prop := fun vs H Q => ∃ (p q : Addr) (n : Int) (ring stuck : Bool) (N : Int) (ns : List Int), vs = [.ref p, .int n, .bl ring, .bl stuck] ∧ ModeOk n ring ∧ PenAt K H p q ns N ∧ ns.length ≤ 63 ∧ N < 90000 ∧
  ∀ H2, PenAt K H2 p q ns (N + 200) → Q (.bl true) H2
def hide (p : Addr) (H : Hp) : Hp := fun a => if a = p then none else H a
theorem hide_ex {p : Addr} {H : Hp} : Ex (hide p H) H := fun a o h => by
  unfold hide at h
  split at h
  · cases h
  · exact h
theorem hide_p {p : Addr} {H : Hp} : hide p H p = none := by simp [hide]
theorem hide_ne {p a : Addr} {H : Hp} (h : a ≠ p) : hide p H a = H a := by simp [hide, h]
theorem rd__law_right (T : Txt K mg) (pl : PlainR) (pf : PlainF) {p q : Addr} {n : Int} {ring stuck : Bool} {N : Int} {ns : List Int} {H : Hp} {Q : VK} (hm : ModeOk n ring) (h1 : PenAt K H p q ns N) (h2 : ns.length ≤ 63) (h3 : N < 90000)
    (kk : ∀ H2, PenAt K H2 p q ns (N + 200) → Q (.bl true) H2) :
    t__law_right K { nx := fun _ H' => Q .non H', rt := Q } (L2.start ["_law_pen_here", "_law_size", "_law_is_ring", "_law_is_stuck", "_law_many", "_law_some", "_law_ends_here", "_law_wrong", "_law_due_here", "_law_told", "_law_found", "_law_end", "_law_rows", "_law_row", "_law_trial_here", "_law_fits", "_law_value", "_law_k"] [.ref p, .int n, .bl ring, .bl stuck]) H := by
  rw [t_eq_law_right]
  refine ⟨_, rfl, p, q, 7, N, ns, rfl, h1, h2, by omega, by decide, by decide, fun d H1 d1 d2 e1 p1 => ?_⟩
  refine ⟨_, rfl, d, rfl, by omega, by omega, fun Dl hD => ?_⟩
  obtain ⟨o, ho⟩ := p1.has
  have hpD : p ≠ Dl := ne_of_none ho hD
  have hqD : q ≠ Dl := by
    obtain ⟨a, r, g, g2, _⟩ := p1
    exact ne_of_none g2 hD
  refine lc_it (n := d.toNat) (walk_range (lo := 0) (n := d.toNat)) (fun i H' => ∃ ts : List Str, H' Dl = some (.lst (ts.map V.str)) ∧ ts.length = i ∧ (∀ z ∈ ts, z ∈ trS n ring) ∧ PenAt K H' p q ns (N + 1 + 6 * i)) ⟨[], upd_same, rfl, fun z hz => (by cases hz), (p1.on (.new hD)).mono (by omega)⟩ (fun _ _ _ _ => trivial) (fun i x H' H'' hi ⟨ts, q1, q2, q3, q5⟩ ⟨y1, y2⟩ => ?_) fun H' ⟨ts, q1, q2, q3, q5⟩ => ?_
  · subst y1 y2
    refine ⟨rfl, _, rfl, _, rfl, _, rfl, p, q, n, ring, N + 1 + 6 * i, ns, rfl, hm, q5, h2, by omega, fun z H3 hz e3 p3 => ?_⟩
    refine ⟨ts.map V.str, e3 _ _ (Ne.symm hpD) q1, ?_, ts ++ [z], ?_, ?_, ?_, ?_⟩
    · rw [List.length_map, q2]
      exact Nat.lt_of_lt_of_le (show i < 10 by omega) (by decide)
    · rw [upd_same, List.map_append]
      rfl
    · rw [List.length_append, q2]
      rfl
    · intro z' hz'
      rcases List.mem_append.mp hz' with h | h
      · exact q3 z' h
      · rw [List.mem_singleton.mp h]
        exact hz
    · obtain ⟨a, r, g1, g2, g3, g4, g5, g6⟩ := p3
      exact ⟨a, r, by rw [upd_ne hpD]; exact g1, by rw [upd_ne hqD]; exact g2, g3, g4, by omega, g6⟩
  · obtain ⟨us, hus, hf⟩ := pf n ring ts q3 (by omega)
    refine ⟨hide p H', [.lst (ts.map .str)], [], .lst (us.map .str), hide_ex, .cons (.lst ((hide_ne (Ne.symm hpD)).trans q1) (reps_strs ts)) .nil, .nil, (show mP 1 m__law_filled _ _ = some _ from hf), fun v F2 H2 e2 r2 => ?_⟩
    obtain ⟨ρ, m1, m2⟩ := pl p n ring stuck us hm hus
    obtain ⟨o', ho'⟩ := q5.has
    have hF2 : F2 p = none := e2.u p o' ho' hide_p
    refine smn_r T h2 F2 H2 _ (rho0 p n ring stuck us) (N + 1 + 6 * d) (fun r => r = .rt (.bool true)) ⟨e2.s, hF2, (q5.on e2.h).mono (by omega), ?_⟩ (by omega) ⟨_, m1, ?_⟩ _ fun r hr => ?_
    · refine ⟨rfl, fun i d0 h => ?_, fun i ds h => ?_, fun i j ds es a h => ?_⟩
      · match i, h with
        | 0, h => cases h; exact ⟨_, rfl, .adr p⟩
        | 1, h => cases h; exact ⟨_, rfl, .int _⟩
        | 2, h => cases h; exact ⟨_, rfl, .bl _⟩
        | 3, h => cases h; exact ⟨_, rfl, .bl _⟩
        | 5, h => cases h; exact ⟨_, rfl, r2⟩
        | 4, h | 6, h | 7, h | 8, h | 9, h | 10, h | 11, h | 12, h | 13, h | 14, h | 15, h | 16, h | 17, h => cases h
        | k + 18, h => cases h
      · match i, h with
        | 0, h | 1, h | 2, h | 3, h | 5, h | 4, h | 6, h | 7, h | 8, h | 9, h | 10, h | 11, h | 12, h | 13, h | 14, h | 15, h | 16, h | 17, h => cases h
        | k + 18, h => cases h
      · match i, h with
        | 0, h | 1, h | 2, h | 3, h | 5, h | 4, h | 6, h | 7, h | 8, h | 9, h | 10, h | 11, h | 12, h | 13, h | 14, h | 15, h | 16, h | 17, h => cases h
        | k + 18, h => cases h
    · refine mono__law_right (frE ρ) _ _ (fun r hr => ?_) m2
      obtain ⟨ρ', rfl⟩ := hr
      exact ⟨.rt (.bool true), rfl, rfl⟩
    · subst hr
      intro v F' H3 _ _ p3 r3
      cases r3
      exact kk H3 (p3.mono (by omega))
theorem g__law_right (T : Txt K mg) (HF : HFau P w K mg base) (pl : PlainR) (pf : PlainF) : GoodG P w K mg base 15 "_law_right" 4 (spRight K) := by
  obtain ⟨f, fd, hm, F⟩ := T.f__law_right
  refine ⟨f, hm, F.kp, okG F sc__law_right (F.bindsN fun _ _ _ _ _ _ us hl => match us, hl with | [_, _, _, _], _ => rfl) fun cdv A outer s H vs Q hg hr ⟨p, q, n, ring, stuck, N, ns, ev, hm, h1, h2, h3, kk⟩ => ?_⟩
  subst ev
  exact ⟨t__law_right K, PSs.nox (bk__law_right T HF f cdv A outer s H _ hg hr), rd__law_right T pl pf hm h1 h2 h3 kk⟩
end
end CP
/-! part CpAK -/
set_option Elab.async false
set_option linter.all false
set_option maxRecDepth 100000
set_option maxHeartbeats 400000
namespace CP
open PySem PySem.Spec PyProof.Rows L2 CPH
section
variable {P : Program} {w : World} {K : PySem.W.Frag} {mg : Str → Option Value} {base : Heap}
theorem sc_law : FnScope ["_law_script", "_law_pen_here", "_law_turn", "_law_is_ring", "_law_is_stuck"] ["_law_script"] (defScope s_law) := ⟨rfl, rfl, rfl, by decide +kernel, rfl, by decide +kernel, by decide +kernel⟩
def t_law (K : PySem.W.Frag) : TS := (tSeq (tAsg (tU (spPen K) (tCons (tVar 0) tNil) tNil) (gName 1)) (tSeq (tFor (iRng1 (tCons (tC (.int 6)) tNil)) (gName 2) (tSeq (tAsg (tU (spMode K) (tCons (tVar 1) tNil) tNil) (gTup K 2 (gCons (gName 3) (gCons (gName 4) gNil)))) (tIfS (tNot (tB (tG 4 (spRight K) (tCons (tVar 1) (tCons (tIf (tB (tVar 3)) (tC (.int 2)) (tOp (rI0 fun i j => .int (i + j)) (tC (.int 1)) (tU (spDr K) (tCons (tVar 1) (tCons (tC (.int 2)) tNil)) tNil))) (tCons (tVar 3) (tCons (tVar 4) tNil))))))) (tRet (tC (.bl false))) tNext))) (tRet (tC (.bl true)))))
theorem bk_law (T : Txt K mg) (HF : HFau P w K mg base) (pl : PlainR) (pf : PlainF) : ∀ (f : Addr) (cdv : Value) (A : Around) (outer : List PySem.Env) (s : Shared) (H : Hp) (E : XK), A.guards = some [] → Room 15 (A.deeper (envOfC "law" (defScope s_law) s.heap.objs.size f cdv)) → PSs (cxOf CX0 P w K mg base ["_law_script", "_law_pen_here", "_law_turn", "_law_is_ring", "_law_is_stuck"] "law" (defScope s_law) f cdv A outer s H E).nox (defBody s_law) (t_law K) := fun f cdv A outer s H E hgd hr =>
  (pss_cons (ps_set (i := 1) sc_law.nd rfl (by first | exact Or.inl rfl | exact Or.inr rfl) (pe_u (g__law_pen T) (hr.mono (by decide)) (by rfl) (pa_cons (pv 0) pa_nil))) (pss_cons (ps_for PassesOwn.never rfl (pi_range1 (by rfl) T.b_range (pa_cons pe_int pa_nil)) (pg_name (i := 2) sc_law.nd rfl (by first | exact Or.inl rfl | exact Or.inr rfl)) (pss_cons (ps_asg (pe_u (g__law_mode T) (hr.mono (by decide)) (by rfl) (pa_cons (pv 1) pa_nil)) (pg_tup rfl (pgs_cons (pg_name (i := 3) sc_law.nd rfl (by first | exact Or.inl rfl | exact Or.inr rfl)) (pgs_cons (pg_name (i := 4) sc_law.nd rfl (by first | exact Or.inl rfl | exact Or.inr rfl)) pgs_nil)))) (pss_one (ps_if (pt_not (pt_val (pe_uG (g__law_right T HF pl pf) hgd (hr.mono (by decide)) (by rfl) (pa_cons (pv 1) (pa_cons (pe_ifExp (pt_val (pv 3)) pe_int (pe_op op_add pe_int (pe_u (g__law_draw T) (hr.mono (by decide)) (by rfl) (pa_cons (pv 1) (pa_cons pe_int pa_nil))))) (pa_cons (pv 3) (pa_cons (pv 4) pa_nil))))))) (pss_one (ps_ret pe_bl)) pss_nil)))) (pss_one (ps_ret pe_bl))))
theorem rd_law {a : Addr} {ns : List Int} {H : Hp} {Q : VK} (hS : SqL K H a (ns.map V.int)) (kk : ∀ H2, Q (.bl true) H2) :
    t_law K { nx := fun _ H' => Q .non H', rt := Q } (L2.start ["_law_script", "_law_pen_here", "_law_turn", "_law_is_ring", "_law_is_stuck"] [.ref a]) H := by
  refine ⟨_, rfl, a, ns, rfl, hS, fun p q H1 x1 hp0 pen => ?_⟩
  have h63 : (ns.take 63).length ≤ 63 := by
    rw [List.length_take]
    omega
  refine ⟨6, rfl, by decide, by decide, ?_⟩
  refine for_it (walk_range (lo := 0) (n := 6)) (fun i σ H => ∃ x2 x3 x4, σ = [some (.ref a), some (.ref p), x2, x3, x4] ∧ PenAt K H p q (ns.take 63) (300 * i)) ⟨_, _, _, rfl, pen.mono (by omega)⟩ (fun _ _ _ _ _ => trivial) (fun i x σ H2 H' hi ⟨x2, x3, x4, es, pen2⟩ ⟨y1, y2⟩ => ?_) fun σ H' ⟨x2, x3, x4, es, pen2⟩ => ?_
  · subst y1 y2 es
    refine ⟨_, rfl, p, q, 300 * i, ns.take 63, rfl, pen2, h63, by omega, fun b1 b2 tt H3 e3 p3 ht htn => ?_⟩
    refine ⟨tt, [.bl b1, .bl b2], rfl, ?_, rfl, ?_⟩
    · first | exact .inl (.inl ht) | exact .inl ht
    refine ⟨_, _, rfl, _, _, rfl, rfl, ?_⟩
    refine ⟨_, rfl, _, rfl, b1, rfl, ?_⟩
    cases b1 with
    | true =>
      refine ⟨_, rfl, _, rfl, rfl, p, q, 2, true, b2, 300 * i + 2, ns.take 63, rfl, .inr rfl, p3, h63, by omega, fun H4 p4 => ?_⟩
      exact ⟨true, rfl, iteF ⟨_, _, _, rfl, p4.mono (by omega)⟩⟩
    | false =>
      refine ⟨_, rfl, p, q, 2, 300 * i + 2, ns.take 63, rfl, p3, h63, by omega, by decide, by decide, fun d H5 d1 d2 e5 p5 => ?_⟩
      refine ⟨1, d, rfl, rfl, ?_⟩
      refine ⟨_, rfl, _, rfl, rfl, p, q, 1 + d, false, b2, 300 * i + 2 + 1, ns.take 63, rfl, ?_, p5, h63, by omega, fun H4 p4 => ?_⟩
      · have : d = 0 ∨ d = 1 := by omega
        rcases this with rfl | rfl
        · exact .inl ⟨rfl, rfl⟩
        · exact .inr rfl
      · exact ⟨true, rfl, iteF ⟨_, _, _, rfl, p4.mono (by omega)⟩⟩
  · exact kk H'
/-- the law, called where the guards are known -/
theorem g_law (T : Txt K mg) (HF : HFau P w K mg base) (pl : PlainR) (pf : PlainF) {f : Addr} (hf : mg "law" = some (.ref f)) : FnG P w K mg base 16 f 1 (fun vs H Q => ∃ (a : Addr) (ns : List Int), vs = [.ref a] ∧ SqL K H a (ns.map V.int) ∧ ∀ H2, Q (.bl true) H2) := by
  obtain ⟨f', fd, hm, F⟩ := T.f_law
  rw [hf] at hm
  cases hm
  refine okG F sc_law (F.bindsN fun _ _ _ _ _ _ us hl => match us, hl with | [_], _ => rfl) fun cdv A outer s H vs Q hg hr ⟨a, ns, ev, h1, kk⟩ => ?_
  subst ev
  exact ⟨t_law K, PSs.nox (bk_law T HF pl pf f cdv A outer s H _ hg hr), rd_law h1 kk⟩
end
end CP
/-! part CpAL -/
set_option Elab.async false
set_option linter.all false
set_option maxRecDepth 100000
set_option maxHeartbeats 400000
namespace CP
open PySem PySem.Spec PyProof.Rows L2 CPH
/-! ### Faulty.__init__: super() in a plain class -/
structure FauT (P : Program) (K : PySem.W.Frag) (mg : Str → Option Value) : Prop where
  fn : ∃ (oc : Value) (od : Option Addr) (kV doc pm ct : Value) (an : Option Addr) (cda : Addr) (osl : Array (Option Value)),
    K.lookup 989 = some ⟨oc, od, .func (PySem.W.ksFn "__init__" "Faulty.__init__" (defArgs s_Faulty_init) (defBody s_Faulty_init) (defScope s_Faulty_init) (.ref 981) kV doc pm an (.ref cda) ct 975), osl⟩ ∧
    PySem.W.codeIn K (.ref cda) "Faulty.__init__" = true ∧
    ∃ ccl cdd vs ccs file tf, K.lookup cda = some (⟨ccl, cdd, .fields vs, ccs⟩ : Obj) ∧ vs[2]? = some (.str file tf) ∧ ((P.main.file : Str) == file) = true
  dfl : ∃ (o : Obj) (v : Value) (n : Nat), K.lookup 981 = some o ∧ o.data = .seq #[v] n
  cell : ∃ cl cld csl, K.lookup 975 = some (⟨cl, cld, .cell (some (.ref 1083)), csl⟩ : Obj)
  cls : ∃ cd, PySem.W.clsIn K 1083 = some cd
  sub : PySem.W.mroIn K 1083 (.ref 1083) = some true
  opq : PySem.W.nsIn K cStatics "thirdparty.any" = some none
  meth : PySem.W.ks_superIn K 1083 1083 "__init__" = some (some (.ref 745))
  mty : PySem.W.typeIn K (.ref 745) = some (.type "function")
  mfn : PySem.W.fnIn K 745 = true
  sup : mg "super" = none
  top : (P.main.scope.names.lookup ("super" : Str)).isSome = false
theorem clsIn_at {K : PySem.W.Frag} {D : Addr} {cd : ClassData} {h : Heap} (X : K.In h) (hD : PySem.W.clsIn K D = some cd) : ∃ oD, h.get? D = some oD ∧ oD.data = .cls cd := by
  unfold PySem.W.clsIn at hD
  split at hD
  · rename_i c d cd' sl ho
    cases hD
    exact ⟨_, X _ _ ho, rfl⟩
  · cases hD
section
variable {X : Cx} {P : Program} {K : PySem.W.Frag} {mg : Str → Option Value}
/-- what of the frame is needed -/
structure SupEnv (X : Cx) (cda : Addr) : Prop where
  ks : X.env.kindOf "super" = some .globalImplicit
  kc : X.env.kindOf "__class__" = some .free
  kself : X.env.kindOf "self" = some .local
  fu : X.env.func = some 989
  co : X.env.code = .ref cda
  cl : X.env.cells.lookup ("__class__" : Str) = some 975
  n0 : X.N[0]? = some ("self" : Str)
theorem run_super {body : List Stmt} {p0 p1 apos pos pos2 : Pos} {e : Expr} {es : List Expr} {t : TA} {k : Nat} {sp : Sp} {cda : Addr} {dV kV doc pm ct oc : Value} {an od : Option Addr} {osl : Array (Option Value)} {vs0 : Array Value} {ccl : Value} {cdd : Option Addr} {ccs : Array (Option Value)} {file : Str} {tf : Tok} {pl : Sem Bool}
    (V : SupEnv X cda) (hint : interactive X.env = false) (FT : FauT X.prog X.K X.mg)
    (hf : X.K.lookup 989 = some ⟨oc, od, .func (PySem.W.ksFn "__init__" "Faulty.__init__" (defArgs s_Faulty_init) (defBody s_Faulty_init) (defScope s_Faulty_init) dV kV doc pm an (.ref cda) ct 975), osl⟩)
    (hcode : X.K.lookup cda = some (⟨ccl, cdd, .fields vs0, ccs⟩ : Obj)) (hvs : vs0[2]? = some (.str file tf)) (hfile : ((X.prog.main.file : Str) == file) = true)
    (F : FnR X.prog X.w X.K X.mg X.base CX0 k 745 sp) (hr : Room k X.A) (ha : PA X (e :: es) t)
    {pins : List (Addr × Obj)} {σ : L2.St} {H : Hp} {s : Shared} {x dx : Addr} {fs : List (Str × L2.V)} {R : Hp → Prop} (I : Inv X pins σ H s) (hself : σ[0]? = some (some (.ref x))) (hx : H x = some (.ins 1083 dx fs))
    (h : t σ H fun vs H1 => sp (.ref x :: vs) H1 (fun v H2 => R H2) fun _ _ _ => False)
    (hst : starEach (e :: es) X.env = (false, eval e X.env) :: starEach es X.env := by rfl) (hpl : (backTo pos (starEach es X.env)).any (·.1) = false := by rfl)
    (hsw : swapsWith (.Call (.Attribute (.Call (.Name "super" p0) [] [] p1) "__init__" apos) (e :: es) [] pos) none pos2.line X.env = pure false := by rfl)
    (ht : eval (.Call (.Attribute (.Call (.Name "super" p0) [] [] p1) "__init__" apos) (e :: es) [] pos) X.env = (do
      let ov ← attributeBase (.Call (.Name "super" p0) [] [] p1) "__init__" X.env (eval (.Call (.Name "super" p0) [] [] p1) X.env)
      standAt apos.atName
      let (f, first) ← holding [ov] (getMethod ov "__init__" pl)
      callWith pos f first (backTo pos (starEach (e :: es) X.env)) []) := by rfl) :
    PySem.wpAt (model X.prog X.w) X.A (.func body X.env) (exec (.Expr (.Call (.Attribute (.Call (.Name "super" p0) [] [] p1) "__init__" apos) (e :: es) [] pos) pos2) X.env)
      (fun fl s' => fl = .next ∧ ∃ H', Inv X pins σ H' s' ∧ R H') X.xe s := by
  obtain ⟨hh, g, d, tk, os⟩ := s
  have X0 := I.kIn
  obtain ⟨cl, cld, csl, hcell⟩ := FT.cell
  obtain ⟨cd, hcd⟩ := FT.cls
  obtain ⟨oD, hD1, hD2⟩ := clsIn_at X0 hcd
  obtain ⟨mA, O, _, _, _, _⟩ := ins_get I.hok hx
  obtain ⟨odx, J, _⟩ := O.look
  refine ks_wpAt_Expr_any (PySem.wpAt_mono (Q := fun u s' => ∃ H', Inv X pins σ H' s' ∧ R H') ?_ (fun _ s' hq => ⟨rfl, hq⟩) fun _ _ y => y) hint hsw
  refine ks_wpAt_MethodCall (pl := pl) ?_ ht
  refine ks_wpAt_super_base V.ks V.kc (by rfl) V.fu (X0 _ _ hf) rfl rfl V.co (X0 _ _ hcode) rfl hvs hfile FT.top ?_
  obtain ⟨mb, b1, b2⟩ := I.mod.blt
  refine PySem.W.ks_loadName_global I.ok.kind V.ks (Calls.loadGlobal_builtin (by rw [I.ok.glob]; exact I.mod.glob.keeps I.bk) FT.sup (by rw [I.ok.blt]; exact b1.keeps I.bk) ((b2 _ (by decide)).trans (by decide +kernel)) ⟨rfl, ?_⟩)
  refine wpAny_loadName_free I.ok.kind V.kc V.cl ⟨_, X0 _ _ hcell, rfl⟩ ?_
  obtain ⟨m, hn, hl⟩ := I.loc
  obtain ⟨u, ru, l⟩ := hl 0 "self" _ V.n0 hself (.inl V.kself)
  obtain rfl : u = Value.ref x := ru
  have hm : m "self" = some (Value.ref x) := by
    rcases l with ⟨_, hm⟩ | ⟨hk, _⟩
    · exact hm
    · rw [V.kself] at hk
      rcases hk with hk | hk <;> cases hk
  refine wpAny_loadName_local I.ok.kind V.kself hn hm ?_
  refine ks_wpAny_isType_cls hD1 hD2 ⟨rfl, ?_⟩
  refine ks_wpAny_call_super hD1 hD2 J.at_ J.cls (fun c e => ?_) (PySem.W.looks_mroIn X0 FT.sub) (fun h' e k => ?_)
  · have := J.no
    unfold PySem.W.notCls at this
    rw [e] at this
    exact Bool.noConfusion this
  have I1 : Inv X pins σ H ⟨h', g, d, tk, os⟩ := I.kept (t' := tk) k
  have hm2 := FT.meth
  unfold PySem.W.ks_superIn at hm2
  rw [hcd] at hm2
  obtain ⟨of, hof, hofc⟩ : ∃ of, h'.get? 745 = some of ∧ of.cls = .type "function" := by
    have ht' : (X.K.lookup 745).map (·.cls) = some (.type "function") := FT.mty
    cases z : X.K.lookup 745 with
    | none => rw [z] at ht'; cases ht'
    | some of => rw [z] at ht'; exact ⟨of, I1.kIn _ _ z, Option.some.inj ht'⟩
  refine ks_wpAny_getMethod_super e (PySem.W.looks_opaque I1.kIn FT.opq) (l₀ := cd.mro) ?_ rfl I1.kIn hm2 hof hofc (PySem.W.ks_ne X0 J hcd) (by rfl) ?_
  · exact fun A Q E s k q => wpAny_bind ((PySem.W.looks_clsIn I1.kIn hcd) A _ E s k (wpAny_pure q))
  have I2 : Inv X ((h'.objs.size, PySem.W.methodObj (.ref 745) (.ref x)) :: pins) σ H ⟨h'.push (PySem.W.methodObj (.ref 745) (.ref x)), g, d, tk + 1, os⟩ := ClX.met_new (g := 745) (C := x) I1
  refine ClX.callwith_cm (g := 745) (C := x) I2 (ClX.base_none I1 (Nat.le_refl _)) FT.mfn (thn (ha.run pos _ _ σ H _ I2 h) fun us s3 ⟨vs, H2, I3, rv, q2⟩ => ⟨⟨ClX.pin_at I3, I3.kIn⟩, ?_⟩) hst hpl
  exact thn (ClX.run_cm F hr (fun _ _ _ _ _ _ _ h => h.elim) I3 rv q2) fun u s4 ⟨v, H4, I4, _, q4⟩ => ⟨H4, I4, q4⟩
def t2_Faulty_init (K : PySem.W.Frag) : TS := sFld K (tVar 0) (tU (spD (WK K) 0 (mP 2 m_checked_stuck)) (tCons (tVar 4) (tCons (tCB (rLen' K) (tCons (tFld K (tVar 0) "joins") tNil)) tNil)) tNil) "held"
def nfF (cda : Addr) : NdefX.NF := ⟨"__init__", "Faulty.__init__", defArgs s_Faulty_init, defBody s_Faulty_init, defScope s_Faulty_init, [("__class__", 975)], cda⟩
theorem ns_Faulty (cda : Addr) : NdefX.NScope ["self", "n", "cells", "outputs", "stuck", "__class__"] ["self", "n", "cells", "outputs", "stuck"] ["__class__"] (nfF cda).scope := NdefX.nscope_by (show NdefX.nscB ["self", "n", "cells", "outputs", "stuck", "__class__"] ["self", "n", "cells", "outputs", "stuck"] ["__class__"] (defScope s_Faulty_init) = true by decide +kernel)
theorem five {us : List Value} {v1 v2 v3 v4 v5 : L2.V} (r : Vals [v1, v2, v3, v4, v5] us) : ∃ u1 u2 u3 u4 u5, us = [u1, u2, u3, u4, u5] ∧ RelV v1 u1 := by
  cases r with
  | cons a r => cases r with
    | cons b r => cases r with
      | cons c r => cases r with
        | cons d r => cases r with
          | cons e r => cases r; exact ⟨_, _, _, _, _, rfl, a⟩
section
variable {w : World} {base : Heap}
theorem hfau (T : Txt K mg) (FT : FauT P K mg) : HFau P w K mg base := by
  intro A outer s H us vs Q E hr e0 rv ⟨H1, F, x, dx, ws, ds, es, e1, hx, hdx, hne, eH, e, rr, q, kk⟩
  subst e1 eH
  unfold m_Faulty_init at q
  split at q
  · rename_i d1 d2 d3 d4
    obtain ⟨es0, q0, q1⟩ := Option.bind_eq_some_iff.mp q
    split at q1
    · rename_i n' js e' hd0
      obtain ⟨hd, q2, rfl⟩ := Option.map_eq_some_iff.mp q1
      obtain ⟨v1, v2, v3, v4, rfl, r1, r2, r3, r4⟩ : ∃ v1 v2 v3 v4, ws = [v1, v2, v3, v4] ∧ Rep (WK K) F v1 d1 ∧ Rep (WK K) F v2 d2 ∧ Rep (WK K) F v3 d3 ∧ Rep (WK K) F v4 d4 := by
        cases rr with
        | cons a rr => cases rr with
          | cons b rr => cases rr with
            | cons c rr => cases rr with
              | cons d rr => cases rr; exact ⟨_, _, _, _, rfl, a, b, c, d⟩
      obtain ⟨u0, u1, u2, u3, u4, rfl, ru⟩ := five rv
      obtain ⟨oc, od, kV, doc, pm, ct, an, cda, osl, hf, hcd, ccl, cdd, vs0, ccs, file, tf, hcode, hvs, hfile⟩ := FT.fn
      obtain ⟨od9, v9, n9, l9, o9⟩ := FT.dfl
      obtain ⟨cl, cld, csl, hcell⟩ := FT.cell
      have KX : K.In s.heap := e0.mod.kin.keeps fun b o e => (e0.bs b o e).1
      have lim : s.heap.NoLimit := e0.mod.nolimit.keeps fun b o e => (e0.bs b o e).1
      refine ks_codeAny_call_defAt (binds := (["self", "n", "cells", "outputs", "stuck"] : List Str).zip [u0, u1, u2, u3, u4]) hr.depth (KX _ _ hf) rfl lim (PySem.W.codeRec_of KX hcd) rfl ?_ (ns_Faulty cda).nocell ?_ (fun h₁ hns hk => ?_) rfl rfl rfl
      · refine BindsTo.of_looks fun M => ?_
        exact looks_items (T := 981) KX l9 o9 (.of_pure rfl)
      · intro y hy
        exact (ns_Faulty cda).par y.1 (List.of_mem_zip hy).1
      · have C : NdefX.CellsAt (nfF cda).cl ["__class__"] [none] s.heap (upd (upd H1 dx (.own x)) x (.ins ((WK K).ca 3) dx [])) := by
          have h975 := e0.bs 975 _ (e0.mod.kin _ _ hcell)
          have hl : ∀ (y : Str) (c : Addr), (nfF cda).cl.lookup y = some c → y = "__class__" ∧ c = 975 := by
            intro y c h
            have h' : List.lookup y [(("__class__" : Str), (975 : Addr))] = some c := h
            simp only [List.lookup] at h'
            split at h'
            · rename_i hb
              cases h'
              exact ⟨by simpa using hb, rfl⟩
            · cases h'
          refine ⟨rfl, fun y c h => ?_, fun y z c h1 h2 => (hl y c h1).1.trans (hl z c h2).1.symm, fun i y h => ?_⟩
          · obtain ⟨_, rfl⟩ := hl y c h
            exact ⟨h975.2, _, _, h975.1, rfl⟩
          · match i, h with
            | 0, h =>
              cases h
              exact ⟨975, rfl, fun v h => by cases h⟩
            | k + 1, h => cases h
        have I := NdefX.inv_startN (CX := CX0) (E := E) (P := P) (w := w) (mg := mg) (f := 989) (tk := s.toks + 5) (ns_Faulty cda) hr.hd e0 rfl rv C hns hk
        have hr6 := hr.deeper (NdefX.envF (nfF cda) 989 s.heap.objs.size)
        refine ks_wpAt_execs_cons ?_
        refine PySem.wpAt_mono (run_super (X := NdefX.ncx CX0 P w K mg base ["self", "n", "cells", "outputs", "stuck", "__class__"] (nfF cda) 989 A outer s _ E) (k := 5) (cda := cda)
          (R := fun H2 => ∃ F2 xs, Ext F H1 F2 H2 ∧ F2 x = none ∧ H2 x = some (.ins 1083 dx ((["bits", "joins", "ends", "held"] : List Str).zip xs)) ∧ (["bits", "joins", "ends", "held"] : List Str).length = xs.length ∧ Reps (WK K) F2 xs [n', .tup js, e', hd0])
          ⟨by rfl, by rfl, by rfl, rfl, rfl, by rfl, by rfl⟩ (by rfl) FT hf hcode hvs hfile (fr_Network_init T (netOk3 T)) (hr6.mono (by decide)) (pa_cons (pv 1) (pa_cons (pv 2) (pa_cons (pv 3) pa_nil))) I rfl upd_same ?_) (fun fl s' hq => ?_) fun _ _ y => y
        · refine ⟨v1, rfl, v2, rfl, v3, rfl, H1, F, x, dx, [v1, v2, v3], [d1, d2, d3], _, rfl, hx, hdx, hne, rfl, e, .cons r1 (.cons r2 (.cons r3 .nil)), q0, fun F2 H2 xs a b c d f => ⟨F2, xs, a, b, c, d, f⟩⟩
        · obtain ⟨rfl, H2, I2, F2, xs, a1, a2, a3, a4, a5⟩ := hq
          refine wpAt_of_wpAny ?_
          obtain ⟨x1, x2, x3, x4, rfl⟩ : ∃ x1 x2 x3 x4, xs = [x1, x2, x3, x4] := by
            match xs, a4 with
            | [x1, x2, x3, x4], _ => exact ⟨_, _, _, _, rfl⟩
          obtain ⟨y1, y2, y3, y4⟩ : Rep (WK K) F2 x1 n' ∧ Rep (WK K) F2 x2 (.tup js) ∧ Rep (WK K) F2 x3 e' ∧ Rep (WK K) F2 x4 hd0 := by
            cases a5 with
            | cons a b => cases b with
              | cons b c => cases c with
                | cons c d => cases d with
                  | cons d _ => exact ⟨a, b, c, d⟩
          have ps : PSs (NdefX.ncx CX0 P w K mg base ["self", "n", "cells", "outputs", "stuck", "__class__"] (nfF cda) 989 A outer s (upd (upd H1 dx (.own x)) x (.ins ((WK K).ca 3) dx [])) E) ((defBody s_Faulty_init).drop 1) (tSeq (t2_Faulty_init K) tNext) :=
            pss_cons (ps_fld (pv 0) (pe_u (g_checked_stuck T) (hr6.mono (by decide)) (by rfl) (pa_cons (pv 4) (pa_cons (pe_callB call_len (by rfl) T.b_len (by decide +kernel) (pa_cons (pe_fld (pv 0) rfl) pa_nil)) pa_nil))) rfl) pss_nil
          have N := (netOk3 T).1
          refine wpAny_mono (ps.run [] s' _ H2 { nx := fun _ H' => Q .non H', rt := Q } I2 ?_) (fun fl s3 hs => ?_) fun e s3 hs => hs
          · cases y2 with
            | @tup pj xj _ hp rp =>
              refine ⟨v4, rfl, _, rfl, x, 1083, dx, _, .ref pj, rfl, a3, N.cl, N.nj, rfl, ?_⟩
              refine ⟨_, xj.length, rfl, .inr ⟨xj, ex_t a1.s hp, rfl⟩, ?_⟩
              refine ⟨F2, [d4, .int js.length], [], hd, a1.s, .cons (r4.mono a1.f) (.cons (by rw [rp.length]; exact .int _) .nil), .nil, (show mP 2 m_checked_stuck _ _ = some hd from q2), fun vh F3 H3 e3 rh => ?_⟩
              refine ⟨_, rfl, x, 1083, dx, _, rfl, e3.h _ _ a3, N.cl, N.nh, by show (4 : Nat) < 1000; decide, ?_⟩
              have hF3 : F3 x = none := e3.u _ _ a3 a2
              refine kk F3 _ [x1, .ref pj, x3, vh] ((a1.trans e3).wr (u := .own 0) hx hF3) hF3 upd_same rfl ?_
              exact .cons (y1.mono e3.f) (.cons (.tup (ex_t e3.f hp) (rp.mono e3.f)) (.cons (y3.mono e3.f) (.cons rh .nil)))
          · match fl, hs with
            | .ret u, ⟨v, σ', H', J, rv, q⟩ => exact ⟨v, H', J.os, J.bare, J.base, J.hok, rv, q⟩
            | .next, ⟨σ', H', J, q⟩ => exact ⟨.non, H', J.os, J.bare, J.base, J.hok, rfl, q⟩
            | .brk, ⟨_, _, _, q⟩ => exact q.elim
            | .cont, ⟨_, _, _, q⟩ => exact q.elim
    · cases q1
  · cases q
end
end
end CP
/-! part CpAM -/
set_option Elab.async false
set_option linter.all false
set_option maxRecDepth 100000
set_option maxHeartbeats 400000
namespace CP
open PySem PySem.Spec PyProof.Rows L2
/-! ### the law's call, its guards known -/
def LawSp (K : PySem.W.Frag) : List V → Hp → VK → Prop := fun vs H Q => ∃ (a : Addr) (ns : List Int), vs = [.ref a] ∧ SqL K H a (ns.map V.int) ∧ ∀ H2, Q (.bl true) H2
section
variable {P : Program} {w : World} {K : PySem.W.Frag} {mg mb : Str → Option Value} {k : Nat} {fa a : Addr} {s₁ : Shared} {vs : List Value} {ns : List Int}
/-- what is tracked of the script: nothing if it is the text's own, else its frozen list -/
theorem script_hp (KX : K.In s₁.heap) (ha : s₁.heap.get? a = some { cls := .type "list", data := .seq vs.toArray }) (hi : IntsAre vs ns) (hl : ns.length ≤ sizeLine) :
    ∃ H : Hp, SqL K H a (ns.map V.int) ∧ HOk P w H s₁.heap ∧ (∀ b u, H b = some u → b = a ∧ K.lookup a = none ∧ ∃ o xs, u = .frz o (.lst xs)) := by
  have rv := vals_ints hi
  have sz : (ns.map V.int).length ≤ sizeLine := by
    rw [List.length_map]
    exact hl
  cases hk : K.lookup a with
  | some o =>
    obtain rfl : o = { cls := .type "list", data := .seq vs.toArray } := by
      have z := KX a o hk
      rw [ha] at z
      exact (Option.some.inj z).symm
    refine ⟨fun _ => none, .inr ⟨_, vs.toArray, _, hk, rfl, rfl, rfl, ?_, by simpa using rv⟩, fun b u z => ?_, fun b u z => ?_⟩
    · rw [List.size_toArray, hi.length]
      exact hl
    · exact absurd (show (none : Option HO) = some u from z) (by simp)
    · exact absurd (show (none : Option HO) = some u from z) (by simp)
  | none =>
    refine ⟨fun b => if b = a then some (.frz { cls := .type "list", data := .seq vs.toArray } (.lst (ns.map V.int))) else none, .inl (.inr ⟨_, if_pos rfl⟩), fun b u z => ?_, fun b u z => ?_⟩
    · by_cases e : b = a
      · subst e
        have z2 := (if_pos rfl).symm.trans z
        cases z2
        exact ⟨ha, sz, vs, _, rv, ha⟩
      · exact absurd ((if_neg e).symm.trans z) (by simp)
    · by_cases e : b = a
      · have z2 := (if_pos e).symm.trans z
        cases z2
        exact ⟨e, rfl, _, _, rfl⟩
      · exact absurd ((if_neg e).symm.trans z) (by simp)
theorem law_callG (KX : K.In s₁.heap) (hns : s₁.heap.Ns mainGlobals mg) (hb : s₁.heap.Ns builtinsNs mb) (hbb : ∀ x : Str, x ≠ "__name__" → mb x = bootBuiltins x) (hlim : s₁.heap.NoLimit) (hg : s₁.gens = #[])
    (ha : s₁.heap.get? a = some { cls := .type "list", data := .seq vs.toArray }) (hi : IntsAre vs ns) (hl : ns.length ≤ sizeLine) (hr : Room k callerA)
    (F : ∀ base : Heap, K.In base → base.Ns mainGlobals mg → FnG P w K mg base k fa 1 (LawSp K)) :
    codeAny (model P w) callerA (.call (.ref fa) ⟨[.ref a], []⟩) (fun r s' => r = .ok (.ret (.bool true)) ∧ OldK s₁.heap s'.heap ∧ s'.os = s₁.os ∧ AllBare s'.gens) s₁ := by
  obtain ⟨H, hS, hok, own⟩ := script_hp (P := P) (w := w) KX ha hi hl
  have none_of : ∀ {b : Addr} {o : Obj}, s₁.heap.get? b = some o → (b = a → False) → H b = none := by
    intro b o _ hne
    cases z : H b with
    | none => rfl
    | some u => exact (hne (own b u z).1).elim
  have dict_ne : ∀ {b : Addr} {o : Obj} {es : Array DictEntry} {ep : Nat}, s₁.heap.get? b = some o → o.data = .dict es ep → b = a → False := by
    rintro b o es ep e d rfl
    rw [ha] at e
    cases e
    have d2 : Data.seq vs.toArray _ = Data.dict es ep := d
    cases d2
  have ns_of : ∀ {b : Addr} {m : Str → Option Value}, s₁.heap.Ns b m → (hidT s₁.heap H).Ns b m := by
    rintro b m ⟨o, es, ep, e, d, r⟩
    exact ⟨o, es, ep, hidT_get e (none_of e (dict_ne e d)), d, r⟩
  have kin : K.In (hidT s₁.heap H) := by
    intro b o e
    refine hidT_get (KX b o e) ?_
    cases z : H b with
    | none => rfl
    | some u =>
      obtain ⟨rfl, hk, _⟩ := own b u z
      rw [hk] at e
      cases e
  obtain ⟨mc, l1, l2⟩ := hlim
  have modl : Mod K mg (hidT s₁.heap H) := ⟨kin, ns_of hns, ⟨mb, ns_of hb, hbb⟩, mc, ns_of l1, l2⟩
  have env : Env0 P w K mg (hidT s₁.heap H) callerA [] s₁ H :=
    { frames := rfl, mod := modl, bs := fun b o e => of_hidT e, bsz := Nat.le_of_eq (hidT_size _ _), funs := trivial
      frf := (fun b z => absurd (show b ∈ ([] : List Addr) from z) (by simp)), hok := hok, bare := .of_eq hg }
  refine codeAny_mono ((F _ kin (ns_of hns)).run callerA [] s₁ H [.ref a] [.ref a] (fun v _ => v = .bl true) rfl hr env rfl (.cons rfl .nil) ⟨a, ns, rfl, hS, fun _ => rfl⟩) ?_
  intro r s' got
  match r, got with
  | .ok (.ret u), ⟨v, H2, os, bare, un, hok2, rv, hv⟩ =>
    subst hv
    obtain rfl : u = Value.bool true := rv
    refine ⟨rfl, OldK.of_keep ?_, os, bare⟩
    intro b o e
    cases z : H b with
    | none => exact un.keep b o e z (fun y => absurd (show b ∈ ([] : List Addr) from y) (by simp)) (by simp)
    | some u =>
      obtain ⟨_, _, ob, xs, rfl⟩ := own b u z
      have f1 := (hok b _ z).1
      have f2 := (hok2 b _ (un.frzs b ob _ z)).1
      rw [e] at f1
      cases f1
      exact f2
/-- what the head wants, from such a promise -/
theorem walk_ofG {l : PySem.W.OpenLaw} {n : Nat} {q : Program} {loose : List Str} {XP : (Str → Option Value) → Heap → Prop} {YP : World → Heap → Prop} {d : DefRec}
    (hn : l.most = some n) (hn2 : n ≤ sizeLine) (hdf : d.params.defaults = []) (hr : Room k callerA)
    (F : ∀ (w : World) (mg : Str → Option Value) (fa : Addr) (h : Heap), YP w h → h.Ns mainGlobals mg → mg d.name = some (.ref fa) →
      ∃ K : PySem.W.Frag, K.In h ∧ ∀ base : Heap, K.In base → base.Ns mainGlobals mg → FnG l.prog w K mg base k fa 1 (LawSp K)) :
    PySem.W.WalkO q loose XP YP l.row.toRowW d [] (fun f vs => PySem.call f vs) := by
  refine Att.attach_call hn hdf ?_
  intro w s₀ s₁ mg mb fa o pm cd doc a vs ns G Y ho hd hcd hmg hobj hints hlen hg
  obtain ⟨K, KX, hF⟩ := F w mg fa _ Y G.T.g hmg
  exact law_callG KX G.T.g G.T.b G.T.builtins G.T.nolimit hg hobj hints (Nat.le_trans hlen hn2) hr hF
end
end CP
/-! part CpAN -/
set_option Elab.async false
set_option linter.all false
set_option maxRecDepth 100000
set_option maxHeartbeats 400000
namespace CP
open PySem PySem.Spec PyProof.Rows L2 CPH
theorem plainF : PlainF := by
  intro n ring ts h hl
  match ts, hl with
  | [], _ => exact ⟨[], ⟨h, .inl rfl⟩, rfl⟩
  | [a], _ => exact ⟨[a], ⟨h, .inr (.inl rfl)⟩, rfl⟩
  | [a, b], _ => exact ⟨[a, b, b, b], ⟨fun z hz => h z (by grind), .inr (.inr (.inl rfl))⟩, rfl⟩
  | [a, b, c], _ => exact ⟨[a, b, c, c], ⟨fun z hz => h z (by grind), .inr (.inr (.inl rfl))⟩, rfl⟩
  | [a, b, c, d], _ => exact ⟨[a, b, c, d], ⟨h, .inr (.inr (.inl rfl))⟩, rfl⟩
  | [a, b, c, d, e], _ => exact ⟨[a, b, c, d, e, e], ⟨fun z hz => h z (by grind), .inr (.inr (.inr rfl))⟩, rfl⟩
  | [a, b, c, d, e, f], _ => exact ⟨[a, b, c, d, e, f], ⟨h, .inr (.inr (.inr rfl))⟩, rfl⟩
  | _ :: _ :: _ :: _ :: _ :: _ :: _ :: _, hl => exact absurd hl (by simp)
end CP
/-! part CpAO -/
set_option Elab.async false
set_option linter.all false
set_option maxRecDepth 100000
set_option maxHeartbeats 400000
namespace CP
open PySem PySem.Spec PyProof.Rows L2 CPH
/-! ### data: equal or not -/
mutual
def eqB : D → D → Bool
  | .non, .non => true
  | .bool a, .bool b => a == b
  | .int a, .int b => decide (a = b)
  | .str a, .str b => decide (a = b)
  | .tup a, .tup b => eqBs a b
  | .lst a, .lst b => eqBs a b
  | .tpf a, .tpf b => eqBs a b
  | _, _ => false
def eqBs : List D → List D → Bool
  | [], [] => true
  | a :: as, b :: bs => eqB a b && eqBs as bs
  | _, _ => false
end
mutual
theorem eqB_eq : ∀ {a b : D}, eqB a b = true → a = b
  | .non, b, h => by cases b <;> simp [eqB] at h; rfl
  | .bool a, b, h => by cases b <;> simp [eqB] at h; rw [h]
  | .int a, b, h => by cases b <;> simp [eqB] at h; rw [h]
  | .str a, b, h => by cases b <;> simp [eqB] at h; rw [h]
  | .tup a, b, h => by cases b <;> simp [eqB] at h; rw [eqBs_eq h]
  | .lst a, b, h => by cases b <;> simp [eqB] at h; rw [eqBs_eq h]
  | .tpf a, b, h => by cases b <;> simp [eqB] at h; rw [eqBs_eq h]
  | .dct _ _, b, h => by cases b <;> simp [eqB] at h
  | .obj _ _, b, h => by cases b <;> simp [eqB] at h
  | .adr _, b, h => by cases b <;> simp [eqB] at h
theorem eqBs_eq : ∀ {a b : List D}, eqBs a b = true → a = b
  | [], b, h => by cases b <;> simp [eqBs] at h; rfl
  | a :: as, b, h => by
    cases b with
    | nil => simp [eqBs] at h
    | cons c cs =>
      simp [eqBs] at h
      rw [eqB_eq h.1, eqBs_eq h.2]
end
def oB (a : Option D) (b : D) : Bool := match a with
  | some x => eqB x b
  | none => false
theorem oB_eq {a : Option D} {b : D} (h : oB a b = true) : a = some b := by
  unfold oB at h
  split at h
  · rw [eqB_eq h]
  · cases h
/-! ### comprehensions and loops, whole -/
theorem mComp_filter {vs : List Nat} {f : D → CP.Env → Option CP.Env} {c : MT} {b : ME} {ρ : CP.Env} (p : D → Bool) (g : D → D) : ∀ ds : List D, (∀ d ∈ ds, ∃ ρ1, f d (wipeE ρ vs) = some ρ1 ∧ c ρ1 = some (p d) ∧ (p d = true → b ρ1 = some (g d))) → mComp vs f c b ρ ds = some ((ds.filter p).map g)
  | [], _ => rfl
  | d :: ds, h => by
    obtain ⟨ρ1, h1, h2, h3⟩ := h d (by simp)
    have ih := mComp_filter p g ds fun x hx => h x (by simp [hx])
    simp only [mComp, h1, Option.bind_some, h2]
    cases hp : p d with
    | true => simp [h3 hp, ih, hp]
    | false => simp [ih, hp]
theorem aComp_filter {vs : List Nat} {m : MA} {f : D → CP.Env → Option CP.Env} {c : MT} {b : ME} {ρ : CP.Env} {ds : List D} (p : D → Bool) (g : D → D) (hm : m ρ = some ds) (hc : cap ds.length = true) (h : ∀ d ∈ ds, ∃ ρ1, f d (wipeE ρ vs) = some ρ1 ∧ c ρ1 = some (p d) ∧ (p d = true → b ρ1 = some (g d))) :
    aComp vs m f c b ρ = some ((ds.filter p).map g) := by
  unfold aComp
  rw [hm, Option.bind_some, if_pos hc, mComp_filter p g ds h]
theorem cap_small {n : Nat} (h : n ≤ 100000) : cap n = true := by
  unfold cap
  exact Nat.ble_eq_true_of_le h
/-! ### lists of texts -/
theorem pys_strs : ∀ ts : List Str, pys (ts.map D.str) = ts.map PyData.str
  | [] => rfl
  | t :: ts => by simp [pys, py, pys_strs ts]
theorem lay_strs : ∀ ts : List Str, (∀ t ∈ ts, PyData.strOk t = true) → PyData.canLayAll0 (ts.map PyData.str) = true
  | [], _ => by simp [PyData.canLayAll0]
  | t :: ts, h => by simp [PyData.canLayAll0, PyData.canLay0, h t, lay_strs ts fun z hz => h z (by simp [hz])]
theorem dep_strs : ∀ ts : List Str, PyData.depthAll (ts.map PyData.str) = 0
  | [] => by simp [PyData.depthAll]
  | t :: ts => by simp [PyData.depthAll, PyData.depth, dep_strs ts]
theorem shp_strs (ts : List Str) (h : ∀ t ∈ ts, PyData.strOk t = true) : shp (.lst (ts.map D.str)) = true := by
  unfold shp
  simp only [py, pys_strs]
  unfold SeqAt.shaped
  simp [PyData.canLay0, PyData.depth, lay_strs ts h, dep_strs ts]
theorem eqD_strs (ts : List Str) (h : ∀ t ∈ ts, PyData.strOk t = true) : gEqD false (.lst (ts.map D.str)) (.lst []) = some (.bool ts.isEmpty) := by
  unfold gEqD
  rw [if_pos (by rw [shp_strs ts h, show shp (.lst []) = true from by decide +kernel]; rfl)]
  cases ts <;> simp [dEq, py, pys, PyData.eqv, PyData.eqvAll]
theorem neD_strs (ts : List Str) (h : ∀ t ∈ ts, PyData.strOk t = true) : gEqD true (.lst (ts.map D.str)) (.lst []) = some (.bool !ts.isEmpty) := by
  unfold gEqD
  rw [if_pos (by rw [shp_strs ts h, show shp (.lst []) = true from by decide +kernel]; rfl)]
  cases ts <;> simp [dEq, py, pys, PyData.eqv, PyData.eqvAll]
theorem filter_strs (p : D → Bool) : ∀ ts : List Str, (ts.map D.str).filter p = (ts.filter fun t => p (.str t)).map D.str
  | [] => rfl
  | t :: ts => by
    simp only [List.map_cons, List.filter_cons, filter_strs p ts]
    split <;> simp
end CP
/-! part CpAP -/
set_option Elab.async false
set_option linter.all false
set_option maxRecDepth 100000
set_option maxHeartbeats 400000
namespace CP
open PySem PySem.Spec PyProof.Rows L2 CPH
/-! ### steps of the readings -/
theorem seq_nx {a b : MS} {ρ ρ' : CP.Env} {r : Option Res} (h : a ρ = some (.nx ρ')) (h2 : b ρ' = r) : sSeq a b ρ = r := by simp [sSeq, h, h2]
theorem seq_rt {a b : MS} {ρ : CP.Env} {d : D} (h : a ρ = some (.rt d)) : sSeq a b ρ = some (.rt d) := by simp [sSeq, h]
theorem asg_nx {a : ME} {f : D → CP.Env → Option CP.Env} {ρ ρ' : CP.Env} {d : D} (h : a ρ = some d) (hf : f d ρ = some ρ') : sAsg a f ρ = some (.nx ρ') := by simp [sAsg, h, hf]
theorem asgO_nx {a : MA} {i : Nat} {ρ : CP.Env} {ds : List D} (h : a ρ = some ds) : sAsgO i a ρ = some (.nx (setOw i ds ρ)) := by simp [sAsgO, h]
theorem eU_at {m : List D → List D → Option D} {a b : MA} {ρ : CP.Env} {ds es : List D} {d : D} (ha : a ρ = some ds) (hb : b ρ = some es) (h : m ds es = some d) : eU m a b ρ = some d := by simp [eU, ha, hb, h]
theorem eUK_at {n : Nat} {m : List D → List D → Option D} {a b : MA} {ρ : CP.Env} {ds es : List D} {d : D} (ha : a ρ = some ds) (hb : b ρ = some es) (hn : es.length = n) (h : m ds es = some d) : eUK n m a b ρ = some d := by simp [eUK, ha, hb, h, hn]
theorem eBin_at {g : D → D → Option D} {a b : ME} {ρ : CP.Env} {x y d : D} (ha : a ρ = some x) (hb : b ρ = some y) (h : g x y = some d) : eBin g a b ρ = some d := by simp [eBin, ha, hb, h]
theorem eNew_at {a : MA} {ρ : CP.Env} {ds : List D} (h : a ρ = some ds) : eNew a ρ = some (.lst ds) := by simp [eNew, h]
theorem eCall_at {g : List D → Option D} {a : MA} {ρ : CP.Env} {ds : List D} {d : D} (h : a ρ = some ds) (h2 : g ds = some d) : eCall g a ρ = some d := by simp [eCall, h, h2]
theorem aCons_at {a : ME} {b : MA} {ρ : CP.Env} {x : D} {xs : List D} (h : a ρ = some x) (h2 : b ρ = some xs) : aCons a b ρ = some (x :: xs) := by simp [aCons, h, h2]
theorem tOf_at {a : ME} {ρ : CP.Env} {b : Bool} (h : a ρ = some (.bool b)) : tOf a ρ = some b := by simp [tOf, h, dB]
theorem if_at {c : MT} {a b : MS} {ρ : CP.Env} {x : Bool} {r : Option Res} (h : c ρ = some x) (h2 : (if x = true then a ρ else b ρ) = r) : sIf c a b ρ = r := by simp [sIf, h, h2]
theorem for_at {m : MA} {f : D → CP.Env → Option CP.Env} {b : MS} {ρ : CP.Env} {ds : List D} {r : Option Res} (h : m ρ = some ds) (h2 : mFor f b ds ρ = r) : sFor m f b ρ = r := by simp [sFor, h, h2]
theorem iLst_at {a : ME} {ρ : CP.Env} {ds : List D} (h : a ρ = some (.lst ds)) : iLst a ρ = some ds := by simp [iLst, h, lstOf]
theorem ret_at {a : ME} {ρ : CP.Env} {d : D} (h : a ρ = some d) : sRet a ρ = some (.rt d) := by simp [sRet, h]
theorem runB_at {n : Nat} {b : MS} {ds : List D} {d : D} (h : b (startE n ds) = some (.rt d)) : runB n b ds = some d := by simp [runB, h]
/-- a loop that appends: acc grows by g d, the env's other part varies -/
theorem mFor_env {α : Type} {f : D → CP.Env → Option CP.Env} {b : MS} (env : α → CP.Env) (next : α → D → α) : ∀ (ds : List D) (x : α), (∀ (x : α) (d : D), d ∈ ds → ∃ ρ1, f d (env x) = some ρ1 ∧ b ρ1 = some (.nx (env (next x d)))) → mFor f b ds (env x) = some (.nx (env (ds.foldl next x)))
  | [], x, _ => rfl
  | d :: ds, x, h => by
    obtain ⟨ρ1, h1, h2⟩ := h x d (by simp)
    simp only [mFor, h1, Option.bind_some, h2, List.foldl_cons]
    exact mFor_env env next ds _ fun x d hd => h x d (by simp [hd])
/-! ### what is seen -/
def iOf (d : Option D) : Int := match d with
  | some (.int i) => i
  | _ => 0
def isI (d : Option D) : Bool := match d with
  | some (.int _) => true
  | _ => false
theorem isI_eq {d : Option D} (h : isI d = true) : d = some (.int (iOf d)) := by
  unfold isI at h
  split at h
  · rfl
  · cases h
def seen (row : D) (t : Str) : Int := iOf (m__law_seen [row, .str t])
def badT (due row : D) (t : Str) : Bool := !decide (seen row t = seen due t)
def wrongL (due : D) (rows : List D) (trials ts : List Str) : List D := rows.flatMap fun row => if (ts.filter (badT due row)).isEmpty = true then (trials.filter (badT due row)).map fun t => .tup [row, .str t] else []
structure WF (n e : Int) (ring stuck : Bool) (due : D) (rows : List D) (trials : List Str) : Prop where
  hdue : m__law_due [.int n, .int e, .bool ring] = some due
  hrows : m__law_all_rows [.int n, .bool ring, .bool stuck] = some (.lst rows)
  htr : m__law_all_trials [.int n, .bool ring] = some (.lst (trials.map .str))
  hseen : ∀ row ∈ due :: rows, ∀ t ∈ trials, isI (m__law_seen [row, .str t]) = true
  ok : ∀ t ∈ trials, PyData.strOk t = true
  small : rows.length * trials.length ≤ 1000 ∧ trials.length ≤ 1000
abbrev eW0 (ts : List Str) (n e : Int) (ring stuck : Bool) (due : D) (x : List D × Option EV × Option EV) : CP.Env :=
  [some (.fr (.lst (ts.map .str))), some (.fr (.int n)), some (.fr (.int e)), some (.fr (.bool ring)), some (.fr (.bool stuck)), some (.fr due), some (.ow x.1), x.2.1, x.2.2, none]
theorem seen_at {n e : Int} {ring stuck : Bool} {due : D} {rows : List D} {trials : List Str} (F : WF n e ring stuck due rows trials) {row : D} (hr : row ∈ due :: rows) {t : Str} (ht : t ∈ trials) : m__law_seen [row, .str t] = some (.int (seen row t)) := isI_eq (F.hseen row hr t ht)
theorem int_ne (a b : Int) : gEq true (.int a) (.int b) = some (.bool !decide (a = b)) := by simp [gEq, sc, scal]
theorem wrong_ones {n e : Int} {ring stuck : Bool} {due : D} {rows : List D} {trials ts : List Str} (F : WF n e ring stuck due rows trials) (hts : ∀ t ∈ ts, t ∈ trials) (hl : ts.length ≤ 1000) :
    m__law_wrong_ones [.lst (ts.map .str), .int n, .int e, .bool ring, .bool stuck] = some (.lst (wrongL due rows trials ts)) := by
  have bads : ∀ (ρ : CP.Env) (row : D) (l : List Str) (m : MA), row ∈ rows → (∀ t ∈ l, t ∈ trials) → l.length ≤ 1000 → m ρ = some (l.map .str) → ρ[5]? = some (some (.fr due)) → ρ[7]? = some (some (.fr row)) → ρ.length = 10 →
      aComp [9] m (gN 9) (tOf (eBin (gEq true) (eU (mP 2 m__law_seen) (aCons (eVar 7) (aCons (eVar 9) aNil)) aNil) (eU (mP 2 m__law_seen) (aCons (eVar 5) (aCons (eVar 9) aNil)) aNil))) (eVar 9) ρ = some ((l.filter (badT due row)).map .str) := by
    intro ρ row l m hr hl2 hlen hm h5 h7 hρ
    rw [aComp_filter (ds := l.map .str) (fun d => match d with
      | .str t => badT due row t
      | _ => false) id hm (cap_small (by rw [List.length_map]; omega)) ?_]
    · rw [filter_strs, List.map_id]
    · intro d hd
      obtain ⟨t, ht, rfl⟩ := List.mem_map.mp hd
      have g9 : getFr (setFr 9 (.str t) (wipeE ρ [9])) 9 = some (.str t) := by simp [getFr, setFr, wipeE, hρ]
      have g7 : getFr (setFr 9 (.str t) (wipeE ρ [9])) 7 = some row := by simp [getFr, setFr, wipeE, h7]
      have g5 : getFr (setFr 9 (.str t) (wipeE ρ [9])) 5 = some due := by simp [getFr, setFr, wipeE, h5]
      refine ⟨setFr 9 (.str t) (wipeE ρ [9]), rfl, tOf_at (eBin_at (eU_at (aCons_at g7 (aCons_at g9 rfl)) rfl (show mP 2 m__law_seen _ _ = _ from seen_at F (by simp [hr]) (hl2 t ht))) (eU_at (aCons_at g5 (aCons_at g9 rfl)) rfl (show mP 2 m__law_seen _ _ = _ from seen_at F (by simp) (hl2 t ht))) (int_ne _ _)), fun _ => g9⟩
  have loop : ∀ (rs : List D), (∀ r ∈ rs, r ∈ rows) → ∀ x : List D × Option EV × Option EV, x.1.length + rs.length * trials.length ≤ 2000 → ∃ y7 y8, mFor (gN 7) (sIf (tOf (eBin (gEqD false) (eNew (aComp [9] (iLst (eVar 0)) (gN 9) (tOf (eBin (gEq true) (eU (mP 2 m__law_seen) (aCons (eVar 7) (aCons (eVar 9) aNil)) aNil) (eU (mP 2 m__law_seen) (aCons (eVar 5) (aCons (eVar 9) aNil)) aNil))) (eVar 9))) (eLst aNil))) (sSeq (sAsg (eNew (aComp [9] (iLst (eU (mP 2 m__law_all_trials) (aCons (eVar 1) (aCons (eVar 3) aNil)) aNil)) (gN 9) (tOf (eBin (gEq true) (eU (mP 2 m__law_seen) (aCons (eVar 7) (aCons (eVar 9) aNil)) aNil) (eU (mP 2 m__law_seen) (aCons (eVar 5) (aCons (eVar 9) aNil)) aNil))) (eVar 9))) (gN 8)) (sExtend 6 (eNew (aComp [9] (iLst (eVar 8)) (gN 9) (fun _ => some true) (eTup (aCons (eVar 7) (aCons (eVar 9) aNil))))))) sNext) rs (eW0 ts n e ring stuck due x) = some (.nx (eW0 ts n e ring stuck due (x.1 ++ wrongL due rs trials ts, y7, y8))) := by
    intro rs
    induction rs with
    | nil => exact fun _ x _ => ⟨x.2.1, x.2.2, by simp [mFor, wrongL]⟩
    | cons row rs ih =>
      intro hrs x hx
      have hrow := hrs row (by simp)
      have hlen : (row :: rs).length * trials.length = trials.length + rs.length * trials.length := by rw [List.length_cons, Nat.succ_mul]; omega
      rw [hlen] at hx
      have hfl : (trials.filter (badT due row)).length ≤ trials.length := List.length_filter_le ..
      have htl := F.small.2
      have hok : ∀ t ∈ ts.filter (badT due row), PyData.strOk t = true := fun t ht => F.ok t (hts t (List.mem_filter.mp ht).1)
      have first : gN 7 row (eW0 ts n e ring stuck due x) = some (eW0 ts n e ring stuck due (x.1, some (.fr row), x.2.2)) := rfl
      have test : (tOf (eBin (gEqD false) (eNew (aComp [9] (iLst (eVar 0)) (gN 9) (tOf (eBin (gEq true) (eU (mP 2 m__law_seen) (aCons (eVar 7) (aCons (eVar 9) aNil)) aNil) (eU (mP 2 m__law_seen) (aCons (eVar 5) (aCons (eVar 9) aNil)) aNil))) (eVar 9))) (eLst aNil))) (eW0 ts n e ring stuck due (x.1, some (.fr row), x.2.2)) = some (ts.filter (badT due row)).isEmpty :=
        tOf_at (eBin_at (eNew_at (bads _ row ts _ hrow hts hl rfl rfl rfl rfl)) rfl (eqD_strs _ hok))
      cases hE : (ts.filter (badT due row)).isEmpty with
      | false =>
        obtain ⟨y7, y8, h⟩ := ih (fun r hr => hrs r (by simp [hr])) (x.1, some (.fr row), x.2.2) (by simp only; omega)
        refine ⟨y7, y8, ?_⟩
        have hw : wrongL due (row :: rs) trials ts = wrongL due rs trials ts := by
          unfold wrongL
          rw [List.flatMap_cons, hE, if_neg Bool.false_ne_true, List.nil_append]
        rw [hw, ← h]
        simp only [mFor, first, Option.bind_some]
        rw [if_at (r := some (.nx (eW0 ts n e ring stuck due (x.1, some (.fr row), x.2.2)))) test (by rw [hE, if_neg Bool.false_ne_true]; rfl)]
        rfl
      | true =>
        have hbad : (trials.filter (badT due row)).map (fun t => D.tup [row, .str t]) = ((trials.filter (badT due row)).map .str).map fun d => D.tup [row, d] := by simp
        obtain ⟨y7, y8, h⟩ := ih (fun r hr => hrs r (by simp [hr])) (x.1 ++ (trials.filter (badT due row)).map (fun t => D.tup [row, .str t]), some (.fr row), some (.fr (.lst ((trials.filter (badT due row)).map .str)))) (by simp only [List.length_append, List.length_map]; omega)
        refine ⟨y7, y8, ?_⟩
        have hw : wrongL due (row :: rs) trials ts = (trials.filter (badT due row)).map (fun t => D.tup [row, .str t]) ++ wrongL due rs trials ts := by
          unfold wrongL
          rw [List.flatMap_cons, hE, if_pos rfl]
        rw [hw, ← List.append_assoc, ← h]
        simp only [mFor, first, Option.bind_some]
        rw [if_at test (r := some (.nx (eW0 ts n e ring stuck due (x.1 ++ (trials.filter (badT due row)).map (fun t => D.tup [row, .str t]), some (.fr row), some (.fr (.lst ((trials.filter (badT due row)).map .str))))))) ?_]
        · rfl
        · rw [hE, if_pos rfl]
          refine seq_nx (asg_nx (ρ' := eW0 ts n e ring stuck due (x.1, some (.fr row), some (.fr (.lst ((trials.filter (badT due row)).map .str))))) (eNew_at (bads _ row trials _ hrow (fun _ h => h) htl (iLst_at (eU_at rfl rfl (show mP 2 m__law_all_trials _ _ = _ from F.htr))) rfl rfl rfl)) rfl) ?_
          have comp : aComp [9] (iLst (eVar 8)) (gN 9) (fun _ => some true) (eTup (aCons (eVar 7) (aCons (eVar 9) aNil))) (eW0 ts n e ring stuck due (x.1, some (.fr row), some (.fr (.lst ((trials.filter (badT due row)).map .str))))) = some (((trials.filter (badT due row)).map .str).map fun d => D.tup [row, d]) := by
            rw [aComp_filter (f := gN 9) (vs := [9]) (c := fun _ => some true) (b := eTup (aCons (eVar 7) (aCons (eVar 9) aNil))) (ds := (trials.filter (badT due row)).map .str) (fun _ => true) (fun d => D.tup [row, d]) rfl (cap_small (by rw [List.length_map]; omega)) fun d _ => ⟨_, rfl, rfl, fun _ => rfl⟩]
            rw [List.filter_eq_self.mpr (fun _ _ => rfl)]
          rw [hbad]
          unfold sExtend
          rw [eNew_at comp]
          simp only [Option.bind_some]
          show (if cap (x.1.length + _) = true then _ else none) = _
          rw [if_pos (cap_small (by rw [List.length_map, List.length_map]; omega))]
          rfl
  have hs := F.small.1
  obtain ⟨y7, y8, h⟩ := loop rows (fun _ h => h) ([], none, none) (by simp only [List.length_nil]; omega)
  refine runB_at (seq_nx (asg_nx (eU_at rfl rfl (show mP 3 m__law_due _ _ = _ from F.hdue)) rfl) (seq_nx (asgO_nx rfl) (seq_nx (for_at (iLst_at (eU_at rfl rfl (show mP 3 m__law_all_rows _ _ = _ from F.hrows))) h) ?_)))
  rfl
end CP
/-! part CpAQ -/
set_option Elab.async false
set_option linter.all false
set_option maxRecDepth 100000
set_option maxHeartbeats 400000
namespace CP
open PySem PySem.Spec PyProof.Rows L2 CPH
/-! ### refuters -/
def bOf (d : Option D) : Bool := match d with
  | some (.bool b) => b
  | _ => false
def isBo (d : Option D) : Bool := match d with
  | some (.bool _) => true
  | _ => false
theorem isBo_eq {d : Option D} (h : isBo d = true) : d = some (.bool (bOf d)) := by
  unfold isBo at h
  split at h
  · rfl
  · cases h
def crT (e : Int) (t : Str) : Int := iOf (m_true_carry [.str t, .int e])
def ldT (due : D) (t : Str) : Int := iOf (m_leading_passes [.str t, due])
def rfT (e : Int) (o : D) (t : Str) : Bool := bOf (m_is_refuted [.str t, o, .int (crT e t)])
def atT (e : Int) (due : D) (place : Nat) (o : D) (t : Str) : Bool := decide ((place : Int) ≤ ldT due t) && rfT e o t
structure RF (n e : Int) (ring stuck : Bool) (due : D) (opts : List (List D)) (trials : List Str) : Prop where
  hdue : m_due_positions [.int n, .int e, .bool ring] = some due
  hopt : m_options_of [.int n, .int e, .bool ring, .bool stuck] = some (.lst (opts.map .lst))
  hcr : ∀ t ∈ trials, isI (m_true_carry [.str t, .int e]) = true
  hld : ∀ t ∈ trials, isI (m_leading_passes [.str t, due]) = true
  hrf : ∀ t ∈ trials, ∀ l ∈ opts, ∀ o ∈ l, isBo (m_is_refuted [.str t, o, .int (crT e t)]) = true
  small : opts.length ≤ 100 ∧ ∀ l ∈ opts, l.length ≤ 100
def bitI (j : Nat) : Int := 1 * 2 ^ ((0 : Int) + (j : Int)).toNat
def knownL (e : Int) (due : D) : Nat → List Str → List D
  | _, [] => []
  | j, t :: ts => .tup [.int (bitI j), .str t, .int (crT e t), .int (ldT due t)] :: knownL e due (j + 1) ts
def askedL (e : Int) (due : D) (place : Nat) : Nat → List Str → List D
  | _, [] => []
  | j, t :: ts => (if (place : Int) ≤ ldT due t then [D.tup [.int (bitI j), .str t, .int (crT e t)]] else []) ++ askedL e due place (j + 1) ts
def hitsL (e : Int) (due : D) (place : Nat) (o : D) : Nat → List Str → List Int
  | _, [] => []
  | j, t :: ts => (if atT e due place o t = true then [bitI j] else []) ++ hitsL e due place o (j + 1) ts
def maskT (e : Int) (due : D) (place : Nat) (o : D) (ts : List Str) : Int := (hitsL e due place o 0 ts).sum
def tableFrom (e : Int) (due : D) (ts : List Str) : Nat → List (List D) → List D
  | _, [] => []
  | p, l :: r => .lst (l.map fun o => .int (maskT e due p o ts)) :: tableFrom e due ts (p + 1) r
def tableD (e : Int) (due : D) (opts : List (List D)) (ts : List Str) : D := .lst (tableFrom e due ts 0 opts)
theorem knownL_len (e : Int) (due : D) : ∀ (j : Nat) (ts : List Str), (knownL e due j ts).length = ts.length
  | _, [] => rfl
  | j, t :: ts => by simp [knownL, knownL_len e due (j + 1) ts]
theorem askedL_len (e : Int) (due : D) (p : Nat) : ∀ (j : Nat) (ts : List Str), (askedL e due p j ts).length ≤ ts.length
  | _, [] => Nat.le_refl _
  | j, t :: ts => by
    have := askedL_len e due p (j + 1) ts
    simp only [askedL, List.length_append, List.length_cons]
    split <;> simp <;> omega
/-- an enumeration, by its start -/
def enumFrom (xs : List D) : Nat → List D
  | j => match xs with
    | [] => []
    | x :: r => .tup [.int ((0 : Int) + (j : Int)), x] :: enumFrom r (j + 1)
theorem enumD_from (xs : List D) : ∀ j : Nat, pairD ((List.range' j xs.length).map fun i : Nat => D.int ((0 : Int) + (i : Int))) xs = enumFrom xs j := by
  induction xs with
  | nil => intro j; rfl
  | cons x r ih =>
    intro j
    rw [List.length_cons, List.range'_succ, List.map_cons]
    show D.tup [.int ((0 : Int) + (j : Int)), x] :: pairD _ r = _
    rw [ih (j + 1)]
    rfl
theorem enumD_eq (xs : List D) : enumD xs = enumFrom xs 0 := by
  unfold enumD upD
  rw [List.range_eq_range']
  exact enumD_from xs 0
theorem iEn_at {a : ME} {ρ : CP.Env} {ds : List D} (h : a ρ = some (.lst ds)) : iEn a ρ = some (enumFrom ds 0) := by simp [iEn, h, lstOf, enumD_eq]
theorem iEnT_at {a : ME} {ρ : CP.Env} {ds : List D} (h : a ρ = some (.tup ds)) : iEnT a ρ = some (enumFrom ds 0) := by simp [iEnT, h, tupOf, enumD_eq]
theorem eUp {k : Nat} {m : List D → Option D} {a : MA} {ρ : CP.Env} {ds : List D} {d : D} (ha : a ρ = some ds) (hn : ds.length = k) (h : m ds = some d) : eU (mP k m) a aNil ρ = some d := by simp [eU, ha, aNil, mP, hn, h]
theorem eTup_at {a : MA} {ρ : CP.Env} {xs : List D} (h : a ρ = some xs) (hc : xs.length ≤ 100000) : eTup a ρ = some (.tup xs) := by
  unfold eTup
  rw [h, Option.bind_some]
  exact if_pos (cap_small hc)
theorem app_at {i : Nat} {a : ME} {ρ : CP.Env} {d : D} {ds : List D} (h : a ρ = some d) (h2 : ρ[i]? = some (some (.ow ds))) (hc : ds.length ≤ 100000) : sApp i a ρ = some (.nx (setOw i (ds ++ [d]) ρ)) := by
  unfold sApp
  rw [h, Option.bind_some, h2]
  exact if_pos (cap_small hc)
abbrev eR (ts : List Str) (n e : Int) (ring stuck : Bool) (due : D) (y6 y7 y8 y9 y10 y11 y12 y13 y14 : Option EV) : CP.Env :=
  [some (.fr (.int n)), some (.fr (.tup (ts.map .str))), some (.fr (.int e)), some (.fr (.bool ring)), some (.fr (.bool stuck)), some (.fr due), y6, y7, y8, y9, y10, y11, y12, y13, y14, none, none, none]
theorem shl_bit {j : Nat} (h : j ≤ 1000) : gShl (.int 1) (.int ((0 : Int) + (j : Int))) = some (.int (bitI j)) := by
  show (if cPow 1 ((0 : Int) + (j : Int)) = true then some (D.int (bitI j)) else none) = _
  rw [if_pos]
  · unfold cPow
    simp only [Bool.and_eq_true, decide_eq_true_eq]
    exact ⟨⟨by omega, by omega⟩, by decide +kernel⟩
section
variable {n e : Int} {ring stuck : Bool} {due : D} {opts : List (List D)} {trials ts0 : List Str}
theorem ref_loop1 (F : RF n e ring stuck due opts trials) : ∀ (ts : List Str) (j : Nat), (∀ t ∈ ts, t ∈ trials) → j + ts.length ≤ 1000 → ∀ (acc : List D) (x8 x9 : Option EV), acc.length + ts.length ≤ 1000 → ∃ y8 y9,
    mFor (gTp (gCons0 (gN 8) (gCons0 (gN 9) gNil0)) 2) (sApp 6 (eTup (aCons (eBin gShl (eC (.int 1)) (eVar 8)) (aCons (eVar 9) (aCons (eU (mP 2 m_true_carry) (aCons (eVar 9) (aCons (eVar 2) aNil)) aNil) (aCons (eU (mP 2 m_leading_passes) (aCons (eVar 9) (aCons (eVar 5) aNil)) aNil) aNil)))))) (enumFrom (ts.map .str) j)
      (eR ts0 n e ring stuck due (some (.ow acc)) none x8 x9 none none none none none) = some (.nx (eR ts0 n e ring stuck due (some (.ow (acc ++ knownL e due j ts))) none y8 y9 none none none none none)) := by
  intro ts
  induction ts with
  | nil => exact fun j _ _ acc x8 x9 _ => ⟨x8, x9, by simp [mFor, knownL, enumFrom]⟩
  | cons t ts ih =>
    intro j hts hj acc x8 x9 hacc
    rw [List.length_cons] at hj hacc
    have ht := hts t (by simp)
    obtain ⟨y8, y9, h⟩ := ih (j + 1) (fun t ht => hts t (by simp [ht])) (by omega) (acc ++ [.tup [.int (bitI j), .str t, .int (crT e t), .int (ldT due t)]]) (some (.fr (.int ((0 : Int) + (j : Int))))) (some (.fr (.str t))) (by simp only [List.length_append, List.length_cons, List.length_nil]; omega)
    refine ⟨y8, y9, ?_⟩
    rw [show acc ++ knownL e due j (t :: ts) = (acc ++ [.tup [.int (bitI j), .str t, .int (crT e t), .int (ldT due t)]]) ++ knownL e due (j + 1) ts by simp [knownL], ← h]
    have ap : sApp 6 (eTup (aCons (eBin gShl (eC (.int 1)) (eVar 8)) (aCons (eVar 9) (aCons (eU (mP 2 m_true_carry) (aCons (eVar 9) (aCons (eVar 2) aNil)) aNil) (aCons (eU (mP 2 m_leading_passes) (aCons (eVar 9) (aCons (eVar 5) aNil)) aNil) aNil))))) (eR ts0 n e ring stuck due (some (.ow acc)) none (some (.fr (.int ((0 : Int) + (j : Int))))) (some (.fr (.str t))) none none none none none) = _ :=
      app_at (d := .tup [.int (bitI j), .str t, .int (crT e t), .int (ldT due t)]) (eTup_at (aCons_at (eBin_at rfl rfl (shl_bit (by omega))) (aCons_at rfl (aCons_at (eUp rfl rfl (isI_eq (F.hcr t ht))) (aCons_at (eUp rfl rfl (isI_eq (F.hld t ht))) rfl)))) (by simp)) rfl (by omega)
    show Option.bind (some (eR ts0 n e ring stuck due (some (.ow acc)) none (some (.fr (.int ((0 : Int) + (j : Int))))) (some (.fr (.str t))) none none none none none)) _ = _
    rw [Option.bind_some, ap]
    rfl
end
end CP
/-! part CpAR -/
set_option Elab.async false
set_option linter.all false
set_option maxRecDepth 100000
set_option maxHeartbeats 400000
namespace CP
open PySem PySem.Spec PyProof.Rows L2 CPH
section
variable {n e : Int} {ring stuck : Bool} {due : D} {opts : List (List D)} {trials ts0 : List Str}
theorem askedL_cons (e : Int) (due : D) (p j : Nat) (t : Str) (ts : List Str) : askedL e due p j (t :: ts) = (if (p : Int) ≤ ldT due t then [D.tup [.int (bitI j), .str t, .int (crT e t)]] else []) ++ askedL e due p (j + 1) ts := rfl
theorem hitsL_cons (e : Int) (due : D) (p : Nat) (o : D) (j : Nat) (t : Str) (ts : List Str) : hitsL e due p o j (t :: ts) = (if atT e due p o t = true then [bitI j] else []) ++ hitsL e due p o (j + 1) ts := rfl
theorem asked_comp {p : Nat} {y6 y7 y8 y9 y11 y12 y13 y14 : Option EV} : ∀ (ts : List Str) (j : Nat),
    mComp [15, 9, 16, 17] (gTp (gCons0 (gN 15) (gCons0 (gN 9) (gCons0 (gN 16) (gCons0 (gN 17) gNil0)))) 4) (tOf (eBin gGe (eVar 17) (eVar 10))) (eTup (aCons (eVar 15) (aCons (eVar 9) (aCons (eVar 16) aNil)))) (eR ts0 n e ring stuck due y6 y7 y8 y9 (some (.fr (.int ((0 : Int) + (p : Int))))) y11 y12 y13 y14) (knownL e due j ts) = some (askedL e due p j ts)
  | [], j => rfl
  | t :: ts, j => by
    have ih := asked_comp (p := p) (y6 := y6) (y7 := y7) (y8 := y8) (y9 := y9) (y11 := y11) (y12 := y12) (y13 := y13) (y14 := y14) ts (j + 1)
    have c : tOf (eBin gGe (eVar 17) (eVar 10)) [some (.fr (.int n)), some (.fr (.tup (ts0.map .str))), some (.fr (.int e)), some (.fr (.bool ring)), some (.fr (.bool stuck)), some (.fr due), y6, y7, y8, some (.fr (.str t)), some (.fr (.int ((0 : Int) + (p : Int)))), y11, y12, y13, y14, some (.fr (.int (bitI j))), some (.fr (.int (crT e t))), some (.fr (.int (ldT due t)))] = some (decide ((p : Int) ≤ ldT due t)) := by
      refine tOf_at (eBin_at rfl rfl ?_)
      show some (D.bool (decide ((0 : Int) + (p : Int) ≤ ldT due t))) = _
      rw [Int.zero_add]
    show Option.bind (some [some (.fr (.int n)), some (.fr (.tup (ts0.map .str))), some (.fr (.int e)), some (.fr (.bool ring)), some (.fr (.bool stuck)), some (.fr due), y6, y7, y8, some (.fr (.str t)), some (.fr (.int ((0 : Int) + (p : Int)))), y11, y12, y13, y14, some (.fr (.int (bitI j))), some (.fr (.int (crT e t))), some (.fr (.int (ldT due t)))]) _ = _
    rw [Option.bind_some]
    show Option.bind (tOf (eBin gGe (eVar 17) (eVar 10)) _) _ = _
    rw [c, Option.bind_some, ih, askedL_cons]
    by_cases h : (p : Int) ≤ ldT due t
    · rw [decide_eq_true h, if_pos rfl, if_pos h]
      rfl
    · rw [decide_eq_false h, if_neg Bool.false_ne_true, if_neg h]
      rfl
theorem hits_comp (F : RF n e ring stuck due opts trials) {p : Nat} {l : List D} {o : D} (hl : l ∈ opts) (ho : o ∈ l) {y6 y7 y8 y9 y10 y11 y12 y13 : Option EV} : ∀ (ts : List Str), (∀ t ∈ ts, t ∈ trials) → ∀ (j : Nat),
    mComp [15, 9, 16] (gTp (gCons0 (gN 15) (gCons0 (gN 9) (gCons0 (gN 16) gNil0))) 3) (tOf (eU (mP 3 m_is_refuted) (aCons (eVar 9) (aCons (eVar 14) (aCons (eVar 16) aNil))) aNil)) (eVar 15) (eR ts0 n e ring stuck due y6 y7 y8 y9 y10 y11 y12 y13 (some (.fr o))) (askedL e due p j ts) = some ((hitsL e due p o j ts).map .int)
  | [], _, j => rfl
  | t :: ts, hts, j => by
    have ih := hits_comp F (p := p) hl ho (y6 := y6) (y7 := y7) (y8 := y8) (y9 := y9) (y10 := y10) (y11 := y11) (y12 := y12) (y13 := y13) ts (fun t ht => hts t (by simp [ht])) (j + 1)
    rw [askedL_cons, hitsL_cons]
    by_cases h : (p : Int) ≤ ldT due t
    · rw [if_pos h]
      have c : tOf (eU (mP 3 m_is_refuted) (aCons (eVar 9) (aCons (eVar 14) (aCons (eVar 16) aNil))) aNil) [some (.fr (.int n)), some (.fr (.tup (ts0.map .str))), some (.fr (.int e)), some (.fr (.bool ring)), some (.fr (.bool stuck)), some (.fr due), y6, y7, y8, some (.fr (.str t)), y10, y11, y12, y13, some (.fr o), some (.fr (.int (bitI j))), some (.fr (.int (crT e t))), none] = some (rfT e o t) :=
        tOf_at (eUp rfl rfl (isBo_eq (F.hrf t (hts t (by simp)) l hl o ho)))
      show Option.bind (tOf (eU (mP 3 m_is_refuted) (aCons (eVar 9) (aCons (eVar 14) (aCons (eVar 16) aNil))) aNil) [some (.fr (.int n)), some (.fr (.tup (ts0.map .str))), some (.fr (.int e)), some (.fr (.bool ring)), some (.fr (.bool stuck)), some (.fr due), y6, y7, y8, some (.fr (.str t)), y10, y11, y12, y13, some (.fr o), some (.fr (.int (bitI j))), some (.fr (.int (crT e t))), none]) _ = _
      rw [c, Option.bind_some]
      have ha : atT e due p o t = rfT e o t := by simp [atT, h]
      rw [ha]
      cases hr : rfT e o t with
      | true =>
        rw [if_pos rfl, if_pos rfl]
        show Option.bind (some (D.int (bitI j))) _ = _
        rw [Option.bind_some]
        show Option.map _ (mComp _ _ _ _ _ (askedL e due p (j + 1) ts)) = _
        rw [ih]
        rfl
      | false => exact ih
    · rw [if_neg h]
      have ha : atT e due p o t = false := by simp [atT, h]
      rw [ha]
      exact ih
theorem ints_map : ∀ l : List Int, intsD (l.map .int) = some l
  | [] => rfl
  | i :: l => by simp [intsD, ints_map l]
theorem ref_loop3 (F : RF n e ring stuck due opts trials) {ts : List Str} (hts : ∀ t ∈ ts, t ∈ trials) (hlen : ts.length ≤ 1000) {p : Nat} {l : List D} (hl : l ∈ opts) {y6 y7 y8 y9 y10 y11 : Option EV} : ∀ (os : List D), (∀ o ∈ os, o ∈ l) → ∀ (acc : List D) (y14 : Option EV), acc.length + os.length ≤ 1000 → ∃ z14,
    mFor (gN 14) (sApp 13 (eCall cSum (aCons (eNew (aComp [15, 9, 16] (iLst (eVar 12)) (gTp (gCons0 (gN 15) (gCons0 (gN 9) (gCons0 (gN 16) gNil0))) 3) (tOf (eU (mP 3 m_is_refuted) (aCons (eVar 9) (aCons (eVar 14) (aCons (eVar 16) aNil))) aNil)) (eVar 15))) aNil))) os
      (eR ts0 n e ring stuck due y6 y7 y8 y9 y10 y11 (some (.fr (.lst (askedL e due p 0 ts)))) (some (.ow acc)) y14) = some (.nx (eR ts0 n e ring stuck due y6 y7 y8 y9 y10 y11 (some (.fr (.lst (askedL e due p 0 ts)))) (some (.ow (acc ++ os.map fun o => .int (maskT e due p o ts)))) z14)) := by
  intro os
  induction os with
  | nil => exact fun _ acc y14 _ => ⟨y14, by simp [mFor]⟩
  | cons o os ih =>
    intro hos acc y14 hacc
    rw [List.length_cons] at hacc
    obtain ⟨z, h⟩ := ih (fun o ho => hos o (by simp [ho])) (acc ++ [.int (maskT e due p o ts)]) (some (.fr o)) (by simp only [List.length_append, List.length_cons, List.length_nil]; omega)
    refine ⟨z, ?_⟩
    rw [show acc ++ (o :: os).map (fun o => D.int (maskT e due p o ts)) = (acc ++ [.int (maskT e due p o ts)]) ++ os.map (fun o => .int (maskT e due p o ts)) by simp, ← h]
    have cp : aComp [15, 9, 16] (iLst (eVar 12)) (gTp (gCons0 (gN 15) (gCons0 (gN 9) (gCons0 (gN 16) gNil0))) 3) (tOf (eU (mP 3 m_is_refuted) (aCons (eVar 9) (aCons (eVar 14) (aCons (eVar 16) aNil))) aNil)) (eVar 15)
        (eR ts0 n e ring stuck due y6 y7 y8 y9 y10 y11 (some (.fr (.lst (askedL e due p 0 ts)))) (some (.ow acc)) (some (.fr o))) = some ((hitsL e due p o 0 ts).map .int) := by
      unfold aComp
      show Option.bind (some (askedL e due p 0 ts)) _ = _
      rw [Option.bind_some, if_pos (cap_small (Nat.le_trans (askedL_len e due p 0 ts) (by omega)))]
      exact hits_comp F hl (hos o (by simp)) ts hts 0
    have ap : sApp 13 (eCall cSum (aCons (eNew (aComp [15, 9, 16] (iLst (eVar 12)) (gTp (gCons0 (gN 15) (gCons0 (gN 9) (gCons0 (gN 16) gNil0))) 3) (tOf (eU (mP 3 m_is_refuted) (aCons (eVar 9) (aCons (eVar 14) (aCons (eVar 16) aNil))) aNil)) (eVar 15))) aNil)) (eR ts0 n e ring stuck due y6 y7 y8 y9 y10 y11 (some (.fr (.lst (askedL e due p 0 ts)))) (some (.ow acc)) (some (.fr o))) = _ :=
      app_at (d := .int (maskT e due p o ts)) (eCall_at (aCons_at (eNew_at cp) rfl) (by simp [cSum, ints_map, maskT])) rfl (by omega)
    show Option.bind (some (eR ts0 n e ring stuck due y6 y7 y8 y9 y10 y11 (some (.fr (.lst (askedL e due p 0 ts)))) (some (.ow acc)) (some (.fr o)))) _ = _
    rw [Option.bind_some, ap]
    rfl
end
end CP
/-! part CpAS -/
set_option Elab.async false
set_option linter.all false
set_option maxRecDepth 100000
set_option maxHeartbeats 400000
namespace CP
open PySem PySem.Spec PyProof.Rows L2 CPH
section
variable {n e : Int} {ring stuck : Bool} {due : D} {opts : List (List D)} {trials : List Str}
def bRef2 : MS := (sSeq (fun ρ => (sAsg (eNew (aComp [15, 9, 16, 17] (iLst (eVar 6)) (gTp (gCons0 (gN 15) (gCons0 (gN 9) (gCons0 (gN 16) (gCons0 (gN 17) gNil0)))) 4) (tOf (eBin gGe (eVar 17) (eVar 10))) (eTup (aCons (eVar 15) (aCons (eVar 9) (aCons (eVar 16) aNil)))))) (gN 12)) (freeze 6 ρ)) (sSeq (sAsgO 13 (aCap aNil)) (sSeq (sFor (iLst (eVar 11)) (gN 14) (sApp 13 (eCall cSum (aCons (eNew (aComp [15, 9, 16] (iLst (eVar 12)) (gTp (gCons0 (gN 15) (gCons0 (gN 9) (gCons0 (gN 16) gNil0))) 3) (tOf (eU (mP 3 m_is_refuted) (aCons (eVar 9) (aCons (eVar 14) (aCons (eVar 16) aNil))) aNil)) (eVar 15))) aNil)))) (fun ρ => (sApp 7 (eVar 13)) (freeze 13 ρ)))))
theorem enumFrom_cons (x : D) (r : List D) (j : Nat) : enumFrom (x :: r) j = .tup [.int ((0 : Int) + (j : Int)), x] :: enumFrom r (j + 1) := rfl
theorem ref_loop2 (F : RF n e ring stuck due opts trials) {ts : List Str} (hts : ∀ t ∈ ts, t ∈ trials) (hlen : ts.length ≤ 1000) : ∀ (os : List (List D)), (∀ l ∈ os, l ∈ opts) → ∀ (p : Nat) (acc : List D) (y6 y8 y9 y10 y11 y12 y13 y14 : Option EV), acc.length + os.length ≤ 1000 → (y6 = some (.ow (knownL e due 0 ts)) ∨ y6 = some (.fr (.lst (knownL e due 0 ts)))) →
    ∃ z6 z10 z11 z12 z13 z14, mFor (gTp (gCons0 (gN 10) (gCons0 (gN 11) gNil0)) 2) bRef2 (enumFrom (os.map .lst) p) (eR ts n e ring stuck due y6 (some (.ow acc)) y8 y9 y10 y11 y12 y13 y14) =
      some (.nx (eR ts n e ring stuck due z6 (some (.ow (acc ++ tableFrom e due ts p os))) y8 y9 z10 z11 z12 z13 z14)) := by
  intro os
  induction os with
  | nil => exact fun _ p acc y6 y8 y9 y10 y11 y12 y13 y14 _ _ => ⟨y6, y10, y11, y12, y13, y14, by simp [mFor, tableFrom, enumFrom]⟩
  | cons l os ih =>
    intro hos p acc y6 y8 y9 y10 y11 y12 y13 y14 hacc hy6
    rw [List.length_cons] at hacc
    have hl := hos l (by simp)
    obtain ⟨z14, h3⟩ := ref_loop3 (ts0 := ts) F hts hlen (p := p) hl (y6 := some (.fr (.lst (knownL e due 0 ts)))) (y7 := some (.ow acc)) (y8 := y8) (y9 := y9) (y10 := some (.fr (.int ((0 : Int) + (p : Int))))) (y11 := some (.fr (.lst l))) l (fun _ h => h) [] y14 (by have := F.small.2 l hl; simp only [List.length_nil]; omega)
    obtain ⟨z6, z10, z11, z12, z13, w14, h⟩ := ih (fun l hl => hos l (by simp [hl])) (p + 1) (acc ++ [.lst (l.map fun o => .int (maskT e due p o ts))]) (some (.fr (.lst (knownL e due 0 ts)))) y8 y9 (some (.fr (.int ((0 : Int) + (p : Int))))) (some (.fr (.lst l))) (some (.fr (.lst (askedL e due p 0 ts)))) (some (.fr (.lst (l.map fun o => .int (maskT e due p o ts))))) z14 (by simp only [List.length_append, List.length_cons, List.length_nil]; omega) (.inr rfl)
    refine ⟨z6, z10, z11, z12, z13, w14, ?_⟩
    rw [show acc ++ tableFrom e due ts p (l :: os) = (acc ++ [.lst (l.map fun o => .int (maskT e due p o ts))]) ++ tableFrom e due ts (p + 1) os by simp [tableFrom], ← h, List.map_cons, enumFrom_cons]
    have fz : freeze 6 (eR ts n e ring stuck due y6 (some (.ow acc)) y8 y9 (some (.fr (.int ((0 : Int) + (p : Int))))) (some (.fr (.lst l))) y12 y13 y14) = eR ts n e ring stuck due (some (.fr (.lst (knownL e due 0 ts)))) (some (.ow acc)) y8 y9 (some (.fr (.int ((0 : Int) + (p : Int))))) (some (.fr (.lst l))) y12 y13 y14 := by
      rcases hy6 with rfl | rfl <;> rfl
    have cp : aComp [15, 9, 16, 17] (iLst (eVar 6)) (gTp (gCons0 (gN 15) (gCons0 (gN 9) (gCons0 (gN 16) (gCons0 (gN 17) gNil0)))) 4) (tOf (eBin gGe (eVar 17) (eVar 10))) (eTup (aCons (eVar 15) (aCons (eVar 9) (aCons (eVar 16) aNil)))) (eR ts n e ring stuck due (some (.fr (.lst (knownL e due 0 ts)))) (some (.ow acc)) y8 y9 (some (.fr (.int ((0 : Int) + (p : Int))))) (some (.fr (.lst l))) y12 y13 y14) = some (askedL e due p 0 ts) := by
      unfold aComp
      show Option.bind (some (knownL e due 0 ts)) _ = _
      rw [Option.bind_some, if_pos (cap_small (by rw [knownL_len]; omega))]
      exact asked_comp ts 0
    have body : bRef2 (eR ts n e ring stuck due y6 (some (.ow acc)) y8 y9 (some (.fr (.int ((0 : Int) + (p : Int))))) (some (.fr (.lst l))) y12 y13 y14) = some (.nx (eR ts n e ring stuck due (some (.fr (.lst (knownL e due 0 ts)))) (some (.ow (acc ++ [.lst (l.map fun o => .int (maskT e due p o ts))]))) y8 y9 (some (.fr (.int ((0 : Int) + (p : Int))))) (some (.fr (.lst l))) (some (.fr (.lst (askedL e due p 0 ts)))) (some (.fr (.lst (l.map fun o => .int (maskT e due p o ts))))) z14)) := by
      refine seq_nx (ρ' := eR ts n e ring stuck due (some (.fr (.lst (knownL e due 0 ts)))) (some (.ow acc)) y8 y9 (some (.fr (.int ((0 : Int) + (p : Int))))) (some (.fr (.lst l))) (some (.fr (.lst (askedL e due p 0 ts)))) y13 y14) ?_ (seq_nx (asgO_nx rfl) (seq_nx (for_at (iLst_at rfl) h3) ?_))
      · rw [fz]
        exact asg_nx (eNew_at cp) rfl
      · rw [List.nil_append]
        exact app_at (ds := acc) rfl rfl (by omega)
    show Option.bind (some (eR ts n e ring stuck due y6 (some (.ow acc)) y8 y9 (some (.fr (.int ((0 : Int) + (p : Int))))) (some (.fr (.lst l))) y12 y13 y14)) _ = _
    rw [Option.bind_some, body]
    rfl
theorem refuters_eq (F : RF n e ring stuck due opts trials) {ts : List Str} (hts : ∀ t ∈ ts, t ∈ trials) (hlen : ts.length ≤ 1000) : m_refuters [.int n, .tup (ts.map .str), .int e, .bool ring, .bool stuck] = some (tableD e due opts ts) := by
  obtain ⟨y8, y9, h1⟩ := ref_loop1 (ts0 := ts) F ts 0 hts (by omega) [] none none (by simp only [List.length_nil]; omega)
  obtain ⟨z6, z10, z11, z12, z13, z14, h2⟩ := ref_loop2 F hts hlen opts (fun _ h => h) 0 [] (some (.ow (knownL e due 0 ts))) y8 y9 none none none none none (by have := F.small.1; simp only [List.length_nil]; omega) (.inl rfl)
  rw [List.nil_append] at h1 h2
  refine runB_at (seq_nx (asg_nx (eUp rfl rfl F.hdue) rfl) (seq_nx (asgO_nx rfl) (seq_nx (for_at (iEnT_at rfl) h1) (seq_nx (asgO_nx rfl) (seq_nx (for_at (iEn_at (eUp rfl rfl F.hopt)) h2) ?_)))))
  rfl
end
end CP
/-! part CpAT -/
set_option Elab.async false
set_option linter.all false
set_option maxRecDepth 100000
set_option maxHeartbeats 400000
namespace CP
open PySem PySem.Spec PyProof.Rows L2 CPH
section
variable {n e : Int} {ring stuck : Bool} {due : D} {opts : List (List D)} {trials : List Str}
/-! ### open_option -/
def openL (e : Int) (due : D) (ts : List Str) : Nat → List (List D) → Option (Nat × D)
  | _, [] => none
  | p, l :: r => match l.find? (fun o => decide (maskT e due p o ts = 0)) with
    | some o => some (p, o)
    | none => openL e due ts (p + 1) r
abbrev eO (n e : Int) (tb : D) (ring stuck : Bool) (y5 y6 y7 y8 : Option EV) : CP.Env := [some (.fr (.int n)), some (.fr (.int e)), some (.fr tb), some (.fr (.bool ring)), some (.fr (.bool stuck)), y5, y6, y7, y8]
theorem int_eq (a b : Int) : gEq false (.int a) (.int b) = some (.bool (decide (a = b))) := by simp [gEq, sc, scal]
def bOp2 : MS := (sIf (tOf (eBin (gEq false) (eVar 8) (eC (.int 0)))) (sRet (eTup (aCons (eVar 5) (aCons (eVar 7) aNil)))) sNext)
theorem open_in {tb : D} {p : Nat} {ts : List Str} {y6 : Option EV} : ∀ (os : List D) (y7 y8 : Option EV),
    (∃ o, os.find? (fun o => decide (maskT e due p o ts = 0)) = some o ∧ mFor (gTp (gCons0 (gN 7) (gCons0 (gN 8) gNil0)) 2) bOp2 (pairD os (os.map fun o => .int (maskT e due p o ts))) (eO n e tb ring stuck (some (.fr (.int ((0 : Int) + (p : Int))))) y6 y7 y8) = some (.rt (.tup [.int ((0 : Int) + (p : Int)), o]))) ∨
    (os.find? (fun o => decide (maskT e due p o ts = 0)) = none ∧ ∃ z7 z8, mFor (gTp (gCons0 (gN 7) (gCons0 (gN 8) gNil0)) 2) bOp2 (pairD os (os.map fun o => .int (maskT e due p o ts))) (eO n e tb ring stuck (some (.fr (.int ((0 : Int) + (p : Int))))) y6 y7 y8) = some (.nx (eO n e tb ring stuck (some (.fr (.int ((0 : Int) + (p : Int))))) y6 z7 z8)))
  | [], y7, y8 => .inr ⟨rfl, y7, y8, rfl⟩
  | o :: os, y7, y8 => by
    have test : tOf (eBin (gEq false) (eVar 8) (eC (.int 0))) (eO n e tb ring stuck (some (.fr (.int ((0 : Int) + (p : Int))))) y6 (some (.fr o)) (some (.fr (.int (maskT e due p o ts))))) = some (decide (maskT e due p o ts = 0)) := tOf_at (eBin_at rfl rfl (int_eq _ _))
    have fst : ∀ r, bOp2 (eO n e tb ring stuck (some (.fr (.int ((0 : Int) + (p : Int))))) y6 (some (.fr o)) (some (.fr (.int (maskT e due p o ts))))) = some r → mFor (gTp (gCons0 (gN 7) (gCons0 (gN 8) gNil0)) 2) bOp2 (pairD (o :: os) ((o :: os).map fun o => .int (maskT e due p o ts))) (eO n e tb ring stuck (some (.fr (.int ((0 : Int) + (p : Int))))) y6 y7 y8) = (match r with
        | .nx ρ2 => mFor (gTp (gCons0 (gN 7) (gCons0 (gN 8) gNil0)) 2) bOp2 (pairD os (os.map fun o => .int (maskT e due p o ts))) ρ2
        | .ct ρ2 => mFor (gTp (gCons0 (gN 7) (gCons0 (gN 8) gNil0)) 2) bOp2 (pairD os (os.map fun o => .int (maskT e due p o ts))) ρ2
        | .bk ρ2 => some (.nx ρ2)
        | .rt d => some (.rt d)) := by
      intro r hr
      show Option.bind (some (eO n e tb ring stuck (some (.fr (.int ((0 : Int) + (p : Int))))) y6 (some (.fr o)) (some (.fr (.int (maskT e due p o ts)))))) _ = _
      rw [Option.bind_some, hr]
      rfl
    by_cases h : maskT e due p o ts = 0
    · refine .inl ⟨o, by simp [List.find?_cons, h], ?_⟩
      rw [fst (.rt (.tup [.int ((0 : Int) + (p : Int)), o])) (if_at test (by rw [decide_eq_true h, if_pos rfl]; rfl))]
    · have f2 := fst (.nx (eO n e tb ring stuck (some (.fr (.int ((0 : Int) + (p : Int))))) y6 (some (.fr o)) (some (.fr (.int (maskT e due p o ts)))))) (if_at test (by rw [decide_eq_false h, if_neg Bool.false_ne_true]; rfl))
      rcases open_in os (some (.fr o)) (some (.fr (.int (maskT e due p o ts)))) with ⟨o', h1, h2⟩ | ⟨h1, z7, z8, h2⟩
      · exact .inl ⟨o', by rw [List.find?_cons, decide_eq_false h]; exact h1, f2.trans h2⟩
      · exact .inr ⟨by rw [List.find?_cons, decide_eq_false h]; exact h1, z7, z8, f2.trans h2⟩
theorem table_get (ts : List Str) : ∀ (os : List (List D)) (q i : Nat), (tableFrom e due ts q os)[i]? = os[i]?.map fun l => .lst (l.map fun o => .int (maskT e due (q + i) o ts))
  | [], q, i => rfl
  | l :: os, q, 0 => rfl
  | l :: os, q, i + 1 => by
    simp only [tableFrom, List.getElem?_cons_succ]
    rw [table_get ts os (q + 1) i, show q + 1 + i = q + (i + 1) by omega]
theorem open_out (ts : List Str) : ∀ (os : List (List D)) (p : Nat), os = opts.drop p → ∀ (y5 y6 y7 y8 : Option EV),
    (∃ q o, openL e due ts p os = some (q, o) ∧ mFor (gTp (gCons0 (gN 5) (gCons0 (gN 6) gNil0)) 2) (sFor (iZp lstOf lstOf (eVar 6) (eBin gIx (eVar 2) (eVar 5))) (gTp (gCons0 (gN 7) (gCons0 (gN 8) gNil0)) 2) bOp2) (enumFrom (os.map .lst) p) (eO n e (tableD e due opts ts) ring stuck y5 y6 y7 y8) = some (.rt (.tup [.int ((0 : Int) + (q : Int)), o]))) ∨
    (openL e due ts p os = none ∧ ∃ z5 z6 z7 z8, mFor (gTp (gCons0 (gN 5) (gCons0 (gN 6) gNil0)) 2) (sFor (iZp lstOf lstOf (eVar 6) (eBin gIx (eVar 2) (eVar 5))) (gTp (gCons0 (gN 7) (gCons0 (gN 8) gNil0)) 2) bOp2) (enumFrom (os.map .lst) p) (eO n e (tableD e due opts ts) ring stuck y5 y6 y7 y8) = some (.nx (eO n e (tableD e due opts ts) ring stuck z5 z6 z7 z8)))
  | [], p, _, y5, y6, y7, y8 => .inr ⟨rfl, y5, y6, y7, y8, rfl⟩
  | l :: os, p, hd, y5, y6, y7, y8 => by
    have hget : opts[p]? = some l := by
      have := congrArg (fun x => x[0]?) hd
      simpa [List.getElem?_drop] using this.symm
    have hrest : os = opts.drop (p + 1) := by
      have := congrArg List.tail hd
      simpa [List.tail_drop] using this
    have it : iZp lstOf lstOf (eVar 6) (eBin gIx (eVar 2) (eVar 5)) (eO n e (tableD e due opts ts) ring stuck (some (.fr (.int ((0 : Int) + (p : Int))))) (some (.fr (.lst l))) y7 y8) = some (pairD l (l.map fun o => .int (maskT e due p o ts))) := by
      have hix : gIx (tableD e due opts ts) (.int ((0 : Int) + (p : Int))) = some (.lst (l.map fun o => .int (maskT e due p o ts))) := by
        show atI (tableFrom e due ts 0 opts) ((0 : Int) + (p : Int)) = _
        rw [Int.zero_add]
        refine atI_nat ?_
        rw [table_get, hget, Nat.zero_add]
        rfl
      have hb : eBin gIx (eVar 2) (eVar 5) (eO n e (tableD e due opts ts) ring stuck (some (.fr (.int ((0 : Int) + (p : Int))))) (some (.fr (.lst l))) y7 y8) = some (.lst (l.map fun o => .int (maskT e due p o ts))) := eBin_at rfl rfl hix
      unfold iZp
      rw [hb]
      rfl
    have fst : ∀ r, mFor (gTp (gCons0 (gN 7) (gCons0 (gN 8) gNil0)) 2) bOp2 (pairD l (l.map fun o => .int (maskT e due p o ts))) (eO n e (tableD e due opts ts) ring stuck (some (.fr (.int ((0 : Int) + (p : Int))))) (some (.fr (.lst l))) y7 y8) = some r →
        mFor (gTp (gCons0 (gN 5) (gCons0 (gN 6) gNil0)) 2) (sFor (iZp lstOf lstOf (eVar 6) (eBin gIx (eVar 2) (eVar 5))) (gTp (gCons0 (gN 7) (gCons0 (gN 8) gNil0)) 2) bOp2) (enumFrom ((l :: os).map .lst) p) (eO n e (tableD e due opts ts) ring stuck y5 y6 y7 y8) = (match r with
        | .nx ρ2 => mFor (gTp (gCons0 (gN 5) (gCons0 (gN 6) gNil0)) 2) (sFor (iZp lstOf lstOf (eVar 6) (eBin gIx (eVar 2) (eVar 5))) (gTp (gCons0 (gN 7) (gCons0 (gN 8) gNil0)) 2) bOp2) (enumFrom (os.map .lst) (p + 1)) ρ2
        | .ct ρ2 => mFor (gTp (gCons0 (gN 5) (gCons0 (gN 6) gNil0)) 2) (sFor (iZp lstOf lstOf (eVar 6) (eBin gIx (eVar 2) (eVar 5))) (gTp (gCons0 (gN 7) (gCons0 (gN 8) gNil0)) 2) bOp2) (enumFrom (os.map .lst) (p + 1)) ρ2
        | .bk ρ2 => some (.nx ρ2)
        | .rt d => some (.rt d)) := by
      intro r hr
      rw [List.map_cons, enumFrom_cons]
      show Option.bind (some (eO n e (tableD e due opts ts) ring stuck (some (.fr (.int ((0 : Int) + (p : Int))))) (some (.fr (.lst l))) y7 y8)) _ = _
      rw [Option.bind_some, for_at it hr]
      rfl
    rcases open_in (n := n) (e := e) (ring := ring) (stuck := stuck) (due := due) (tb := tableD e due opts ts) (p := p) (ts := ts) (y6 := some (.fr (.lst l))) l y7 y8 with ⟨o, h1, h2⟩ | ⟨h1, z7, z8, h2⟩
    · exact .inl ⟨p, o, by simp only [openL, h1], fst _ h2⟩
    · have f2 := fst _ h2
      rcases open_out ts os (p + 1) hrest (some (.fr (.int ((0 : Int) + (p : Int))))) (some (.fr (.lst l))) z7 z8 with ⟨q, o, g1, g2⟩ | ⟨g1, z5', z6', z7', z8', g2⟩
      · exact .inl ⟨q, o, by simp only [openL, h1]; exact g1, f2.trans g2⟩
      · exact .inr ⟨by simp only [openL, h1]; exact g1, z5', z6', z7', z8', f2.trans g2⟩
def openD : Option (Nat × D) → D
  | some (p, o) => .tup [.int ((0 : Int) + (p : Int)), o]
  | none => .non
theorem open_eq (F : RF n e ring stuck due opts trials) (ts : List Str) : m_open_option [.int n, .int e, tableD e due opts ts, .bool ring, .bool stuck] = some (openD (openL e due ts 0 opts)) := by
  rcases open_out (n := n) (e := e) (ring := ring) (stuck := stuck) (due := due) (opts := opts) ts opts 0 rfl none none none none with ⟨q, o, h1, h2⟩ | ⟨h1, z5, z6, z7, z8, h2⟩
  · rw [h1]
    exact runB_at (seq_rt (for_at (iEn_at (eUp rfl rfl F.hopt)) h2))
  · rw [h1]
    exact runB_at (seq_nx (for_at (iEn_at (eUp rfl rfl F.hopt)) h2) rfl)
end
end CP
/-! part CpAU -/
set_option Elab.async false
set_option linter.all false
set_option maxRecDepth 100000
set_option maxHeartbeats 400000
namespace CP
open PySem PySem.Spec PyProof.Rows L2 CPH
/-! ### masks -/
def maskB : Nat → List Bool → Int
  | _, [] => 0
  | j, b :: bs => (if b = true then bitI j else 0) + maskB (j + 1) bs
theorem maskB_cons (j : Nat) (b : Bool) (bs : List Bool) : maskB j (b :: bs) = (if b = true then bitI j else 0) + maskB (j + 1) bs := rfl
theorem mask_hits (e : Int) (due : D) (p : Nat) (o : D) : ∀ (ts : List Str) (j : Nat), (hitsL e due p o j ts).sum = maskB j (ts.map (atT e due p o))
  | [], j => rfl
  | t :: ts, j => by
    rw [hitsL_cons, List.sum_append, mask_hits e due p o ts (j + 1), List.map_cons]
    rw [maskB_cons]
    split <;> simp
theorem mask_eq (e : Int) (due : D) (p : Nat) (o : D) (ts : List Str) : maskT e due p o ts = maskB 0 (ts.map (atT e due p o)) := mask_hits e due p o ts 0
def bls : Nat → List (List Bool)
  | 0 => [[]]
  | n + 1 => (bls n).flatMap fun l => [false :: l, true :: l]
theorem bls_all : ∀ bs : List Bool, bs ∈ bls bs.length
  | [] => by simp [bls]
  | b :: bs => by
    simp only [bls, List.length_cons, List.mem_flatMap]
    exact ⟨bs, bls_all bs, by cases b <;> simp⟩
def chkB (bs : List Bool) : Bool := (decide (maskB 0 bs = 0) == bs.all (fun b => !b)) && (bs.all (fun b => !b) || (isI (m_least_bit [.int (maskB 0 bs)]) && decide (0 ≤ iOf (m_least_bit [.int (maskB 0 bs)])) && (bs[(iOf (m_least_bit [.int (maskB 0 bs)])).toNat]? == some true)))
theorem chk_all : ∀ n ∈ [0, 1, 4, 6], ∀ bs ∈ bls n, chkB bs = true := by decide +kernel
def lenOk (n : Nat) : Prop := n = 0 ∨ n = 1 ∨ n = 4 ∨ n = 6
theorem chk_at {bs : List Bool} (h : lenOk bs.length) : chkB bs = true := chk_all bs.length (by rcases h with h | h | h | h <;> rw [h] <;> simp) bs (bls_all bs)
def lbT (e : Int) (due : D) (p : Nat) (o : D) (ts : List Str) : Int := iOf (m_least_bit [.int (maskT e due p o ts)])
theorem mask0 {e : Int} {due : D} {p : Nat} {o : D} {ts : List Str} (h : lenOk ts.length) : maskT e due p o ts = 0 ↔ ∀ t ∈ ts, atT e due p o t = false := by
  have c := chk_at (bs := ts.map (atT e due p o)) (by rw [List.length_map]; exact h)
  unfold chkB at c
  rw [Bool.and_eq_true, ← mask_eq] at c
  have c1 : decide (maskT e due p o ts = 0) = (ts.map (atT e due p o)).all (fun b => !b) := by simpa using c.1
  constructor
  · intro h0
    rw [decide_eq_true h0] at c1
    have := c1.symm
    rw [List.all_eq_true] at this
    intro t ht
    simpa using this _ (List.mem_map_of_mem ht)
  · intro h0
    have : (ts.map (atT e due p o)).all (fun b => !b) = true := by
      rw [List.all_eq_true]
      intro b hb
      obtain ⟨t, ht, rfl⟩ := List.mem_map.mp hb
      rw [h0 t ht]
      rfl
    rw [this] at c1
    exact of_decide_eq_true c1
theorem lb_at {e : Int} {due : D} {p : Nat} {o : D} {ts : List Str} (h : lenOk ts.length) (h0 : maskT e due p o ts ≠ 0) : m_least_bit [.int (maskT e due p o ts)] = some (.int (lbT e due p o ts)) ∧ 0 ≤ lbT e due p o ts ∧ ∃ t, ts[(lbT e due p o ts).toNat]? = some t ∧ atT e due p o t = true := by
  have c := chk_at (bs := ts.map (atT e due p o)) (by rw [List.length_map]; exact h)
  unfold chkB at c
  rw [Bool.and_eq_true, ← mask_eq] at c
  have c1 : decide (maskT e due p o ts = 0) = (ts.map (atT e due p o)).all (fun b => !b) := by simpa using c.1
  rw [decide_eq_false h0] at c1
  have c2 := c.2
  rw [← c1, Bool.false_or, Bool.and_eq_true, Bool.and_eq_true] at c2
  obtain ⟨⟨d1, d2⟩, d3⟩ := c2
  refine ⟨isI_eq d1, of_decide_eq_true d2, ?_⟩
  have d4 : (ts.map (atT e due p o))[(lbT e due p o ts).toNat]? = some true := by simpa [lbT] using d3
  rw [List.getElem?_map] at d4
  exact Option.map_eq_some_iff.mp d4
end CP
/-! part CpAV -/
set_option Elab.async false
set_option linter.all false
set_option maxRecDepth 100000
set_option maxHeartbeats 400000
namespace CP
open PySem PySem.Spec PyProof.Rows L2 CPH
section
/-! ### judge -/
variable {n : Int} {ring stuck : Bool} {dueF : Int → D} {optF : Int → List (List D)} {trials : List Str}
def dOf (d : Option D) : D := d.getD .non
def shD (n e : Int) (ring : Bool) (q : Nat × D) : D := dOf (m_shortage [.int n, .int e, .tup [.int ((0 : Int) + (q.1 : Int)), q.2], .bool ring])
structure JF (n : Int) (ring stuck : Bool) (dueF : Int → D) (optF : Int → List (List D)) (trials : List Str) (es : List Int) : Prop where
  rf : ∀ e ∈ es, RF n e ring stuck (dueF e) (optF e) trials
  sh : ∀ e ∈ es, ∀ (p : Nat) (l : List D) (o : D), (optF e)[p]? = some l → o ∈ l → (m_shortage [.int n, .int e, .tup [.int ((0 : Int) + (p : Int)), o], .bool ring]).isSome = true
theorem iTp_at {a : ME} {ρ : CP.Env} {ds : List D} (h : a ρ = some (.tup ds)) : iTp a ρ = some ds := by simp [iTp, h, tupOf]
theorem openL_some {e : Int} {due : D} {ts : List Str} : ∀ {os : List (List D)} {p q : Nat} {o : D}, openL e due ts p os = some (q, o) → ∃ i l, q = p + i ∧ os[i]? = some l ∧ o ∈ l ∧ maskT e due q o ts = 0
  | [], p, q, o, h => by cases h
  | l :: os, p, q, o, h => by
    simp only [openL] at h
    split at h
    · rename_i o' h1
      cases h
      have := List.find?_some h1
      exact ⟨0, l, rfl, rfl, List.mem_of_find?_eq_some h1, of_decide_eq_true this⟩
    · obtain ⟨i, l', h1, h2, h3, h4⟩ := openL_some h
      exact ⟨i + 1, l', by omega, by simpa using h2, h3, h4⟩
theorem openL_none {e : Int} {due : D} {ts : List Str} : ∀ {os : List (List D)} {p : Nat}, openL e due ts p os = none → ∀ (i : Nat) (l : List D) (o : D), os[i]? = some l → o ∈ l → maskT e due (p + i) o ts ≠ 0
  | [], p, h, i, l, o, h1, _ => by simp at h1
  | l0 :: os, p, h, i, l, o, h1, h2 => by
    simp only [openL] at h
    split at h
    · cases h
    · rename_i h3
      cases i with
      | zero =>
        simp at h1
        subst h1
        have := List.find?_eq_none.mp h3 o h2
        simpa using this
      | succ i =>
        have := openL_none h i l o (by simpa using h1) h2
        rw [show p + (i + 1) = p + 1 + i by omega]
        exact this
def tabFrom (e : Int) (due : D) (ts : List Str) : Nat → List (List D) → List D
  | _, [] => []
  | p, l :: r => .tup (l.map fun o => .int (lbT e due p o ts)) :: tabFrom e due ts (p + 1) r
def judgeF (n : Int) (ring : Bool) (dueF : Int → D) (optF : Int → List (List D)) (ts : List Str) : List Int → List D → D
  | [], acc => .tup [.str "enough", .tup acc]
  | e :: r, acc => match openL e (dueF e) ts 0 (optF e) with
    | some q => shD n e ring q
    | none => judgeF n ring dueF optF ts r (acc ++ [.tup (tabFrom e (dueF e) ts 0 (optF e))])
abbrev eJ (n : Int) (outs : D) (ring stuck : Bool) (ts : List Str) (acc : List D) (y6 y7 y8 : Option EV) : CP.Env := [some (.fr (.int n)), some (.fr outs), some (.fr (.bool ring)), some (.fr (.bool stuck)), some (.fr (.tup (ts.map .str))), some (.ow acc), y6, y7, y8, none, none]
def lbD : D → D
  | .int m => .int (iOf (m_least_bit [.int m]))
  | d => d
theorem lb_comp {ρ : CP.Env} {e : Int} {due : D} {p : Nat} {ts : List Str} {l : List D} (hl : lenOk ts.length) (hs : l.length ≤ 100) (hn : ∀ o ∈ l, maskT e due p o ts ≠ 0) (h9 : eVar 9 ρ = some (.lst (l.map fun o => .int (maskT e due p o ts)))) (hlen : ρ.length = 11) :
    aComp [10] (iLst (eVar 9)) (gN 10) (fun _ => some true) (eU (mP 1 m_least_bit) (aCons (eVar 10) aNil) aNil) ρ = some (l.map fun o => .int (lbT e due p o ts)) := by
  rw [aComp_filter (f := gN 10) (vs := [10]) (c := fun _ => some true) (b := eU (mP 1 m_least_bit) (aCons (eVar 10) aNil) aNil) (ds := l.map fun o => .int (maskT e due p o ts)) (fun _ => true) lbD (iLst_at h9) (cap_small (by rw [List.length_map]; omega)) ?_]
  · rw [List.filter_eq_self.mpr (fun _ _ => rfl), List.map_map]
    rfl
  · intro d hd
    obtain ⟨o, ho, rfl⟩ := List.mem_map.mp hd
    refine ⟨setFr 10 (.int (maskT e due p o ts)) (wipeE ρ [10]), rfl, rfl, fun _ => eUp (aCons_at (x := .int (maskT e due p o ts)) ?_ rfl) rfl (lb_at hl (hn o ho)).1⟩
    simp [eVar, getFr, setFr, wipeE, hlen]
theorem tab_comp {e : Int} {due : D} {ts : List Str} (hl : lenOk ts.length) {outs : D} {acc : List D} {y6 y7 y8 : Option EV} : ∀ (os : List (List D)) (p : Nat), (∀ l ∈ os, l.length ≤ 100) → (∀ (i : Nat) (l : List D) (o : D), os[i]? = some l → o ∈ l → maskT e due (p + i) o ts ≠ 0) →
    mComp [9] (gN 9) (fun _ => some true) (eCall cTuple (aCons (eNew (aComp [10] (iLst (eVar 9)) (gN 10) (fun _ => some true) (eU (mP 1 m_least_bit) (aCons (eVar 10) aNil) aNil))) aNil)) (eJ n outs ring stuck ts acc y6 y7 y8) (tableFrom e due ts p os) = some (tabFrom e due ts p os)
  | [], p, _, _ => rfl
  | l :: os, p, hs, hn => by
    have ih := tab_comp hl (outs := outs) (acc := acc) (y6 := y6) (y7 := y7) (y8 := y8) os (p + 1) (fun l hl => hs l (by simp [hl])) (fun i l' o h1 h2 => by
      have := hn (i + 1) l' o (by simpa using h1) h2
      rw [show p + 1 + i = p + (i + 1) by omega]
      exact this)
    have c := lb_comp (e := e) (due := due) (p := p) (ts := ts) (l := l) hl (hs l (by simp)) (fun o ho => hn 0 l o rfl ho) (ρ := [some (.fr (.int n)), some (.fr outs), some (.fr (.bool ring)), some (.fr (.bool stuck)), some (.fr (.tup (ts.map .str))), some (.ow acc), y6, y7, y8, some (.fr (.lst (l.map fun o => .int (maskT e due p o ts)))), none]) rfl rfl
    have b : eCall cTuple (aCons (eNew (aComp [10] (iLst (eVar 9)) (gN 10) (fun _ => some true) (eU (mP 1 m_least_bit) (aCons (eVar 10) aNil) aNil))) aNil) [some (.fr (.int n)), some (.fr outs), some (.fr (.bool ring)), some (.fr (.bool stuck)), some (.fr (.tup (ts.map .str))), some (.ow acc), y6, y7, y8, some (.fr (.lst (l.map fun o => .int (maskT e due p o ts)))), none] = some (.tup (l.map fun o => .int (lbT e due p o ts))) := eCall_at (aCons_at (eNew_at c) rfl) rfl
    show Option.bind (eCall cTuple (aCons (eNew (aComp [10] (iLst (eVar 9)) (gN 10) (fun _ => some true) (eU (mP 1 m_least_bit) (aCons (eVar 10) aNil) aNil))) aNil) [some (.fr (.int n)), some (.fr outs), some (.fr (.bool ring)), some (.fr (.bool stuck)), some (.fr (.tup (ts.map .str))), some (.ow acc), y6, y7, y8, some (.fr (.lst (l.map fun o => .int (maskT e due p o ts)))), none]) _ = _
    rw [b, Option.bind_some]
    show Option.map _ (mComp _ _ _ _ _ (tableFrom e due ts (p + 1) os)) = _
    rw [ih]
    rfl
theorem tableFrom_len (e : Int) (due : D) (ts : List Str) : ∀ (os : List (List D)) (p : Nat), (tableFrom e due ts p os).length = os.length
  | [], _ => rfl
  | l :: os, p => by simp [tableFrom, tableFrom_len e due ts os (p + 1)]
def bJ2 : MS := (sSeq (sAsg (eU (mP 5 m_refuters) (aCons (eVar 0) (aCons (eVar 4) (aCons (eVar 6) (aCons (eVar 2) (aCons (eVar 3) aNil))))) aNil) (gN 7)) (sSeq (sAsg (eU (mP 5 m_open_option) (aCons (eVar 0) (aCons (eVar 6) (aCons (eVar 7) (aCons (eVar 2) (aCons (eVar 3) aNil))))) aNil) (gN 8)) (sSeq (sIf (tOf (eBin (gIsN true) (eVar 8) (eC .non))) (sRet (eU (mP 4 m_shortage) (aCons (eVar 0) (aCons (eVar 6) (aCons (eVar 8) (aCons (eVar 2) aNil)))) aNil)) sNext) (sApp 5 (eCall cTuple (aCons (eNew (aComp [9] (iLst (eVar 7)) (gN 9) (fun _ => some true) (eCall cTuple (aCons (eNew (aComp [10] (iLst (eVar 9)) (gN 10) (fun _ => some true) (eU (mP 1 m_least_bit) (aCons (eVar 10) aNil) aNil))) aNil)))) aNil))))))
theorem judge_loop {ts : List Str} (hts : ∀ t ∈ ts, t ∈ trials) (hl : lenOk ts.length) {outs : D} : ∀ (es : List Int), JF n ring stuck dueF optF trials es → ∀ (acc : List D) (y6 y7 y8 : Option EV), acc.length + es.length ≤ 1000 →
    (sSeq (fun ρ => mFor (gN 6) bJ2 (es.map .int) ρ) (sRet (eTup (aCons (eC (.str "enough")) (aCons (eCall cTuple (aCons (eOwn 5) aNil)) aNil))))) (eJ n outs ring stuck ts acc y6 y7 y8) = some (.rt (judgeF n ring dueF optF ts es acc))
  | [], _, acc, y6, y7, y8, _ => rfl
  | e :: es, J, acc, y6, y7, y8, hacc => by
    rw [List.length_cons] at hacc
    have hlen : ts.length ≤ 1000 := by rcases hl with h | h | h | h <;> omega
    have F := J.rf e (by simp)
    have s1 : ∀ {r : Option Res}, (sSeq (sAsg (eU (mP 5 m_open_option) (aCons (eVar 0) (aCons (eVar 6) (aCons (eVar 7) (aCons (eVar 2) (aCons (eVar 3) aNil))))) aNil) (gN 8)) (sSeq (sIf (tOf (eBin (gIsN true) (eVar 8) (eC .non))) (sRet (eU (mP 4 m_shortage) (aCons (eVar 0) (aCons (eVar 6) (aCons (eVar 8) (aCons (eVar 2) aNil)))) aNil)) sNext) (sApp 5 (eCall cTuple (aCons (eNew (aComp [9] (iLst (eVar 7)) (gN 9) (fun _ => some true) (eCall cTuple (aCons (eNew (aComp [10] (iLst (eVar 9)) (gN 10) (fun _ => some true) (eU (mP 1 m_least_bit) (aCons (eVar 10) aNil) aNil))) aNil)))) aNil))))) (eJ n outs ring stuck ts acc (some (.fr (.int e))) (some (.fr (tableD e (dueF e) (optF e) ts))) y8) = r → bJ2 (eJ n outs ring stuck ts acc (some (.fr (.int e))) y7 y8) = r :=
      fun h => seq_nx (asg_nx (eUp rfl rfl (refuters_eq F hts hlen)) rfl) h
    cases hO : openL e (dueF e) ts 0 (optF e) with
    | some q =>
      obtain ⟨p, o⟩ := q
      obtain ⟨i, l, h1, h2, h3, h4⟩ := openL_some hO
      rw [Nat.zero_add] at h1
      subst h1
      have hsh : m_shortage [.int n, .int e, .tup [.int ((0 : Int) + (p : Int)), o], .bool ring] = some (shD n e ring (p, o)) := by
        have := J.sh e (by simp) p l o h2 h3
        obtain ⟨d, hd⟩ := Option.isSome_iff_exists.mp this
        simp only [shD, dOf, hd, Option.getD_some]
      have op := open_eq F ts
      rw [hO] at op
      have body : bJ2 (eJ n outs ring stuck ts acc (some (.fr (.int e))) y7 y8) = some (.rt (shD n e ring (p, o))) := by
        refine s1 (seq_nx (asg_nx (eUp rfl rfl op) rfl) (seq_rt (if_at (x := true) (tOf_at (eBin_at rfl rfl rfl)) ?_)))
        rw [if_pos rfl]
        exact ret_at (eUp rfl rfl hsh)
      have : judgeF n ring dueF optF ts (e :: es) acc = shD n e ring (p, o) := by simp only [judgeF, hO]
      rw [this]
      refine seq_rt ?_
      show Option.bind (some (eJ n outs ring stuck ts acc (some (.fr (.int e))) y7 y8)) _ = _
      rw [Option.bind_some, body]
      rfl
    | none =>
      have op := open_eq F ts
      rw [hO] at op
      have hn := openL_none hO
      have tc := tab_comp (n := n) (ring := ring) (stuck := stuck) (e := e) (due := dueF e) (ts := ts) hl (outs := outs) (acc := acc) (y6 := some (.fr (.int e))) (y7 := some (.fr (tableD e (dueF e) (optF e) ts))) (y8 := some (.fr .non)) (optF e) 0 F.small.2 hn
      have cp : aComp [9] (iLst (eVar 7)) (gN 9) (fun _ => some true) (eCall cTuple (aCons (eNew (aComp [10] (iLst (eVar 9)) (gN 10) (fun _ => some true) (eU (mP 1 m_least_bit) (aCons (eVar 10) aNil) aNil))) aNil)) (eJ n outs ring stuck ts acc (some (.fr (.int e))) (some (.fr (tableD e (dueF e) (optF e) ts))) (some (.fr .non))) = some (tabFrom e (dueF e) ts 0 (optF e)) := by
        unfold aComp
        show Option.bind (some (tableFrom e (dueF e) ts 0 (optF e))) _ = _
        rw [Option.bind_some, if_pos (cap_small (by rw [tableFrom_len]; have := F.small.1; omega))]
        exact tc
      have body : bJ2 (eJ n outs ring stuck ts acc (some (.fr (.int e))) y7 y8) = some (.nx (eJ n outs ring stuck ts (acc ++ [.tup (tabFrom e (dueF e) ts 0 (optF e))]) (some (.fr (.int e))) (some (.fr (tableD e (dueF e) (optF e) ts))) (some (.fr .non)))) := by
        refine s1 (seq_nx (asg_nx (eUp rfl rfl op) rfl) (seq_nx (if_at (x := false) (tOf_at (eBin_at rfl rfl rfl)) rfl) ?_))
        exact app_at (eCall_at (aCons_at (eNew_at cp) rfl) rfl) rfl (by omega)
      have : judgeF n ring dueF optF ts (e :: es) acc = judgeF n ring dueF optF ts es (acc ++ [.tup (tabFrom e (dueF e) ts 0 (optF e))]) := by simp only [judgeF, hO]
      have ih := judge_loop hts hl (outs := outs) es ⟨fun e he => J.rf e (by simp [he]), fun e he => J.sh e (by simp [he])⟩ (acc ++ [D.tup (tabFrom e (dueF e) ts 0 (optF e))]) (some (.fr (.int e))) (some (.fr (tableD e (dueF e) (optF e) ts))) (some (.fr .non)) (by simp only [List.length_append, List.length_cons, List.length_nil]; omega)
      rw [this]
      refine Eq.trans ?_ ih
      unfold sSeq
      show Option.bind (Option.bind (some (eJ n outs ring stuck ts acc (some (.fr (.int e))) y7 y8)) _) _ = _
      rw [Option.bind_some, body]
      rfl
theorem judge_eq {ts : List Str} (hts : ∀ t ∈ ts, t ∈ trials) (hl : lenOk ts.length) {outs : D} {es : List Int} (J : JF n ring stuck dueF optF trials es) (hes : es.length ≤ 100) (ho : m_outputs_asked [.int n, outs, .bool ring] = some (.tup (es.map .int))) :
    m_judge [.int n, outs, .bool ring, .bool stuck, .tup (ts.map .str)] = some (judgeF n ring dueF optF ts es []) := by
  have h := judge_loop (n := n) (ring := ring) (stuck := stuck) hts hl (outs := outs) es J [] none none none (by simp only [List.length_nil]; omega)
  have it : iTp (eU (mP 3 m_outputs_asked) (aCons (eVar 0) (aCons (eVar 1) (aCons (eVar 2) aNil))) aNil) (eJ n outs ring stuck ts [] none none none) = some (es.map .int) := iTp_at (eUp rfl rfl ho)
  refine runB_at (seq_nx (ρ' := eJ n outs ring stuck ts [] none none none) (asgO_nx rfl) ?_)
  rw [← h]
  unfold sSeq
  rw [for_at it rfl]
  rfl
end
end CP
/-! part CpAW -/
set_option Elab.async false
set_option linter.all false
set_option maxRecDepth 100000
set_option maxHeartbeats 400000
namespace CP
open PySem PySem.Spec PyProof.Rows L2 CPH
section
/-! ### the three callers -/
variable {n : Int} {ring stuck : Bool}
theorem len_no {ts : List Str} {k : Nat} (h : lenOk ts.length) (e : ts.length = k) (h2 : k ≠ 0 ∧ k ≠ 1 ∧ k ≠ 4 ∧ k ≠ 6) : False := by
  unfold lenOk at h
  omega
theorem w_judge {ts : List Str} (h : lenOk ts.length) (ok : ∀ t ∈ ts, PyData.strOk t = true) {d : D} (hj : m_judge [.int n, .non, .bool ring, .bool stuck, .tup (ts.map .str)] = some d) : m__law_judge [.lst (ts.map .str), .int n, .non, .bool ring, .bool stuck] = some d := by
  match ts, h, ok, hj with
  | [], _, ok, hj =>
    refine runB_at (seq_rt (if_at (x := true) (tOf_at (eBin_at rfl rfl rfl)) ?_))
    rw [if_pos rfl]
    refine seq_rt (if_at (x := true) (tOf_at (eBin_at rfl rfl (eqD_strs [] ok))) ?_)
    rw [if_pos rfl]
    exact ret_at (eUK_at rfl rfl rfl hj)
  | [a], _, ok, hj =>
    refine runB_at (seq_rt (if_at (x := true) (tOf_at (eBin_at rfl rfl rfl)) ?_))
    rw [if_pos rfl]
    refine seq_nx (if_at (x := false) (tOf_at (eBin_at rfl rfl (eqD_strs [a] ok))) rfl) ?_
    exact ret_at (eUK_at rfl rfl rfl hj)
  | [a, b, c, d], _, _, hj =>
    refine runB_at (seq_nx (if_at (x := false) (tOf_at (eBin_at rfl rfl rfl)) rfl) (seq_rt (if_at (x := true) (tOf_at (eBin_at rfl rfl (int_eq 4 4))) ?_)))
    rw [if_pos rfl]
    exact ret_at (eUK_at rfl rfl rfl hj)
  | [a, b, c, d, e, f], _, _, hj =>
    refine runB_at (seq_nx (if_at (x := false) (tOf_at (eBin_at rfl rfl rfl)) rfl) (seq_nx (if_at (x := false) (tOf_at (eBin_at rfl rfl (int_eq 6 4))) rfl) ?_))
    exact ret_at (eUK_at rfl rfl rfl hj)
  | [a, b], h, _, _ => exact (len_no (k := 2) h rfl (by decide)).elim
  | [a, b, c], h, _, _ => exact (len_no (k := 3) h rfl (by decide)).elim
  | [a, b, c, d, e], h, _, _ => exact (len_no (k := 5) h rfl (by decide)).elim
  | a :: b :: c :: d :: e :: f :: g :: r, h, _, _ => exact (len_no h rfl (by simp only [List.length_cons]; omega)).elim
theorem w_enough {ts : List Str} (h : lenOk ts.length) (ok : ∀ t ∈ ts, PyData.strOk t = true) {d : D} (hj : m_is_enough [.int n, .non, .bool ring, .bool stuck, .tup (ts.map .str)] = some d) : m__law_is_enough [.lst (ts.map .str), .int n, .non, .bool ring, .bool stuck] = some d := by
  match ts, h, ok, hj with
  | [], _, ok, hj =>
    refine runB_at (seq_rt (if_at (x := true) (tOf_at (eBin_at rfl rfl rfl)) ?_))
    rw [if_pos rfl]
    refine seq_rt (if_at (x := true) (tOf_at (eBin_at rfl rfl (eqD_strs [] ok))) ?_)
    rw [if_pos rfl]
    exact ret_at (eUK_at rfl rfl rfl hj)
  | [a], _, ok, hj =>
    refine runB_at (seq_rt (if_at (x := true) (tOf_at (eBin_at rfl rfl rfl)) ?_))
    rw [if_pos rfl]
    refine seq_nx (if_at (x := false) (tOf_at (eBin_at rfl rfl (eqD_strs [a] ok))) rfl) ?_
    exact ret_at (eUK_at rfl rfl rfl hj)
  | [a, b, c, d], _, _, hj =>
    refine runB_at (seq_nx (if_at (x := false) (tOf_at (eBin_at rfl rfl rfl)) rfl) (seq_rt (if_at (x := true) (tOf_at (eBin_at rfl rfl (int_eq 4 4))) ?_)))
    rw [if_pos rfl]
    exact ret_at (eUK_at rfl rfl rfl hj)
  | [a, b, c, d, e, f], _, _, hj =>
    refine runB_at (seq_nx (if_at (x := false) (tOf_at (eBin_at rfl rfl rfl)) rfl) (seq_nx (if_at (x := false) (tOf_at (eBin_at rfl rfl (int_eq 6 4))) rfl) ?_))
    exact ret_at (eUK_at rfl rfl rfl hj)
  | [a, b], h, _, _ => exact (len_no (k := 2) h rfl (by decide)).elim
  | [a, b, c], h, _, _ => exact (len_no (k := 3) h rfl (by decide)).elim
  | [a, b, c, d, e], h, _, _ => exact (len_no (k := 5) h rfl (by decide)).elim
  | a :: b :: c :: d :: e :: f :: g :: r, h, _, _ => exact (len_no h rfl (by simp only [List.length_cons]; omega)).elim
theorem w_settled {ts : List Str} (h : lenOk ts.length) (ok : ∀ t ∈ ts, PyData.strOk t = true) {d : D} (hj : m_settled [.int n, .bool ring, .bool stuck, .tup (ts.map .str)] = some d) : m__law_settled [.lst (ts.map .str), .int n, .bool ring, .bool stuck] = some d := by
  match ts, h, ok, hj with
  | [], _, ok, hj =>
    refine runB_at (seq_rt (if_at (x := true) (tOf_at (eBin_at rfl rfl rfl)) ?_))
    rw [if_pos rfl]
    refine seq_rt (if_at (x := true) (tOf_at (eBin_at rfl rfl (eqD_strs [] ok))) ?_)
    rw [if_pos rfl]
    exact ret_at (eUK_at rfl rfl rfl hj)
  | [a], _, ok, hj =>
    refine runB_at (seq_rt (if_at (x := true) (tOf_at (eBin_at rfl rfl rfl)) ?_))
    rw [if_pos rfl]
    refine seq_nx (if_at (x := false) (tOf_at (eBin_at rfl rfl (eqD_strs [a] ok))) rfl) ?_
    exact ret_at (eUK_at rfl rfl rfl hj)
  | [a, b, c, d], _, _, hj =>
    refine runB_at (seq_nx (if_at (x := false) (tOf_at (eBin_at rfl rfl rfl)) rfl) (seq_rt (if_at (x := true) (tOf_at (eBin_at rfl rfl (int_eq 4 4))) ?_)))
    rw [if_pos rfl]
    exact ret_at (eUK_at rfl rfl rfl hj)
  | [a, b, c, d, e, f], _, _, hj =>
    refine runB_at (seq_nx (if_at (x := false) (tOf_at (eBin_at rfl rfl rfl)) rfl) (seq_nx (if_at (x := false) (tOf_at (eBin_at rfl rfl (int_eq 6 4))) rfl) ?_))
    exact ret_at (eUK_at rfl rfl rfl hj)
  | [a, b], h, _, _ => exact (len_no (k := 2) h rfl (by decide)).elim
  | [a, b, c], h, _, _ => exact (len_no (k := 3) h rfl (by decide)).elim
  | [a, b, c, d, e], h, _, _ => exact (len_no (k := 5) h rfl (by decide)).elim
  | a :: b :: c :: d :: e :: f :: g :: r, h, _, _ => exact (len_no h rfl (by simp only [List.length_cons]; omega)).elim
/-! ### is_enough, settled -/
variable {dueF : Int → D} {optF : Int → List (List D)} {trials : List Str}
def closed (dueF : Int → D) (optF : Int → List (List D)) (ts : List Str) (e : Int) : Bool := (openL e (dueF e) ts 0 (optF e)).isNone
def ShOk (n : Int) (ring : Bool) (optF : Int → List (List D)) (es : List Int) : Prop := ∀ e ∈ es, ∀ (p : Nat) (l : List D) (o : D), (optF e)[p]? = some l → o ∈ l → ∃ row t, shD n e ring (p, o) = .tup [.str "short", .int e, row, .str t]
theorem judgeF_of {ts : List Str} : ∀ (es : List Int) (acc : List D), ((∀ e ∈ es, closed dueF optF ts e = true) ∧ judgeF n ring dueF optF ts es acc = .tup [.str "enough", .tup (acc ++ es.map fun e => .tup (tabFrom e (dueF e) ts 0 (optF e)))]) ∨
    (∃ e ∈ es, ∃ q, openL e (dueF e) ts 0 (optF e) = some q ∧ judgeF n ring dueF optF ts es acc = shD n e ring q)
  | [], acc => .inl ⟨fun _ h => by simp at h, by simp [judgeF]⟩
  | e :: es, acc => by
    cases h : openL e (dueF e) ts 0 (optF e) with
    | some q => exact .inr ⟨e, by simp, q, h, by simp only [judgeF, h]⟩
    | none =>
      have hj : judgeF n ring dueF optF ts (e :: es) acc = judgeF n ring dueF optF ts es (acc ++ [.tup (tabFrom e (dueF e) ts 0 (optF e))]) := by simp only [judgeF, h]
      rcases judgeF_of es (acc ++ [D.tup (tabFrom e (dueF e) ts 0 (optF e))]) with ⟨h1, h2⟩ | ⟨e', he, q, h1, h2⟩
      · refine .inl ⟨fun e' he => ?_, by rw [hj, h2]; simp⟩
        rcases List.mem_cons.mp he with rfl | he
        · simp [closed, h]
        · exact h1 e' he
      · exact .inr ⟨e', by simp [he], q, h1, hj.trans h2⟩
theorem str_eq (a b : Str) : gEq false (.str a) (.str b) = some (.bool (decide (a = b))) := by simp [gEq, sc, scal]
theorem enough_eq {ts : List Str} (hts : ∀ t ∈ ts, t ∈ trials) (hl : lenOk ts.length) {outs : D} {es : List Int} (J : JF n ring stuck dueF optF trials es) (S : ShOk n ring optF es) (hes : es.length ≤ 100) (ho : m_outputs_asked [.int n, outs, .bool ring] = some (.tup (es.map .int))) :
    m_is_enough [.int n, outs, .bool ring, .bool stuck, .tup (ts.map .str)] = some (.bool (es.all (closed dueF optF ts))) := by
  have hj := judge_eq hts hl J hes ho
  have hlen : ts.length ≤ 6 := by rcases hl with h | h | h | h <;> omega
  have call : eUK 3 (mStar 1 .tup m_judge) (aCons (eVar 0) (aStar (eVar 4) aNil)) (aCons (eVar 1) (aCons (eVar 2) (aCons (eVar 3) aNil))) [some (.fr (.int n)), some (.fr outs), some (.fr (.bool ring)), some (.fr (.bool stuck)), some (.fr (.tup (ts.map .str)))] = some (judgeF n ring dueF optF ts es []) := by
    refine eUK_at (ds := .int n :: (ts.map .str ++ [])) rfl rfl rfl ?_
    rw [List.append_nil]
    unfold mStar
    rw [if_pos ⟨by simp, Nat.ble_eq_true_of_le (by simp only [List.length_cons, List.length_map]; omega)⟩]
    exact hj
  refine runB_at (ret_at ?_)
  rcases judgeF_of (n := n) (ring := ring) (dueF := dueF) (optF := optF) (ts := ts) es [] with ⟨h1, h2⟩ | ⟨e, he, q, h1, h2⟩
  · have : es.all (closed dueF optF ts) = true := List.all_eq_true.mpr h1
    rw [this]
    rw [h2] at call
    exact eBin_at (eBin_at call rfl rfl) rfl (str_eq _ _)
  · have hc : closed dueF optF ts e = false := by simp [closed, h1]
    have : es.all (closed dueF optF ts) = false := by
      rw [List.all_eq_false]
      exact ⟨e, he, by rw [hc]; exact Bool.false_ne_true⟩
    rw [this]
    obtain ⟨p, o⟩ := q
    obtain ⟨i, l, g1, g2, g3, g4⟩ := openL_some h1
    rw [Nat.zero_add] at g1
    subst g1
    obtain ⟨row, t, g5⟩ := S e he p l o g2 g3
    rw [h2, g5] at call
    exact eBin_at (eBin_at call rfl rfl) rfl (str_eq _ _)
end
end CP
/-! part CpAX -/
set_option Elab.async false
set_option linter.all false
set_option maxRecDepth 100000
set_option maxHeartbeats 400000
namespace CP
open PySem PySem.Spec PyProof.Rows L2 CPH
section
variable {n : Int} {ring stuck : Bool} {dueF : Int → D} {optF : Int → List (List D)} {trials : List Str}
abbrev eS (n : Int) (ring stuck : Bool) (ts : List Str) (acc : List D) (y5 : Option EV) : CP.Env := [some (.fr (.int n)), some (.fr (.bool ring)), some (.fr (.bool stuck)), some (.fr (.tup (ts.map .str))), some (.ow acc), y5]
def bS2 : MS := (sIf (tOf (eUK 3 (mStar 1 .tup m_is_enough) (aCons (eVar 0) (aStar (eVar 3) aNil)) (aCons (eTup (aCons (eVar 5) aNil)) (aCons (eVar 1) (aCons (eVar 2) aNil))))) (sApp 4 (eVar 5)) sNext)
theorem JF.one {es : List Int} (J : JF n ring stuck dueF optF trials es) {e : Int} (h : e ∈ es) : JF n ring stuck dueF optF trials [e] :=
  ⟨fun e' he => J.rf e' (by simp at he; rw [he]; exact h), fun e' he => J.sh e' (by simp at he; rw [he]; exact h)⟩
theorem settled_loop {ts : List Str} (hts : ∀ t ∈ ts, t ∈ trials) (hl : lenOk ts.length) : ∀ (es : List Int), JF n ring stuck dueF optF trials es → ShOk n ring optF es → (∀ e ∈ es, m_outputs_asked [.int n, .tup [.int e], .bool ring] = some (.tup [.int e])) → ∀ (acc : List D) (y5 : Option EV), acc.length + es.length ≤ 1000 →
    ∃ z5, mFor (gN 5) bS2 (es.map .int) (eS n ring stuck ts acc y5) = some (.nx (eS n ring stuck ts (acc ++ (es.filter (closed dueF optF ts)).map .int) z5))
  | [], _, _, _, acc, y5, _ => ⟨y5, by simp [mFor]⟩
  | e :: es, J, S, O, acc, y5, hacc => by
    rw [List.length_cons] at hacc
    have hlen : ts.length ≤ 6 := by rcases hl with h | h | h | h <;> omega
    have en := enough_eq hts hl (J.one (by simp : e ∈ e :: es)) (fun e' he => S e' (by simp at he; simp [he])) (by simp) (O e (by simp))
    have test : tOf (eUK 3 (mStar 1 .tup m_is_enough) (aCons (eVar 0) (aStar (eVar 3) aNil)) (aCons (eTup (aCons (eVar 5) aNil)) (aCons (eVar 1) (aCons (eVar 2) aNil)))) (eS n ring stuck ts acc (some (.fr (.int e)))) = some (closed dueF optF ts e) := by
      refine tOf_at (eUK_at (ds := .int n :: (ts.map .str ++ [])) rfl rfl rfl ?_)
      rw [List.append_nil]
      unfold mStar
      rw [if_pos ⟨by simp, Nat.ble_eq_true_of_le (by simp only [List.length_cons, List.length_map]; omega)⟩]
      simpa using en
    have ih := settled_loop hts hl es ⟨fun e he => J.rf e (by simp [he]), fun e he => J.sh e (by simp [he])⟩ (fun e' he => S e' (by simp [he])) (fun e' he => O e' (by simp [he]))
    have fst : ∀ ρ2, bS2 (eS n ring stuck ts acc (some (.fr (.int e)))) = some (.nx ρ2) → mFor (gN 5) bS2 ((e :: es).map .int) (eS n ring stuck ts acc y5) = mFor (gN 5) bS2 (es.map .int) ρ2 := by
      intro ρ2 h
      show Option.bind (some (eS n ring stuck ts acc (some (.fr (.int e))))) _ = _
      rw [Option.bind_some, h]
      rfl
    cases hc : closed dueF optF ts e with
    | true =>
      rw [hc] at test
      obtain ⟨z5, h⟩ := ih (acc ++ [.int e]) (some (.fr (.int e))) (by simp only [List.length_append, List.length_cons, List.length_nil]; omega)
      refine ⟨z5, (fst _ (if_at test ?_)).trans (h.trans ?_)⟩
      · rw [if_pos rfl]
        exact app_at rfl rfl (by omega)
      · rw [List.filter_cons_of_pos hc]
        simp
    | false =>
      rw [hc] at test
      obtain ⟨z5, h⟩ := ih acc (some (.fr (.int e))) (by omega)
      refine ⟨z5, (fst _ (if_at test ?_)).trans (h.trans ?_)⟩
      · rw [if_neg Bool.false_ne_true]
        rfl
      · rw [List.filter_cons_of_neg (by rw [hc]; exact Bool.false_ne_true)]
theorem settled_eq {ts : List Str} (hts : ∀ t ∈ ts, t ∈ trials) (hl : lenOk ts.length) {es : List Int} (J : JF n ring stuck dueF optF trials es) (S : ShOk n ring optF es) (hes : es.length ≤ 100) (O : ∀ e ∈ es, m_outputs_asked [.int n, .tup [.int e], .bool ring] = some (.tup [.int e])) (hp : m_output_positions [.int n, .bool ring] = some (.tup (es.map .int))) :
    m_settled [.int n, .bool ring, .bool stuck, .tup (ts.map .str)] = some (.tup ((es.filter (closed dueF optF ts)).map .int)) := by
  obtain ⟨z5, h⟩ := settled_loop (n := n) (ring := ring) (stuck := stuck) hts hl es J S O [] none (by simp only [List.length_nil]; omega)
  rw [List.nil_append] at h
  refine runB_at (seq_nx (ρ' := eS n ring stuck ts [] none) (asgO_nx rfl) (seq_nx (for_at (iTp_at (eUp rfl rfl hp)) h) ?_))
  rfl
end
end CP
/-! part CpAY -/
set_option Elab.async false
set_option linter.all false
set_option maxRecDepth 100000
set_option maxHeartbeats 400000
namespace CP
open PySem PySem.Spec PyProof.Rows L2 CPH
section
variable {n e : Int} {ring stuck : Bool} {trials : List Str}
/-! ### holds_short, check_judgement of a short one -/
def rcT (row : D) (t : Str) : Int := iOf (m_row_carry [row, .str t])
def rowOkT (n : Int) (ring stuck : Bool) (row : D) : Bool := bOf (m_is_row_of [.int n, row, .bool ring, .bool stuck])
theorem or_f {a b : MT} {ρ : CP.Env} {x : Bool} (ha : a ρ = some false) (hb : b ρ = some x) : mOr a b ρ = some x := by simp [mOr, ha, hb]
theorem or_t {a b : MT} {ρ : CP.Env} (ha : a ρ = some true) : mOr a b ρ = some true := by simp [mOr, ha]
theorem not_at {a : MT} {ρ : CP.Env} {x : Bool} (ha : a ρ = some x) : mNot a ρ = some (!x) := by simp [mNot, ha]
theorem ift_at {c a b : MT} {ρ : CP.Env} {x y : Bool} (hc : c ρ = some x) (h : (if x = true then a ρ else b ρ) = some y) : mIfT c a b ρ = some y := by simp [mIfT, hc, h]
theorem andV_t {a b : ME} {ρ : CP.Env} {d : D} (ha : a ρ = some (.bool true)) (hb : b ρ = some d) : eAndV a b ρ = some d := by simp [eAndV, tOf_at ha, hb]
/-- what is wanted of an end, a row and a trial -/
structure SF (n : Int) (ring stuck : Bool) (es : List Int) (e : Int) (row : D) (tr : Str) (trials : List Str) : Prop where
  btw : m_is_between [.int e, .int 0, .int n] = some (.bool true)
  mem : gIn true (.int e) (.tup (es.map .int)) = some (.bool false)
  rowb : isBo (m_is_row_of [.int n, row, .bool ring, .bool stuck]) = true
  kind : (if ring = true then m_is_ring_trial [.str tr, .int n] else m_is_trial [.str tr, .int n]) = some (.bool true)
  rc : rowOkT n ring stuck row = true → ∀ t ∈ trials, isI (m_row_carry [row, .str t]) = true
  cr : ∀ t ∈ trials, isI (m_true_carry [.str t, .int e]) = true
  inn : tr ∈ trials
  ok : ∀ t ∈ trials, PyData.strOk t = true
  asked : m_outputs_asked [.int n, .non, .bool ring] = some (.tup (es.map .int))
  shp : shp (.tup [.str "short", .int e, row, .str tr]) = true
  ne : dEq (.tup [.str "short", .int e, row, .str tr]) (.tup []) = false
def shortB (n e : Int) (ring stuck : Bool) (row : D) (tr : Str) (ts : List Str) : Bool := rowOkT n ring stuck row && ((ts.filter fun t => !decide (rcT row t = crT e t)).isEmpty && !decide (rcT row tr = crT e tr))
theorem short_eq {es : List Int} {row : D} {tr : Str} {ts : List Str} (F : SF n ring stuck es e row tr trials) (hts : ∀ t ∈ ts, t ∈ trials) (hl : ts.length ≤ 1000) :
    m_holds_short [.int n, .lst (ts.map .str), .tup [.str "short", .int e, row, .str tr], .tup (es.map .int), .bool ring, .bool stuck] = some (.bool (shortB n e ring stuck row tr ts)) := by
  have hr := isBo_eq F.rowb
  have c1 : mOr (mNot (tOf (eU (mP 3 m_is_between) (aCons (eVar 7) (aCons (eC (.int 0)) (aCons (eVar 0) aNil))) aNil))) (mOr (tOf (eBin (gIn true) (eVar 7) (eVar 3))) (mNot (tOf (eU (mP 4 m_is_row_of) (aCons (eVar 0) (aCons (eVar 8) (aCons (eVar 4) (aCons (eVar 5) aNil)))) aNil))))
      [some (.fr (.int n)), some (.fr (.lst (ts.map .str))), some (.fr (.tup [.str "short", .int e, row, .str tr])), some (.fr (.tup (es.map .int))), some (.fr (.bool ring)), some (.fr (.bool stuck)), some (.fr (.str "short")), some (.fr (.int e)), some (.fr row), some (.fr (.str tr)), none] = some (!rowOkT n ring stuck row) :=
    or_f (not_at (x := true) (tOf_at (eUp rfl rfl F.btw))) (or_f (tOf_at (eBin_at rfl rfl F.mem)) (not_at (tOf_at (eUp rfl rfl hr))))
  have c2 : mNot (mIfT (tOf (eVar 4)) (tOf (eU (mP 2 m_is_ring_trial) (aCons (eVar 9) (aCons (eVar 0) aNil)) aNil)) (tOf (eU (mP 2 m_is_trial) (aCons (eVar 9) (aCons (eVar 0) aNil)) aNil)))
      [some (.fr (.int n)), some (.fr (.lst (ts.map .str))), some (.fr (.tup [.str "short", .int e, row, .str tr])), some (.fr (.tup (es.map .int))), some (.fr (.bool ring)), some (.fr (.bool stuck)), some (.fr (.str "short")), some (.fr (.int e)), some (.fr row), some (.fr (.str tr)), none] = some false := by
    refine not_at (x := true) (ift_at (x := ring) (tOf_at rfl) ?_)
    have k := F.kind
    cases ring with
    | true =>
      rw [if_pos rfl] at k ⊢
      exact tOf_at (eUp rfl rfl k)
    | false =>
      rw [if_neg Bool.false_ne_true] at k ⊢
      exact tOf_at (eUp rfl rfl k)
  cases hro : rowOkT n ring stuck row with
  | false =>
    have : shortB n e ring stuck row tr ts = false := by simp [shortB, hro]
    rw [this]
    rw [hro] at c1
    refine runB_at (seq_nx (asg_nx rfl rfl) (seq_rt (if_at c1 ?_)))
    rw [if_pos (by rfl)]
    rfl
  | true =>
    rw [hro] at c1
    have rcs := F.rc hro
    have cp : aComp [10] (iLst (eVar 1)) (gN 10) (tOf (eBin (gEq true) (eU (mP 2 m_row_carry) (aCons (eVar 8) (aCons (eVar 10) aNil)) aNil) (eU (mP 2 m_true_carry) (aCons (eVar 10) (aCons (eVar 7) aNil)) aNil))) (eVar 10)
        [some (.fr (.int n)), some (.fr (.lst (ts.map .str))), some (.fr (.tup [.str "short", .int e, row, .str tr])), some (.fr (.tup (es.map .int))), some (.fr (.bool ring)), some (.fr (.bool stuck)), some (.fr (.str "short")), some (.fr (.int e)), some (.fr row), some (.fr (.str tr)), none] = some ((ts.filter fun t => !decide (rcT row t = crT e t)).map .str) := by
      rw [aComp_filter (f := gN 10) (vs := [10]) (ds := ts.map .str) (fun d => match d with
        | .str t => !decide (rcT row t = crT e t)
        | _ => false) id rfl (cap_small (by rw [List.length_map]; omega)) ?_]
      · rw [filter_strs, List.map_id]
      · intro d hd
        obtain ⟨t, ht, rfl⟩ := List.mem_map.mp hd
        exact ⟨_, rfl, tOf_at (eBin_at (eUp rfl rfl (isI_eq (rcs t (hts t ht)))) (eUp rfl rfl (isI_eq (F.cr t (hts t ht)))) (int_ne _ _)), fun _ => rfl⟩
    have hok : ∀ t ∈ ts.filter (fun t => !decide (rcT row t = crT e t)), PyData.strOk t = true := fun t ht => F.ok t (hts t (List.mem_filter.mp ht).1)
    have c3 := tOf_at (eBin_at (b := eLst aNil) (eNew_at cp) rfl (neD_strs _ hok))
    refine runB_at (seq_nx (asg_nx rfl rfl) (seq_nx (if_at c1 rfl) (seq_nx (if_at c2 rfl) ?_)))
    cases hE : (ts.filter fun t => !decide (rcT row t = crT e t)).isEmpty with
    | false =>
      have : shortB n e ring stuck row tr ts = false := by simp only [shortB, hE, Bool.false_and, Bool.and_false]
      rw [this]
      refine seq_rt (if_at c3 ?_)
      rw [hE]
      rfl
    | true =>
      have : shortB n e ring stuck row tr ts = !decide (rcT row tr = crT e tr) := by simp only [shortB, hE, hro, Bool.true_and]
      rw [this]
      refine seq_nx (if_at c3 (by rw [hE]; rfl)) ?_
      exact ret_at (eBin_at (eUp rfl rfl (isI_eq (rcs tr F.inn))) (eUp rfl rfl (isI_eq (F.cr tr F.inn))) (int_ne _ _))
theorem check_short {es : List Int} {row : D} {tr : Str} {ts : List Str} (F : SF n ring stuck es e row tr trials) (hts : ∀ t ∈ ts, t ∈ trials) (hl : ts.length ≤ 1000) :
    m_check_judgement [.int n, .lst (ts.map .str), .tup [.str "short", .int e, row, .str tr], .non, .bool ring, .bool stuck] = some (.bool (shortB n e ring stuck row tr ts)) := by
  have c0 : gEqD false (.tup [.str "short", .int e, row, .str tr]) (.tup []) = some (.bool false) := by
    unfold gEqD
    rw [if_pos (by rw [F.shp, show CP.shp (.tup []) = true from by decide +kernel]; rfl), F.ne]
    rfl
  refine runB_at (seq_nx (if_at (x := false) (or_f (not_at (x := true) (tOf_at rfl)) (or_f (tOf_at (eBin_at rfl rfl c0)) (not_at (x := true) (tOf_at rfl)))) rfl) (seq_nx (asg_nx (eUp rfl rfl F.asked) rfl) (seq_rt (if_at (x := true) (tOf_at (eBin_at (eBin_at rfl rfl rfl) rfl (str_eq _ _))) ?_))))
  rw [if_pos rfl]
  exact ret_at (andV_t (eBin_at (eCall_at rfl rfl) rfl (int_eq 4 4)) (eUp rfl rfl (short_eq F hts hl)))
end
end CP
/-! part CpAZ -/
set_option Elab.async false
set_option linter.all false
set_option maxRecDepth 100000
set_option maxHeartbeats 400000
namespace CP
open PySem PySem.Spec PyProof.Rows L2 CPH
/-! ### shape of the tables -/
def okD (k : Nat) (d : D) : Prop := (py d).canLay0 = true ∧ (py d).depth ≤ k
theorem okD_all {k : Nat} : ∀ ds : List D, (∀ d ∈ ds, okD k d) → PyData.canLayAll0 (pys ds) = true ∧ PyData.depthAll (pys ds) ≤ k
  | [], _ => by simp [pys, PyData.canLayAll0, PyData.depthAll]
  | d :: ds, h => by
    obtain ⟨a, b⟩ := okD_all ds fun x hx => h x (by simp [hx])
    obtain ⟨c, e⟩ := h d (by simp)
    simp only [pys, PyData.canLayAll0, PyData.depthAll, a, c, Bool.and_self, true_and]
    omega
theorem okD_tup {k : Nat} {ds : List D} (h : ∀ d ∈ ds, okD k d) : okD (k + 1) (.tup ds) := by
  obtain ⟨a, b⟩ := okD_all ds h
  refine ⟨by simp only [py, PyData.canLay0, a], ?_⟩
  simp only [py, PyData.depth]
  omega
theorem okD_int (i : Int) : okD 0 (.int i) := ⟨by simp [py, PyData.canLay0], by simp [py, PyData.depth]⟩
theorem okD_mono {k m : Nat} {d : D} (h : okD k d) (l : k ≤ m) : okD m d := ⟨h.1, Nat.le_trans h.2 l⟩
theorem okD_shp {k : Nat} {d : D} (h : okD k d) (l : k ≤ 64) : shp d = true := by
  unfold shp SeqAt.shaped
  rw [Bool.and_eq_true]
  exact ⟨h.1, decide_eq_true (Nat.le_trans h.2 l)⟩
theorem okD_tab (e : Int) (due : D) (ts : List Str) : ∀ (os : List (List D)) (p : Nat), ∀ d ∈ tabFrom e due ts p os, okD 1 d
  | [], p, d, h => by simp [tabFrom] at h
  | l :: os, p, d, h => by
    simp only [tabFrom, List.mem_cons] at h
    rcases h with rfl | h
    · refine okD_tup fun d hd => ?_
      obtain ⟨o, _, rfl⟩ := List.mem_map.mp hd
      exact okD_int _
    · exact okD_tab e due ts os (p + 1) d h
theorem tabFrom_len (e : Int) (due : D) (ts : List Str) : ∀ (os : List (List D)) (p : Nat), (tabFrom e due ts p os).length = os.length
  | [], _ => rfl
  | l :: os, p => by simp [tabFrom, tabFrom_len e due ts os (p + 1)]
theorem tabFrom_get (e : Int) (due : D) (ts : List Str) : ∀ (os : List (List D)) (q i : Nat), (tabFrom e due ts q os)[i]? = os[i]?.map fun l => .tup (l.map fun o => .int (lbT e due (q + i) o ts))
  | [], q, i => rfl
  | l :: os, q, 0 => rfl
  | l :: os, q, i + 1 => by
    simp only [tabFrom, List.getElem?_cons_succ]
    rw [tabFrom_get e due ts os (q + 1) i, show q + 1 + i = q + (i + 1) by omega]
theorem is_row_eq (xs : List D) (k : Int) : m_is_row [.tup xs, .int k] = some (.bool (decide ((xs.length : Int) = k))) :=
  runB_at (ret_at (andV_t rfl (eBin_at (eCall_at rfl rfl) rfl (int_eq _ _))))
/-! ### holds_index, holds_table -/
theorem btw_all : ∀ k ∈ List.range 7, ∀ j ∈ List.range k, oB (m_is_between [.int (j : Nat), .int 0, .int ((k : Int) - 1)]) (.bool true) = true := by decide +kernel
section
variable {n e : Int} {ring stuck : Bool} {due : D} {opts : List (List D)} {trials : List Str}
theorem index_eq (F : RF n e ring stuck due opts trials) {ts : List Str} (hts : ∀ t ∈ ts, t ∈ trials) (hl : lenOk ts.length) {p : Nat} {l : List D} {o : D} (hp : opts[p]? = some l) (ho : o ∈ l) (h0 : maskT e due p o ts ≠ 0) :
    m_holds_index [.lst (ts.map .str), .int (lbT e due p o ts), .int e, due, .int ((0 : Int) + (p : Int)), o] = some (.bool true) := by
  obtain ⟨_, g0, t, g1, g2⟩ := lb_at hl h0
  have hlen : ts.length ≤ 6 := by rcases hl with h | h | h | h <;> omega
  obtain ⟨hj, _⟩ := List.getElem?_eq_some_iff.mp g1
  obtain ⟨j, hjl⟩ : ∃ j : Nat, lbT e due p o ts = (j : Int) := ⟨(lbT e due p o ts).toNat, by omega⟩
  rw [hjl] at g1 hj ⊢
  have ht := hts t (List.mem_of_getElem? g1)
  have hjn : j < ts.length := by simpa using hj
  have b := oB_eq (btw_all ts.length (by simp; omega) j (by simp; omega))
  have ix : gIx (.lst (ts.map .str)) (.int (j : Int)) = some (.str t) := by
    refine atI_nat ?_
    rw [List.getElem?_map]
    simp at g1
    rw [g1]
    rfl
  unfold atT at g2
  rw [Bool.and_eq_true] at g2
  have hld := of_decide_eq_true g2.1
  have rf := isBo_eq (F.hrf t ht l (List.mem_of_getElem? hp) o ho)
  rw [show bOf (m_is_refuted [.str t, o, .int (crT e t)]) = true from g2.2] at rf
  have lt : gLt (.int (ldT due t)) (.int ((0 : Int) + (p : Int))) = some (.bool false) := by
    show some (D.bool (decide (ldT due t < (0 : Int) + (p : Int)))) = _
    rw [decide_eq_false (by omega)]
  refine runB_at (seq_nx (if_at (x := false) (or_f (not_at (x := true) (tOf_at (eUp (aCons_at rfl (aCons_at rfl (aCons_at (eBin_at (eCall_at rfl rfl) rfl rfl) rfl))) rfl (by rw [List.length_map]; exact b)))) (tOf_at (eBin_at (eUp (aCons_at (eBin_at rfl rfl ix) (aCons_at rfl rfl)) rfl (isI_eq (F.hld t ht))) rfl lt))) rfl) ?_)
  exact ret_at (eUp (aCons_at (eBin_at rfl rfl ix) (aCons_at rfl (aCons_at (eUp (aCons_at (eBin_at rfl rfl ix) (aCons_at rfl rfl)) rfl (isI_eq (F.hcr t ht))) rfl))) rfl rf)
abbrev eT (n : Int) (ts : List Str) (th : D) (e : Int) (ring stuck : Bool) (due : D) (pl : D) (y8 y9 y10 y11 : Option EV) : CP.Env := [some (.fr (.int n)), some (.fr (.lst (ts.map .str))), some (.fr th), some (.fr (.int e)), some (.fr (.bool ring)), some (.fr (.bool stuck)), some (.fr due), some (.fr pl), y8, y9, y10, y11]
def bT3 : MS := (sIf (mNot (tOf (eU (mP 6 m_holds_index) (aCons (eVar 1) (aCons (eVar 11) (aCons (eVar 3) (aCons (eVar 6) (aCons (eVar 8) (aCons (eVar 10) aNil)))))) aNil))) (sRet (eC (.bool false))) sNext)
theorem tab_in (F : RF n e ring stuck due opts trials) {ts : List Str} (hts : ∀ t ∈ ts, t ∈ trials) (hl : lenOk ts.length) {p : Nat} {l : List D} (hp : opts[p]? = some l) (hn : ∀ o ∈ l, maskT e due p o ts ≠ 0) {th pl : D} {y9 : Option EV} : ∀ (os : List D), (∀ o ∈ os, o ∈ l) → ∀ (y10 y11 : Option EV), ∃ z10 z11,
    mFor (gTp (gCons0 (gN 10) (gCons0 (gN 11) gNil0)) 2) bT3 (pairD os (os.map fun o => .int (lbT e due p o ts))) (eT n ts th e ring stuck due pl (some (.fr (.int ((0 : Int) + (p : Int))))) y9 y10 y11) = some (.nx (eT n ts th e ring stuck due pl (some (.fr (.int ((0 : Int) + (p : Int))))) y9 z10 z11))
  | [], _, y10, y11 => ⟨y10, y11, rfl⟩
  | o :: os, hos, y10, y11 => by
    obtain ⟨z10, z11, h⟩ := tab_in F hts hl hp hn (th := th) (pl := pl) (y9 := y9) os (fun o ho => hos o (by simp [ho])) (some (.fr o)) (some (.fr (.int (lbT e due p o ts))))
    have ix := index_eq F hts hl hp (hos o (by simp)) (hn o (hos o (by simp)))
    have body : bT3 (eT n ts th e ring stuck due pl (some (.fr (.int ((0 : Int) + (p : Int))))) y9 (some (.fr o)) (some (.fr (.int (lbT e due p o ts))))) = some (.nx (eT n ts th e ring stuck due pl (some (.fr (.int ((0 : Int) + (p : Int))))) y9 (some (.fr o)) (some (.fr (.int (lbT e due p o ts)))))) :=
      if_at (x := false) (not_at (x := true) (tOf_at (eUp rfl rfl ix))) rfl
    refine ⟨z10, z11, Eq.trans ?_ h⟩
    show Option.bind (some (eT n ts th e ring stuck due pl (some (.fr (.int ((0 : Int) + (p : Int))))) y9 (some (.fr o)) (some (.fr (.int (lbT e due p o ts)))))) _ = _
    rw [Option.bind_some, body]
    rfl
def bT2 : MS := (sSeq (sIf (mNot (tOf (eU (mP 2 m_is_row) (aCons (eBin gIx (eVar 2) (eVar 8)) (aCons (eCall cLen (aCons (eVar 9) aNil)) aNil)) aNil))) (sRet (eC (.bool false))) sNext) (sFor (iZpE lstOf tupOf (eVar 9) (eBin gIx (eVar 2) (eVar 8))) (gTp (gCons0 (gN 10) (gCons0 (gN 11) gNil0)) 2) bT3))
theorem tab_out (F : RF n e ring stuck due opts trials) {ts : List Str} (hts : ∀ t ∈ ts, t ∈ trials) (hl : lenOk ts.length) (hc : openL e due ts 0 opts = none) {pl : D} : ∀ (os : List (List D)) (p : Nat), os = opts.drop p → ∀ (y8 y9 y10 y11 : Option EV), ∃ z8 z9 z10 z11,
    mFor (gTp (gCons0 (gN 8) (gCons0 (gN 9) gNil0)) 2) bT2 (enumFrom (os.map .lst) p) (eT n ts (.tup (tabFrom e due ts 0 opts)) e ring stuck due pl y8 y9 y10 y11) = some (.nx (eT n ts (.tup (tabFrom e due ts 0 opts)) e ring stuck due pl z8 z9 z10 z11))
  | [], p, _, y8, y9, y10, y11 => ⟨y8, y9, y10, y11, rfl⟩
  | l :: os, p, hd, y8, y9, y10, y11 => by
    have hget : opts[p]? = some l := by
      have := congrArg (fun x => x[0]?) hd
      simpa [List.getElem?_drop] using this.symm
    have hrest : os = opts.drop (p + 1) := by
      have := congrArg List.tail hd
      simpa [List.tail_drop] using this
    have hn : ∀ o ∈ l, maskT e due p o ts ≠ 0 := fun o ho => by
      have := openL_none hc p l o hget ho
      rw [Nat.zero_add] at this
      exact this
    obtain ⟨z10, z11, h1⟩ := tab_in F hts hl hget hn (th := .tup (tabFrom e due ts 0 opts)) (pl := pl) (y9 := some (.fr (.lst l))) l (fun _ h => h) y10 y11
    obtain ⟨w8, w9, w10, w11, h2⟩ := tab_out F hts hl hc (pl := pl) os (p + 1) hrest (some (.fr (.int ((0 : Int) + (p : Int))))) (some (.fr (.lst l))) z10 z11
    refine ⟨w8, w9, w10, w11, Eq.trans ?_ h2⟩
    have ix : gIx (.tup (tabFrom e due ts 0 opts)) (.int ((0 : Int) + (p : Int))) = some (.tup (l.map fun o => .int (lbT e due p o ts))) := by
      show atI (tabFrom e due ts 0 opts) ((0 : Int) + (p : Int)) = _
      rw [Int.zero_add]
      refine atI_nat ?_
      rw [tabFrom_get, hget, Nat.zero_add]
      rfl
    have gx : eBin gIx (eVar 2) (eVar 8) (eT n ts (.tup (tabFrom e due ts 0 opts)) e ring stuck due pl (some (.fr (.int ((0 : Int) + (p : Int))))) (some (.fr (.lst l))) y10 y11) = some (.tup (l.map fun o => .int (lbT e due p o ts))) := eBin_at rfl rfl ix
    have it : iZpE lstOf tupOf (eVar 9) (eBin gIx (eVar 2) (eVar 8)) (eT n ts (.tup (tabFrom e due ts 0 opts)) e ring stuck due pl (some (.fr (.int ((0 : Int) + (p : Int))))) (some (.fr (.lst l))) y10 y11) = some (pairD l (l.map fun o => .int (lbT e due p o ts))) := by
      unfold iZpE
      rw [gx]
      show (if l.length = (l.map fun o => D.int (lbT e due p o ts)).length then _ else none) = _
      rw [if_pos (by rw [List.length_map])]
    have ir := is_row_eq (l.map fun o => D.int (lbT e due p o ts)) (l.length : Int)
    rw [List.length_map, decide_eq_true rfl] at ir
    have body : bT2 (eT n ts (.tup (tabFrom e due ts 0 opts)) e ring stuck due pl (some (.fr (.int ((0 : Int) + (p : Int))))) (some (.fr (.lst l))) y10 y11) = some (.nx (eT n ts (.tup (tabFrom e due ts 0 opts)) e ring stuck due pl (some (.fr (.int ((0 : Int) + (p : Int))))) (some (.fr (.lst l))) z10 z11)) :=
      seq_nx (if_at (x := false) (not_at (x := true) (tOf_at (eUp (aCons_at gx (aCons_at (eCall_at rfl rfl) rfl)) rfl ir))) rfl) (for_at it h1)
    rw [List.map_cons, enumFrom_cons]
    show Option.bind (some (eT n ts (.tup (tabFrom e due ts 0 opts)) e ring stuck due pl (some (.fr (.int ((0 : Int) + (p : Int))))) (some (.fr (.lst l))) y10 y11)) _ = _
    rw [Option.bind_some, body]
    rfl
theorem table_holds (F : RF n e ring stuck due opts trials) {ts : List Str} (hts : ∀ t ∈ ts, t ∈ trials) (hl : lenOk ts.length) (hc : openL e due ts 0 opts = none) :
    m_holds_table [.int n, .lst (ts.map .str), .tup (tabFrom e due ts 0 opts), .int e, .bool ring, .bool stuck] = some (.bool true) := by
  obtain ⟨z8, z9, z10, z11, h⟩ := tab_out F hts hl hc (pl := .lst (opts.map .lst)) opts 0 rfl none none none none
  have ir := is_row_eq (tabFrom e due ts 0 opts) ((opts.map D.lst).length : Int)
  rw [tabFrom_len, List.length_map, decide_eq_true rfl] at ir
  refine runB_at (seq_nx (asg_nx (eUp rfl rfl F.hdue) rfl) (seq_nx (asg_nx (eUp rfl rfl F.hopt) rfl) (seq_nx (if_at (x := false) (not_at (x := true) (tOf_at (eUp (aCons_at rfl (aCons_at (eCall_at rfl rfl) rfl)) rfl (by rw [List.length_map]; exact ir)))) rfl) (seq_nx (for_at (iEn_at rfl) h) ?_))))
  rfl
end
end CP
/-! part CpBA -/
set_option Elab.async false
set_option linter.all false
set_option maxRecDepth 100000
set_option maxHeartbeats 400000
namespace CP
open PySem PySem.Spec PyProof.Rows L2 CPH
section
variable {n : Int} {ring stuck : Bool} {dueF : Int → D} {optF : Int → List (List D)} {trials : List Str}
def tabsD (dueF : Int → D) (optF : Int → List (List D)) (ts : List Str) (es : List Int) : List D := es.map fun e => .tup (tabFrom e (dueF e) ts 0 (optF e))
theorem bools_true : ∀ l : List Int, boolsD (l.map fun _ => D.bool true) = some (l.map fun _ => true)
  | [] => rfl
  | i :: l => by simp [boolsD, bools_true l]
theorem pair_map (f : Int → D) (g : D → D → D) : ∀ es : List Int, pairD (es.map f) (es.map .int) = es.map fun e => .tup [f e, .int e]
  | [] => rfl
  | e :: es => by
    show D.tup [f e, .int e] :: pairD (es.map f) (es.map .int) = _
    rw [pair_map f g es]
    rfl
abbrev eC2 (n : Int) (ts : List Str) (th : D) (ring stuck : Bool) (es : List Int) : CP.Env := [some (.fr (.int n)), some (.fr (.lst (ts.map .str))), some (.fr th), some (.fr .non), some (.fr (.bool ring)), some (.fr (.bool stuck)), some (.fr (.tup (es.map .int))), none, none]
theorem all_comp {ts : List Str} (hts : ∀ t ∈ ts, t ∈ trials) (hl : lenOk ts.length) {th : D} {es0 : List Int} : ∀ (es : List Int), JF n ring stuck dueF optF trials es → (∀ e ∈ es, closed dueF optF ts e = true) →
    mComp [7, 8] (gTp (gCons0 (gN 7) (gCons0 (gN 8) gNil0)) 2) (fun _ => some true) (eU (mP 6 m_holds_table) (aCons (eVar 0) (aCons (eVar 1) (aCons (eVar 7) (aCons (eVar 8) (aCons (eVar 4) (aCons (eVar 5) aNil)))))) aNil) (eC2 n ts th ring stuck es0) (es.map fun e => .tup [.tup (tabFrom e (dueF e) ts 0 (optF e)), .int e]) = some (es.map fun _ => .bool true)
  | [], _, _ => rfl
  | e :: es, J, hc => by
    have ih := all_comp hts hl (th := th) (es0 := es0) es ⟨fun e he => J.rf e (by simp [he]), fun e he => J.sh e (by simp [he])⟩ (fun e he => hc e (by simp [he]))
    have ht := table_holds (J.rf e (by simp)) hts hl (by simpa [closed] using hc e (by simp))
    have b : eU (mP 6 m_holds_table) (aCons (eVar 0) (aCons (eVar 1) (aCons (eVar 7) (aCons (eVar 8) (aCons (eVar 4) (aCons (eVar 5) aNil)))))) aNil [some (.fr (.int n)), some (.fr (.lst (ts.map .str))), some (.fr th), some (.fr .non), some (.fr (.bool ring)), some (.fr (.bool stuck)), some (.fr (.tup (es0.map .int))), some (.fr (.tup (tabFrom e (dueF e) ts 0 (optF e)))), some (.fr (.int e))] = some (.bool true) := eUp rfl rfl ht
    show Option.bind (eU (mP 6 m_holds_table) (aCons (eVar 0) (aCons (eVar 1) (aCons (eVar 7) (aCons (eVar 8) (aCons (eVar 4) (aCons (eVar 5) aNil)))))) aNil [some (.fr (.int n)), some (.fr (.lst (ts.map .str))), some (.fr th), some (.fr .non), some (.fr (.bool ring)), some (.fr (.bool stuck)), some (.fr (.tup (es0.map .int))), some (.fr (.tup (tabFrom e (dueF e) ts 0 (optF e)))), some (.fr (.int e))]) _ = _
    rw [b, Option.bind_some]
    show Option.map _ (mComp _ _ _ _ _ (es.map _)) = _
    rw [ih]
    rfl
theorem check_enough {ts : List Str} (hts : ∀ t ∈ ts, t ∈ trials) (hl : lenOk ts.length) {es : List Int} (J : JF n ring stuck dueF optF trials es) (hes : es.length ≤ 100) (hc : ∀ e ∈ es, closed dueF optF ts e = true) (ho : m_outputs_asked [.int n, .non, .bool ring] = some (.tup (es.map .int))) :
    m_check_judgement [.int n, .lst (ts.map .str), .tup [.str "enough", .tup (tabsD dueF optF ts es)], .non, .bool ring, .bool stuck] = some (.bool true) := by
  have tabs : okD 3 (.tup (tabsD dueF optF ts es)) := okD_tup (k := 2) fun d hd => by
    obtain ⟨e, _, rfl⟩ := List.mem_map.mp hd
    exact okD_tup (k := 1) fun d hd => okD_tab e (dueF e) ts (optF e) 0 d hd
  have th : okD 4 (.tup [.str "enough", .tup (tabsD dueF optF ts es)]) := okD_tup (k := 3) fun d hd => by
    simp only [List.mem_cons, List.not_mem_nil, or_false] at hd
    rcases hd with rfl | rfl
    · exact ⟨by decide +kernel, by simp [py, PyData.depth]⟩
    · exact tabs
  have c0 : gEqD false (.tup [.str "enough", .tup (tabsD dueF optF ts es)]) (.tup []) = some (.bool false) := by
    unfold gEqD
    rw [if_pos (by rw [okD_shp th (by decide), show CP.shp (.tup []) = true from by decide +kernel]; rfl)]
    simp [dEq, py, pys, PyData.eqv, PyData.eqvAll]
  have ir := is_row_eq (tabsD dueF optF ts es) ((es.map D.int).length : Int)
  rw [show (tabsD dueF optF ts es).length = es.length from List.length_map .., List.length_map, decide_eq_true rfl] at ir
  have it : iZpE tupOf tupOf (eBin gIx (eVar 2) (eC (.int 1))) (eVar 6) (eC2 n ts (.tup [.str "enough", .tup (tabsD dueF optF ts es)]) ring stuck es) = some (es.map fun e => .tup [.tup (tabFrom e (dueF e) ts 0 (optF e)), .int e]) := by
    rw [← pair_map (fun e => .tup (tabFrom e (dueF e) ts 0 (optF e))) (fun a _ => a) es]
    show (if (tabsD dueF optF ts es).length = (es.map D.int).length then _ else none) = _
    rw [if_pos (by unfold tabsD; rw [List.length_map, List.length_map])]
    rfl
  have cp : aComp [7, 8] (iZpE tupOf tupOf (eBin gIx (eVar 2) (eC (.int 1))) (eVar 6)) (gTp (gCons0 (gN 7) (gCons0 (gN 8) gNil0)) 2) (fun _ => some true) (eU (mP 6 m_holds_table) (aCons (eVar 0) (aCons (eVar 1) (aCons (eVar 7) (aCons (eVar 8) (aCons (eVar 4) (aCons (eVar 5) aNil)))))) aNil) (eC2 n ts (.tup [.str "enough", .tup (tabsD dueF optF ts es)]) ring stuck es) = some (es.map fun _ => .bool true) := by
    unfold aComp
    rw [it, Option.bind_some, if_pos (cap_small (by rw [List.length_map]; omega))]
    exact all_comp hts hl es J hc
  have al : cAll [.lst (es.map fun _ => D.bool true)] = some (.bool true) := by
    show (boolsD (es.map fun _ => D.bool true)).map _ = _
    rw [bools_true]
    simp
  refine runB_at (seq_nx (if_at (x := false) (or_f (not_at (x := true) (tOf_at rfl)) (or_f (tOf_at (eBin_at rfl rfl c0)) (not_at (x := true) (tOf_at rfl)))) rfl) (seq_nx (asg_nx (eUp rfl rfl ho) rfl) (seq_nx (if_at (x := false) (tOf_at (eBin_at (eBin_at rfl rfl rfl) rfl (str_eq _ _))) rfl) (seq_nx (if_at (x := false) (or_f (tOf_at (eBin_at (eBin_at rfl rfl rfl) rfl rfl)) (or_f (tOf_at (eBin_at (eCall_at rfl rfl) rfl (int_ne 2 2))) (not_at (x := true) (tOf_at (eUp (aCons_at (eBin_at rfl rfl rfl) (aCons_at (eCall_at rfl rfl) rfl)) rfl (by rw [List.length_map]; exact ir)))))) rfl) ?_))))
  exact ret_at (eCall_at (aCons_at (eNew_at cp) rfl) al)
end
end CP
/-! part CpBB -/
set_option Elab.async false
set_option linter.all false
set_option maxRecDepth 100000
set_option maxHeartbeats 400000
namespace CP
open PySem PySem.Spec PyProof.Rows L2 CPH
/-! ### _law_net_right -/
abbrev xCar (i : Nat) : ME := eBin gIx (eOr3 (eOM 1 2 m_Network_carries_N (eVar 4) (aCons (eVar i) aNil)) (eOM 2 2 m_Network_carries_R (eVar 4) (aCons (eVar i) aNil)) (eOM 3 2 m_Network_carries_F (eVar 4) (aCons (eVar i) aNil))) (eVar 5)
abbrev xWro : ME := eOr3 (eProp 1 m_Network_wrong_outputs (eVar 4)) (eProp 2 m_Ring_wrong_outputs (eVar 4)) (eProp 3 m_Faulty_wrong_outputs (eVar 4))
abbrev xRig : ME := eOr3 (eProp 1 m_Network_is_right (eVar 4)) (eProp 2 m_Network_is_right_R (eVar 4)) (eProp 3 m_Faulty_is_right (eVar 4))
def carE (net : D) (at_ : Int) (t : Str) : Option D := xCar 7 [none, none, none, none, some (.fr net), some (.fr (.int at_)), none, some (.fr (.str t))]
def wroE (net : D) : Option D := xWro [none, none, none, none, some (.fr net)]
def rigE (net : D) : Option D := xRig [none, none, none, none, some (.fr net)]
def lastE (row : D) : Option D := eIsi "str" (eBin gIx (eC row) (eNeg (eC (.int 1)))) []
structure NR (n e : Int) (ring : Bool) (row : D) (due net : D) (trials : List Str) : Prop where
  hdue : m__law_due [.int n, .int e, .bool ring] = some due
  hnet : m_network_with [.int n, .int e, row, .bool ring] = some net
  car : ∀ t ∈ trials, carE net (e - if ring = true then 1 else 0) t = some (.int (rcT row t))
  wro : wroE net = some (.tup [.int e])
  rig : rigE net = some (.bool false)
  seen : ∀ t ∈ trials, m__law_seen [due, .str t] = some (.int (crT e t))
section
variable {n e : Int} {ring : Bool} {row due net : D} {trials : List Str}
abbrev eN (found : D) (ts : List Str) (n : Int) (ring : Bool) (net : D) (at_ : Int) (due : D) (y7 : Option EV) (e : Int) (row : D) (tr : Str) : CP.Env := [some (.fr found), some (.fr (.lst (ts.map .str))), some (.fr (.int n)), some (.fr (.bool ring)), some (.fr net), some (.fr (.int at_)), some (.fr due), y7, some (.fr (.int e)), some (.fr row), some (.fr (.str tr))]
def bN2 : MS := (sIf (tOf (eBin (gEq true) (xCar 7) (eU (mP 2 m__law_seen) (aCons (eVar 6) (aCons (eVar 7) aNil)) aNil))) (sRet (eC (.bool false))) sNext)
theorem net_loop (F : NR n e ring row due net trials) {found : D} {ts0 : List Str} {tr : Str} : ∀ (ts : List Str), (∀ t ∈ ts, t ∈ trials) → (∀ t ∈ ts, rcT row t = crT e t) → ∀ y7 : Option EV, ∃ z7,
    mFor (gN 7) bN2 (ts.map .str) (eN found ts0 n ring net (e - if ring = true then 1 else 0) due y7 e row tr) = some (.nx (eN found ts0 n ring net (e - if ring = true then 1 else 0) due z7 e row tr))
  | [], _, _, y7 => ⟨y7, rfl⟩
  | t :: ts, hts, hr, y7 => by
    obtain ⟨z7, h⟩ := net_loop F (found := found) (ts0 := ts0) (tr := tr) ts (fun t ht => hts t (by simp [ht])) (fun t ht => hr t (by simp [ht])) (some (.fr (.str t)))
    have ht := hts t (by simp)
    have car : xCar 7 (eN found ts0 n ring net (e - if ring = true then 1 else 0) due (some (.fr (.str t))) e row tr) = some (.int (rcT row t)) := F.car t ht
    have body : bN2 (eN found ts0 n ring net (e - if ring = true then 1 else 0) due (some (.fr (.str t))) e row tr) = some (.nx (eN found ts0 n ring net (e - if ring = true then 1 else 0) due (some (.fr (.str t))) e row tr)) := by
      refine if_at (tOf_at (eBin_at car (eUp rfl rfl (F.seen t ht)) (int_ne _ _))) ?_
      rw [decide_eq_true (hr t (by simp))]
      rfl
    refine ⟨z7, Eq.trans ?_ h⟩
    show Option.bind (some (eN found ts0 n ring net (e - if ring = true then 1 else 0) due (some (.fr (.str t))) e row tr)) _ = _
    rw [Option.bind_some, body]
    rfl
theorem shp_e (e : Int) : shp (.tup [.int e]) = true := okD_shp (k := 1) (okD_tup fun d hd => by
  rw [List.mem_singleton.mp hd]
  exact okD_int e) (by decide)
theorem net_right (F : NR n e ring row due net trials) {ts : List Str} (hts : ∀ t ∈ ts, t ∈ trials) (hr : ∀ t ∈ ts, rcT row t = crT e t) {tr : Str} (hin : tr ∈ trials) (hd : rcT row tr ≠ crT e tr) {b : Bool} (hl : lastE row = some (.bool b)) (hb : (ring && b) = false) :
    m__law_net_right [.tup [.str "short", .int e, row, .str tr], .lst (ts.map .str), .int n, .bool ring] = some (.bool true) := by
  obtain ⟨z7, h⟩ := net_loop F (found := .tup [.str "short", .int e, row, .str tr]) (ts0 := ts) (tr := tr) ts hts hr none
  have l9 : eIsi "str" (eBin gIx (eVar 9) (eNeg (eC (.int 1)))) [some (.fr (.tup [.str "short", .int e, row, .str tr])), some (.fr (.lst (ts.map .str))), some (.fr (.int n)), some (.fr (.bool ring)), none, none, none, none, some (.fr (.int e)), some (.fr row), some (.fr (.str tr))] = some (.bool b) := hl
  have c1 : mAnd (tOf (eVar 3)) (tOf (eIsi "str" (eBin gIx (eVar 9) (eNeg (eC (.int 1)))))) [some (.fr (.tup [.str "short", .int e, row, .str tr])), some (.fr (.lst (ts.map .str))), some (.fr (.int n)), some (.fr (.bool ring)), none, none, none, none, some (.fr (.int e)), some (.fr row), some (.fr (.str tr))] = some false := by
    unfold mAnd
    rw [show tOf (eVar 3) [some (.fr (.tup [.str "short", .int e, row, .str tr])), some (.fr (.lst (ts.map .str))), some (.fr (.int n)), some (.fr (.bool ring)), none, none, none, none, some (.fr (.int e)), some (.fr row), some (.fr (.str tr))] = some ring from tOf_at rfl, Option.bind_some]
    cases ring with
    | true =>
      rw [if_pos rfl, tOf_at l9]
      simpa using hb
    | false => rfl
  have at5 : eBin gSubI (eVar 8) (eCall cInt (aCons (eVar 3) aNil)) [some (.fr (.tup [.str "short", .int e, row, .str tr])), some (.fr (.lst (ts.map .str))), some (.fr (.int n)), some (.fr (.bool ring)), some (.fr net), none, none, none, some (.fr (.int e)), some (.fr row), some (.fr (.str tr))] = some (.int (e - if ring = true then 1 else 0)) := rfl
  have car : xCar 10 (eN (.tup [.str "short", .int e, row, .str tr]) ts n ring net (e - if ring = true then 1 else 0) due z7 e row tr) = some (.int (rcT row tr)) := F.car tr hin
  have wro : xWro (eN (.tup [.str "short", .int e, row, .str tr]) ts n ring net (e - if ring = true then 1 else 0) due z7 e row tr) = some (.tup [.int e]) := F.wro
  have rig : xRig (eN (.tup [.str "short", .int e, row, .str tr]) ts n ring net (e - if ring = true then 1 else 0) due z7 e row tr) = some (.bool false) := F.rig
  have we : gEqD false (.tup [.int e]) (.tup [.int e]) = some (.bool true) := by
    unfold gEqD
    rw [if_pos (by rw [shp_e]; rfl)]
    simp [dEq, py, pys, PyData.eqv, PyData.eqvAll]
  refine runB_at (seq_nx (asg_nx rfl rfl) (seq_nx (if_at c1 rfl) (seq_nx (asg_nx (eUK_at rfl rfl rfl (show mKw 3 m_network_with _ _ = _ from F.hnet)) rfl) (seq_nx (asg_nx at5 rfl) (seq_nx (asg_nx (eUp rfl rfl F.hdue) rfl) (seq_nx (for_at (iLst_at rfl) h) ?_))))))
  refine ret_at (andV_t (eBin_at car (eUp rfl rfl (F.seen tr hin)) ?_) (andV_t (eBin_at wro rfl we) (eBin_at rig rfl rfl)))
  rw [int_ne, decide_eq_false hd]
  rfl
theorem net_ring {ts : List Str} {tr : Str} (hl : lastE row = some (.bool true)) : m__law_net_right [.tup [.str "short", .int e, row, .str tr], .lst (ts.map .str), .int n, .bool true] = some (.bool true) := by
  have l9 : eIsi "str" (eBin gIx (eVar 9) (eNeg (eC (.int 1)))) [some (.fr (.tup [.str "short", .int e, row, .str tr])), some (.fr (.lst (ts.map .str))), some (.fr (.int n)), some (.fr (.bool true)), none, none, none, none, some (.fr (.int e)), some (.fr row), some (.fr (.str tr))] = some (.bool true) := hl
  have c1 : mAnd (tOf (eVar 3)) (tOf (eIsi "str" (eBin gIx (eVar 9) (eNeg (eC (.int 1)))))) [some (.fr (.tup [.str "short", .int e, row, .str tr])), some (.fr (.lst (ts.map .str))), some (.fr (.int n)), some (.fr (.bool true)), none, none, none, none, some (.fr (.int e)), some (.fr row), some (.fr (.str tr))] = some true := by
    unfold mAnd
    rw [show tOf (eVar 3) [some (.fr (.tup [.str "short", .int e, row, .str tr])), some (.fr (.lst (ts.map .str))), some (.fr (.int n)), some (.fr (.bool true)), none, none, none, none, some (.fr (.int e)), some (.fr row), some (.fr (.str tr))] = some true from tOf_at rfl, Option.bind_some, if_pos rfl]
    exact tOf_at l9
  exact runB_at (seq_nx (asg_nx rfl rfl) (seq_rt (if_at c1 (by rw [if_pos rfl]; rfl))))
end
end CP
/-! part CpBC -/
set_option Elab.async false
set_option linter.all false
set_option maxRecDepth 100000
set_option maxHeartbeats 400000
namespace CP
open PySem PySem.Spec PyProof.Rows L2 CPH
/-! ### what is to be seen by evaluation: for each mode and end -/
def lstsOf (d : Option D) : List D := match d with
  | some (.lst l) => l
  | _ => []
def innerOf (d : D) : List D := match d with
  | .lst l => l
  | _ => []
def dPos (n : Int) (ring : Bool) (e : Int) : D := dOf (m_due_positions [.int n, .int e, .bool ring])
def dLaw (n : Int) (ring : Bool) (e : Int) : D := dOf (m__law_due [.int n, .int e, .bool ring])
def optQ (n : Int) (ring stuck : Bool) (e : Int) : List (List D) := (lstsOf (m_options_of [.int n, .int e, .bool ring, .bool stuck])).map innerOf
def rowsQ (n : Int) (ring stuck : Bool) : List D := lstsOf (m__law_all_rows [.int n, .bool ring, .bool stuck])
def allT (n : Int) (ring : Bool) : List Str := strsOf (m__law_all_trials [.int n, .bool ring])
def endsQ (n : Int) (ring : Bool) : List Int := if ring = true then [1, 2] else if n = 1 then [0, 1] else [0, 1, 2]
def shQ (n e : Int) (ring : Bool) (p : Nat) (o : D) : Option D := m_shortage [.int n, .int e, .tup [.int ((0 : Int) + (p : Int)), o], .bool ring]
def rowQ (d : Option D) : D := match d with
  | some (.tup [_, _, r, _]) => r
  | _ => .non
def parQ (d : Option D) : Str := match d with
  | some (.tup [_, _, _, .str t]) => t
  | _ => ""
def enumN {α : Type} : Nat → List α → List (Nat × α)
  | _, [] => []
  | p, a :: r => (p, a) :: enumN (p + 1) r
/-- of a mode -/
def chkM (n : Int) (ring stuck : Bool) : Bool :=
  oB (m__law_all_rows [.int n, .bool ring, .bool stuck]) (.lst (rowsQ n ring stuck)) && oB (m__law_all_rows [.int n, .bool ring, .bool true]) (.lst (rowsQ n ring true)) && oB (m__law_all_trials [.int n, .bool ring]) (.lst ((allT n ring).map .str)) &&
  (trS n ring).all (fun t => (allT n ring).contains t) && (allT n ring).all (fun t => PyData.strOk t) && Nat.ble ((rowsQ n ring stuck).length * (allT n ring).length) 1000 && Nat.ble (allT n ring).length 1000 && Nat.ble (rowsQ n ring true).length 30 && Nat.blt 0 (allT n ring).length &&
  oB (m__law_ends [.int n, .bool ring]) (.lst ((endsQ n ring).map .int)) && oB (m_outputs_asked [.int n, .non, .bool ring]) (.tup ((endsQ n ring).map .int)) && oB (m_output_positions [.int n, .bool ring]) (.tup ((endsQ n ring).map .int)) &&
  (endsQ n ring).all (fun e => oB (m_outputs_asked [.int n, .tup [.int e], .bool ring]) (.tup [.int e]))
/-- of an end: WF, RF -/
def chkE (n : Int) (ring stuck : Bool) (e : Int) : Bool :=
  oB (m__law_due [.int n, .int e, .bool ring]) (dLaw n ring e) && (dLaw n ring e :: rowsQ n ring stuck).all (fun row => (allT n ring).all fun t => isI (m__law_seen [row, .str t])) &&
  oB (m_due_positions [.int n, .int e, .bool ring]) (dPos n ring e) && oB (m_options_of [.int n, .int e, .bool ring, .bool stuck]) (.lst ((optQ n ring stuck e).map .lst)) &&
  (allT n ring).all (fun t => isI (m_true_carry [.str t, .int e]) && isI (m_leading_passes [.str t, dPos n ring e]) && decide (seen (dLaw n ring e) t = crT e t) && (optQ n ring stuck e).all fun l => l.all fun o => isBo (m_is_refuted [.str t, o, .int (crT e t)])) &&
  Nat.ble (optQ n ring stuck e).length 100 && (optQ n ring stuck e).all (fun l => Nat.ble l.length 100)
/-- an option: what a shortage there says, its net -/
def chkO (n : Int) (ring stuck : Bool) (e : Int) (p : Nat) (o : D) : Bool :=
  oB (shQ n e ring p o) (.tup [.str "short", .int e, rowQ (shQ n e ring p o), .str (parQ (shQ n e ring p o))]) && (rowsQ n ring stuck).any (eqB (rowQ (shQ n e ring p o))) && (allT n ring).contains (parQ (shQ n e ring p o)) &&
  badT (dLaw n ring e) (rowQ (shQ n e ring p o)) (parQ (shQ n e ring p o)) && (allT n ring).all (fun t => atT e (dPos n ring e) p o t || !badT (dLaw n ring e) (rowQ (shQ n e ring p o)) t) &&
  isBo (lastE (rowQ (shQ n e ring p o))) && ((ring && bOf (lastE (rowQ (shQ n e ring p o)))) || (match m_network_with [.int n, .int e, rowQ (shQ n e ring p o), .bool ring] with
    | some net => (allT n ring).all (fun t => oB (carE net (e - if ring = true then 1 else 0) t) (.int (rcT (rowQ (shQ n e ring p o)) t))) && oB (wroE net) (.tup [.int e]) && oB (rigE net) (.bool false)
    | none => false))
def chkOs (n : Int) (ring stuck : Bool) (e : Int) : Bool := (enumN 0 (optQ n ring stuck e)).all fun q => q.2.all fun o => chkO n ring stuck e q.1 o
/-- each row that differs somewhere is killed by an option's trials -/
def chkK (n : Int) (ring stuck : Bool) (e : Int) : Bool := (rowsQ n ring stuck).all fun row => ((allT n ring).filter (badT (dLaw n ring e) row)).isEmpty ||
  (enumN 0 (optQ n ring stuck e)).any fun q => q.2.any fun o => (allT n ring).all fun t => !atT e (dPos n ring e) q.1 o t || badT (dLaw n ring e) row t
/-- a row that may be claimed -/
def chkR (n : Int) (ring stuck : Bool) (e : Int) (row : D) : Bool :=
  isBo (m_is_row_of [.int n, row, .bool ring, .bool stuck]) && (rowOkT n ring stuck row == (rowsQ n ring stuck).any (eqB row)) &&
  (!rowOkT n ring stuck row || (allT n ring).all fun t => isI (m_row_carry [row, .str t]) && decide (rcT row t = seen row t)) &&
  (allT n ring).all fun tr => shp (.tup [.str "short", .int e, row, .str tr]) && !dEq (.tup [.str "short", .int e, row, .str tr]) (.tup [])
def chkRs (n : Int) (ring stuck : Bool) (e : Int) : Bool := (rowsQ n ring true).all (chkR n ring stuck e) && (rowsQ n ring stuck).all (fun row => (rowsQ n ring true).any (eqB row)) &&
  oB (m_is_between [.int e, .int 0, .int n]) (.bool true) && oB (gIn true (.int e) (.tup ((endsQ n ring).map .int))) (.bool false) && (allT n ring).all fun tr => oB (if ring = true then m_is_ring_trial [.str tr, .int n] else m_is_trial [.str tr, .int n]) (.bool true)
def modes : List (Int × Bool × Bool) := [(1, false, false), (1, false, true), (2, false, false), (2, false, true), (2, true, false), (2, true, true)]
def chkAll (n : Int) (ring stuck : Bool) : Bool := chkM n ring stuck && (endsQ n ring).all fun e => chkE n ring stuck e && chkOs n ring stuck e && chkK n ring stuck e && chkRs n ring stuck e
end CP
/-! part CpBD -/
set_option Elab.async false
set_option linter.all false
set_option maxRecDepth 100000
set_option maxHeartbeats 400000
namespace CP
theorem chk_1ff : chkAll 1 false false = true := by decide +kernel
theorem chk_1ft : chkAll 1 false true = true := by decide +kernel
theorem chk_2ff : chkAll 2 false false = true := by decide +kernel
theorem chk_2ft : chkAll 2 false true = true := by decide +kernel
theorem chk_2tf : chkAll 2 true false = true := by decide +kernel
theorem chk_2tt : chkAll 2 true true = true := by decide +kernel
end CP
/-! part CpBE -/
set_option Elab.async false
set_option linter.all false
set_option maxRecDepth 100000
set_option maxHeartbeats 400000
namespace CP
open PySem PySem.Spec PyProof.Rows L2 CPH
theorem any_eqB {d : D} {l : List D} (h : l.any (eqB d) = true) : d ∈ l := by
  obtain ⟨x, hx, he⟩ := List.any_eq_true.mp h
  rw [eqB_eq he]
  exact hx
theorem enumN_get {α : Type} : ∀ (l : List α) (j p : Nat) (a : α), l[p]? = some a → (j + p, a) ∈ enumN j l
  | [], _, _, _, h => by simp at h
  | x :: l, j, 0, a, h => by
    simp at h
    subst h
    simp [enumN]
  | x :: l, j, p + 1, a, h => by
    have := enumN_get l (j + 1) p a (by simpa using h)
    rw [show j + 1 + p = j + (p + 1) by omega] at this
    simp [enumN, this]
theorem enumN_mem {α : Type} : ∀ (l : List α) (j : Nat) (q : Nat × α), q ∈ enumN j l → ∃ p, q.1 = j + p ∧ l[p]? = some q.2
  | [], _, _, h => by simp [enumN] at h
  | x :: l, j, q, h => by
    simp only [enumN, List.mem_cons] at h
    rcases h with rfl | h
    · exact ⟨0, rfl, rfl⟩
    · obtain ⟨p, h1, h2⟩ := enumN_mem l (j + 1) q h
      exact ⟨p + 1, by omega, by simpa using h2⟩
/-- what the checks say -/
structure ModeF (n : Int) (ring stuck : Bool) : Prop where
  tr : ∀ t ∈ trS n ring, t ∈ allT n ring
  ok : ∀ t ∈ allT n ring, PyData.strOk t = true
  rowsT : m__law_all_rows [.int n, .bool ring, .bool true] = some (.lst (rowsQ n ring true))
  all : m__law_all_trials [.int n, .bool ring] = some (.lst ((allT n ring).map .str))
  len : (allT n ring).length ≤ 1000 ∧ 0 < (allT n ring).length ∧ (rowsQ n ring true).length ≤ 30
  ends : m__law_ends [.int n, .bool ring] = some (.lst ((endsQ n ring).map .int))
  asked : m_outputs_asked [.int n, .non, .bool ring] = some (.tup ((endsQ n ring).map .int))
  outs : m_output_positions [.int n, .bool ring] = some (.tup ((endsQ n ring).map .int))
  one : ∀ e ∈ endsQ n ring, m_outputs_asked [.int n, .tup [.int e], .bool ring] = some (.tup [.int e])
  wf : ∀ e ∈ endsQ n ring, WF n e ring stuck (dLaw n ring e) (rowsQ n ring stuck) (allT n ring)
  rf : ∀ e ∈ endsQ n ring, RF n e ring stuck (dPos n ring e) (optQ n ring stuck e) (allT n ring)
  see : ∀ e ∈ endsQ n ring, ∀ t ∈ allT n ring, seen (dLaw n ring e) t = crT e t
  opt : ∀ e ∈ endsQ n ring, ∀ (p : Nat) (l : List D) (o : D), (optQ n ring stuck e)[p]? = some l → o ∈ l → chkO n ring stuck e p o = true
  kill : ∀ e ∈ endsQ n ring, chkK n ring stuck e = true
  row : ∀ e ∈ endsQ n ring, ∀ row ∈ rowsQ n ring true, chkR n ring stuck e row = true
  sub : ∀ row ∈ rowsQ n ring stuck, row ∈ rowsQ n ring true
  btw : ∀ e ∈ endsQ n ring, m_is_between [.int e, .int 0, .int n] = some (.bool true)
  mem : ∀ e ∈ endsQ n ring, gIn true (.int e) (.tup ((endsQ n ring).map .int)) = some (.bool false)
  kind : ∀ tr ∈ allT n ring, (if ring = true then m_is_ring_trial [.str tr, .int n] else m_is_trial [.str tr, .int n]) = some (.bool true)
theorem ends_ne (n : Int) (ring : Bool) : ∃ e, e ∈ endsQ n ring := by
  unfold endsQ
  cases ring with
  | true => exact ⟨1, by simp⟩
  | false =>
    by_cases h : n = 1
    · exact ⟨0, by simp [h]⟩
    · exact ⟨0, by simp [h]⟩
theorem modeF {n : Int} {ring stuck : Bool} (h : chkAll n ring stuck = true) : ModeF n ring stuck := by
  unfold chkAll at h
  rw [Bool.and_eq_true, List.all_eq_true] at h
  obtain ⟨hm, he⟩ := h
  have hE : ∀ e ∈ endsQ n ring, chkE n ring stuck e = true ∧ chkOs n ring stuck e = true ∧ chkK n ring stuck e = true ∧ chkRs n ring stuck e = true := fun e h => by
    have := he e h
    simp only [Bool.and_eq_true] at this
    exact ⟨this.1.1.1, this.1.1.2, this.1.2, this.2⟩
  clear he
  unfold chkM at hm
  simp only [Bool.and_eq_true, List.all_eq_true] at hm
  obtain ⟨⟨⟨⟨⟨⟨⟨⟨⟨⟨⟨⟨a1, a2⟩, a3⟩, a4⟩, a5⟩, a6⟩, a7⟩, a8⟩, a9⟩, a10⟩, a11⟩, a12⟩, a13⟩ := hm
  have E1 : ∀ e ∈ endsQ n ring, _ := fun e he => by
    have h := (hE e he).1
    unfold chkE at h
    simp only [Bool.and_eq_true, List.all_eq_true] at h
    exact h
  have E4 : ∀ e ∈ endsQ n ring, _ := fun e he => by
    have h := (hE e he).2.2.2
    unfold chkRs at h
    simp only [Bool.and_eq_true, List.all_eq_true] at h
    exact h
  obtain ⟨e0, h0⟩ := ends_ne n ring
  refine ⟨fun t ht => by simpa using a4 t ht, a5, oB_eq a2, oB_eq a3, ⟨Nat.le_of_ble_eq_true a7, ?_, Nat.le_of_ble_eq_true a8⟩, oB_eq a10, oB_eq a11, oB_eq a12, fun e he => oB_eq (a13 e he), fun e he => ?_, fun e he => ?_, fun e he t ht => ?_, fun e he p l o h1 h2 => ?_, fun e he => (hE e he).2.2.1, fun e he row hr => ?_, fun row hr => ?_, fun e he => ?_, fun e he => ?_, fun tr ht => ?_⟩
  · simpa using a9
  · obtain ⟨⟨⟨⟨⟨⟨b1, b2⟩, b3⟩, b4⟩, b5⟩, b6⟩, b7⟩ := E1 e he
    exact ⟨oB_eq b1, oB_eq a1, oB_eq a3, b2, a5, Nat.le_of_ble_eq_true a6, Nat.le_of_ble_eq_true a7⟩
  · obtain ⟨⟨⟨⟨⟨⟨b1, b2⟩, b3⟩, b4⟩, b5⟩, b6⟩, b7⟩ := E1 e he
    exact ⟨oB_eq b3, oB_eq b4, fun t ht => (b5 t ht).1.1.1, fun t ht => (b5 t ht).1.1.2, fun t ht l hl o ho => (b5 t ht).2 l hl o ho, Nat.le_of_ble_eq_true b6, fun l hl => Nat.le_of_ble_eq_true (b7 l hl)⟩
  · obtain ⟨⟨⟨⟨⟨⟨b1, b2⟩, b3⟩, b4⟩, b5⟩, b6⟩, b7⟩ := E1 e he
    exact of_decide_eq_true (b5 t ht).1.2
  · have h := (hE e he).2.1
    unfold chkOs at h
    simp only [List.all_eq_true] at h
    have := h _ (enumN_get _ 0 p l h1) o h2
    rwa [Nat.zero_add] at this
  · exact (E4 e he).1.1.1.1 row hr
  · exact any_eqB ((E4 e0 h0).1.1.1.2 row hr)
  · exact oB_eq (E4 e he).1.1.2
  · exact oB_eq (E4 e he).1.2
  · exact oB_eq ((E4 e0 h0).2 tr ht)
end CP
/-! part CpBF -/
set_option Elab.async false
set_option linter.all false
set_option maxRecDepth 100000
set_option maxHeartbeats 400000
namespace CP
open PySem PySem.Spec PyProof.Rows L2 CPH
section
variable {n : Int} {ring stuck : Bool} {us : List Str}
def wrongQ (n : Int) (ring stuck : Bool) (us : List Str) (e : Int) : List D := wrongL (dLaw n ring e) (rowsQ n ring stuck) (allT n ring) us
structure OptF (n : Int) (ring stuck : Bool) (e : Int) (p : Nat) (o : D) (row : D) (tr : Str) : Prop where
  sh : shQ n e ring p o = some (.tup [.str "short", .int e, row, .str tr])
  inr : row ∈ rowsQ n ring stuck
  inn : tr ∈ allT n ring
  bad : badT (dLaw n ring e) row tr = true
  good : ∀ t ∈ allT n ring, atT e (dPos n ring e) p o t = false → badT (dLaw n ring e) row t = false
  last : isBo (lastE row) = true
  net : (ring && bOf (lastE row)) = true ∨ ∃ net, m_network_with [.int n, .int e, row, .bool ring] = some net ∧ (∀ t ∈ allT n ring, carE net (e - if ring = true then 1 else 0) t = some (.int (rcT row t))) ∧ wroE net = some (.tup [.int e]) ∧ rigE net = some (.bool false)
theorem optF_of {e : Int} {p : Nat} {o : D} (h : chkO n ring stuck e p o = true) : ∃ row tr, OptF n ring stuck e p o row tr := by
  unfold chkO at h
  simp only [Bool.and_eq_true, List.all_eq_true] at h
  obtain ⟨⟨⟨⟨⟨⟨h1, h2⟩, h3⟩, h4⟩, h5⟩, h6⟩, h7⟩ := h
  refine ⟨_, _, oB_eq h1, any_eqB h2, by simpa using h3, h4, fun t ht ha => ?_, h6, ?_⟩
  · have := h5 t ht
    rw [ha, Bool.false_or] at this
    simpa using this
  · rw [Bool.or_eq_true] at h7
    rcases h7 with h7 | h7
    · exact .inl h7
    · refine .inr ?_
      split at h7
      · rename_i net hn
        simp only [Bool.and_eq_true, List.all_eq_true] at h7
        exact ⟨net, hn, fun t ht => oB_eq (h7.1.1 t ht), oB_eq h7.1.2, oB_eq h7.2⟩
      · cases h7
theorem ModeF.jf (M : ModeF n ring stuck) : JF n ring stuck (dPos n ring) (optQ n ring stuck) (allT n ring) (endsQ n ring) :=
  ⟨M.rf, fun e he p l o h1 h2 => by
    obtain ⟨row, tr, F⟩ := optF_of (M.opt e he p l o h1 h2)
    exact Option.isSome_iff_exists.mpr ⟨_, F.sh⟩⟩
theorem sh_eq {e : Int} {p : Nat} {o row : D} {tr : Str} (F : OptF n ring stuck e p o row tr) : shD n e ring (p, o) = .tup [.str "short", .int e, row, .str tr] := by
  show dOf (shQ n e ring p o) = _
  rw [F.sh]
  rfl
theorem ModeF.sho (M : ModeF n ring stuck) : ShOk n ring (optQ n ring stuck) (endsQ n ring) := fun e he p l o h1 h2 => by
  obtain ⟨row, tr, F⟩ := optF_of (M.opt e he p l o h1 h2)
  exact ⟨row, tr, sh_eq F⟩
theorem mem_wrong {e : Int} {row : D} {tr : Str} : D.tup [row, .str tr] ∈ wrongQ n ring stuck us e ↔ row ∈ rowsQ n ring stuck ∧ (us.filter (badT (dLaw n ring e) row)).isEmpty = true ∧ tr ∈ allT n ring ∧ badT (dLaw n ring e) row tr = true := by
  unfold wrongQ wrongL
  rw [List.mem_flatMap]
  constructor
  · rintro ⟨r, hr, h⟩
    split at h
    · rename_i hE
      obtain ⟨t, ht, he⟩ := List.mem_map.mp h
      have e1 : r = row := by injection he with he; injection he
      have e2 : t = tr := by
        injection he with he
        injection he with _ he
        injection he with he _
        injection he
      subst e1 e2
      obtain ⟨a, b⟩ := List.mem_filter.mp ht
      exact ⟨hr, hE, a, b⟩
    · simp at h
  · rintro ⟨hr, hE, ht, hb⟩
    refine ⟨row, hr, ?_⟩
    rw [if_pos hE]
    exact List.mem_map.mpr ⟨tr, List.mem_filter.mpr ⟨ht, hb⟩, rfl⟩
theorem filter_nil {p : Str → Bool} (h : ∀ t ∈ us, p t = false) : (us.filter p).isEmpty = true := by
  rw [List.isEmpty_iff, List.filter_eq_nil_iff]
  intro t ht
  rw [h t ht]
  exact Bool.false_ne_true
/-- an open option's claim stands among the wrong ones -/
theorem open_wrong (M : ModeF n ring stuck) (hts : ∀ t ∈ us, t ∈ allT n ring) (hl : lenOk us.length) {e : Int} (he : e ∈ endsQ n ring) {p : Nat} {o : D} (h : openL e (dPos n ring e) us 0 (optQ n ring stuck e) = some (p, o)) :
    ∃ row tr, OptF n ring stuck e p o row tr ∧ (∀ t ∈ us, badT (dLaw n ring e) row t = false) ∧ D.tup [row, .str tr] ∈ wrongQ n ring stuck us e := by
  obtain ⟨i, l, h1, h2, h3, h4⟩ := openL_some h
  rw [Nat.zero_add] at h1
  subst h1
  obtain ⟨row, tr, F⟩ := optF_of (M.opt e he p l o h2 h3)
  have hg : ∀ t ∈ us, badT (dLaw n ring e) row t = false := fun t ht => F.good t (hts t ht) ((mask0 hl).mp h4 t ht)
  exact ⟨row, tr, F, hg, mem_wrong.mpr ⟨F.inr, filter_nil hg, F.inn, F.bad⟩⟩
theorem closed_wrong (M : ModeF n ring stuck) (hts : ∀ t ∈ us, t ∈ allT n ring) (hl : lenOk us.length) {e : Int} (he : e ∈ endsQ n ring) : closed (dPos n ring) (optQ n ring stuck) us e = (wrongQ n ring stuck us e).isEmpty := by
  cases h : openL e (dPos n ring e) us 0 (optQ n ring stuck e) with
  | some q =>
    obtain ⟨p, o⟩ := q
    obtain ⟨row, tr, _, _, hm⟩ := open_wrong M hts hl he h
    have : (wrongQ n ring stuck us e).isEmpty = false := by
      cases hw : wrongQ n ring stuck us e with
      | nil => rw [hw] at hm; simp at hm
      | cons a b => rfl
    rw [this]
    simp [closed, h]
  | none =>
    have : wrongQ n ring stuck us e = [] := by
      unfold wrongQ wrongL
      rw [List.flatMap_eq_nil_iff]
      intro row hr
      split
      · rename_i hE
        have k := M.kill e he
        unfold chkK at k
        rw [List.all_eq_true] at k
        have k := k row hr
        rw [Bool.or_eq_true] at k
        rcases k with k | k
        · rw [List.isEmpty_iff] at k
          rw [k]
          rfl
        · exfalso
          obtain ⟨q, hq, k⟩ := List.any_eq_true.mp k
          obtain ⟨o, ho, k⟩ := List.any_eq_true.mp k
          rw [List.all_eq_true] at k
          obtain ⟨p, hp1, hp2⟩ := enumN_mem _ 0 q hq
          have hn := openL_none h p q.2 o hp2 ho
          rw [← hp1] at hn
          obtain ⟨_, _, t, g1, g2⟩ := lb_at hl hn
          have ht := List.mem_of_getElem? g1
          have hb := k t (hts t ht)
          rw [g2] at hb
          have hb : badT (dLaw n ring e) row t = true := by simpa using hb
          rw [List.isEmpty_iff, List.filter_eq_nil_iff] at hE
          exact hE t ht hb
      · rfl
    rw [this]
    simp [closed, h]
end
end CP
/-! part CpBG -/
set_option Elab.async false
set_option linter.all false
set_option maxRecDepth 100000
set_option maxHeartbeats 400000
namespace CP
open PySem PySem.Spec PyProof.Rows L2 CPH
/-! ### plain data: == is equality -/
mutual
def plainD : D → Bool
  | .int _ => true
  | .str _ => true
  | .tup ds => plainDs ds
  | _ => false
def plainDs : List D → Bool
  | [] => true
  | d :: ds => plainD d && plainDs ds
end
mutual
theorem eqv_plain : ∀ (a b : D), plainD a = true → plainD b = true → PyData.eqv (py a) (py b) = true → a = b
  | .int i, b, _, hb, h => by
    cases b with
    | int j => simp only [py, PyData.eqv, beq_iff_eq] at h; rw [h]
    | str t => simp [py, PyData.eqv] at h
    | tup ds => simp [py, PyData.eqv] at h
    | _ => simp [plainD] at hb
  | .str i, b, _, hb, h => by
    cases b with
    | int j => simp [py, PyData.eqv] at h
    | str t => simp only [py, PyData.eqv, beq_iff_eq] at h; rw [h]
    | tup ds => simp [py, PyData.eqv] at h
    | _ => simp [plainD] at hb
  | .tup as, b, ha, hb, h => by
    cases b with
    | int j => simp [py, PyData.eqv] at h
    | str t => simp [py, PyData.eqv] at h
    | tup ds =>
      simp only [py, PyData.eqv] at h
      simp only [plainD] at ha hb
      rw [eqvs_plain as ds ha hb h]
    | _ => simp [plainD] at hb
  | .non, _, ha, _, _ => by simp [plainD] at ha
  | .bool _, _, ha, _, _ => by simp [plainD] at ha
  | .lst _, _, ha, _, _ => by simp [plainD] at ha
  | .dct _ _, _, ha, _, _ => by simp [plainD] at ha
  | .obj _ _, _, ha, _, _ => by simp [plainD] at ha
  | .tpf _, _, ha, _, _ => by simp [plainD] at ha
  | .adr _, _, ha, _, _ => by simp [plainD] at ha
theorem eqvs_plain : ∀ (a b : List D), plainDs a = true → plainDs b = true → PyData.eqvAll (pys a) (pys b) = true → a = b
  | [], b, _, _, h => by
    cases b with
    | nil => rfl
    | cons c cs => simp [pys, PyData.eqvAll] at h
  | x :: xs, b, ha, hb, h => by
    cases b with
    | nil => simp [pys, PyData.eqvAll] at h
    | cons c cs =>
      simp only [pys, PyData.eqvAll, Bool.and_eq_true] at h
      simp only [plainDs, Bool.and_eq_true] at ha hb
      rw [eqv_plain x c ha.1 hb.1 h.1, eqvs_plain xs cs ha.2 hb.2 h.2]
end
mutual
theorem eqv_self : ∀ (a : D), plainD a = true → PyData.eqv (py a) (py a) = true
  | .int i, _ => by simp [py, PyData.eqv]
  | .str i, _ => by simp [py, PyData.eqv]
  | .tup as, h => by
    simp only [plainD] at h
    simp only [py, PyData.eqv]
    exact eqvs_self as h
  | .non, ha => by simp [plainD] at ha
  | .bool _, ha => by simp [plainD] at ha
  | .lst _, ha => by simp [plainD] at ha
  | .dct _ _, ha => by simp [plainD] at ha
  | .obj _ _, ha => by simp [plainD] at ha
  | .tpf _, ha => by simp [plainD] at ha
  | .adr _, ha => by simp [plainD] at ha
theorem eqvs_self : ∀ (a : List D), plainDs a = true → PyData.eqvAll (pys a) (pys a) = true
  | [], _ => by simp [pys, PyData.eqvAll]
  | x :: xs, h => by
    simp only [plainDs, Bool.and_eq_true] at h
    simp only [pys, PyData.eqvAll, eqv_self x h.1, eqvs_self xs h.2, Bool.and_self]
end
theorem any_pys (a : D) (ha : plainD a = true) : ∀ ds : List D, (∀ d ∈ ds, plainD d = true) → ((pys ds).any (fun z => PyData.eqv z (py a)) = true ↔ a ∈ ds)
  | [], _ => by simp [pys]
  | d :: ds, h => by
    have ih := any_pys a ha ds fun x hx => h x (by simp [hx])
    simp only [pys, List.any_cons, Bool.or_eq_true, List.mem_cons, ih]
    constructor
    · rintro (h1 | h1)
      · exact .inl (eqv_plain d a (h d (by simp)) ha h1).symm
      · exact .inr h1
    · rintro (rfl | h1)
      · exact .inl (eqv_self a ha)
      · exact .inr h1
/-- what may stand in a list that is asked -/
def fineD (d : D) : Bool := plainD d && (py d).canLay0 && Nat.ble (py d).depth 60
theorem fine_lst {ds : List D} (h : ∀ d ∈ ds, fineD d = true) : shp (.lst ds) = true ∧ ∀ d ∈ ds, plainD d = true := by
  have g : ∀ d ∈ ds, plainD d = true ∧ okD 60 d := fun d hd => by
    have := h d hd
    unfold fineD at this
    simp only [Bool.and_eq_true] at this
    exact ⟨this.1.1, this.1.2, Nat.le_of_ble_eq_true this.2⟩
  obtain ⟨a, b⟩ := okD_all ds fun d hd => (g d hd).2
  refine ⟨?_, fun d hd => (g d hd).1⟩
  unfold shp SeqAt.shaped
  rw [Bool.and_eq_true]
  refine ⟨by simp only [py, PyData.canLay0, a], decide_eq_true ?_⟩
  simp only [py, PyData.depth]
  omega
theorem gInD_lst (n : Bool) (a : D) (ds : List D) : gInD n a (.lst ds) = if (shp a && shp (.lst ds)) = true then some (.bool (if n = true then !(pys ds).any fun z => PyData.eqv z (py a) else (pys ds).any fun z => PyData.eqv z (py a))) else none := by cases a <;> rfl
theorem inD_at {a : D} {ds : List D} (ha : fineD a = true) (h : ∀ d ∈ ds, fineD d = true) : ∃ b : Bool, (b = true ↔ a ∈ ds) ∧ gInD false a (.lst ds) = some (.bool b) ∧ gInD true a (.lst ds) = some (.bool !b) := by
  obtain ⟨h1, h2⟩ := fine_lst h
  have hp : plainD a = true := by
    unfold fineD at ha
    simp only [Bool.and_eq_true] at ha
    exact ha.1.1
  have hs : shp a = true := by
    unfold fineD at ha
    simp only [Bool.and_eq_true] at ha
    exact okD_shp (k := 60) ⟨ha.1.2, Nat.le_of_ble_eq_true ha.2⟩ (by decide)
  refine ⟨(pys ds).any fun z => PyData.eqv z (py a), any_pys a hp ds h2, ?_, ?_⟩
  · rw [gInD_lst, if_pos (by rw [hs, h1]; rfl)]
    rfl
  · rw [gInD_lst, if_pos (by rw [hs, h1]; rfl)]
    rfl
def chkP (n : Int) (ring : Bool) : Bool := (rowsQ n ring true).all fun row => (allT n ring).all fun tr => fineD (.tup [row, .str tr])
theorem chkP1 : chkP 1 false = true := by decide +kernel
theorem chkP2 : chkP 2 false = true := by decide +kernel
theorem chkP3 : chkP 2 true = true := by decide +kernel
end CP
/-! part CpBH -/
set_option Elab.async false
set_option linter.all false
set_option maxRecDepth 100000
set_option maxHeartbeats 400000
namespace CP
open PySem PySem.Spec PyProof.Rows L2 CPH
mutual
theorem eqB_self : ∀ (a : D), plainD a = true → eqB a a = true
  | .int i, _ => by simp [eqB]
  | .str i, _ => by simp [eqB]
  | .tup as, h => by
    simp only [plainD] at h
    simp only [eqB]
    exact eqBs_self as h
  | .non, ha => by simp [plainD] at ha
  | .bool _, ha => by simp [plainD] at ha
  | .lst _, ha => by simp [plainD] at ha
  | .dct _ _, ha => by simp [plainD] at ha
  | .obj _ _, ha => by simp [plainD] at ha
  | .tpf _, ha => by simp [plainD] at ha
  | .adr _, ha => by simp [plainD] at ha
theorem eqBs_self : ∀ (a : List D), plainDs a = true → eqBs a a = true
  | [], _ => by simp [eqBs]
  | x :: xs, h => by
    simp only [plainDs, Bool.and_eq_true] at h
    simp only [eqBs, eqB_self x h.1, eqBs_self xs h.2, Bool.and_self]
end
section
variable {n : Int} {ring stuck : Bool} {us : List Str}
theorem sf_of (M : ModeF n ring stuck) {e : Int} (he : e ∈ endsQ n ring) {row : D} (hr : row ∈ rowsQ n ring true) {tr : Str} (ht : tr ∈ allT n ring) : SF n ring stuck (endsQ n ring) e row tr (allT n ring) := by
  have h := M.row e he row hr
  unfold chkR at h
  simp only [Bool.and_eq_true, List.all_eq_true] at h
  obtain ⟨⟨⟨h1, h2⟩, h3⟩, h4⟩ := h
  refine ⟨M.btw e he, M.mem e he, h1, M.kind tr ht, fun hro t htt => ?_, (M.rf e he).hcr, ht, M.ok, M.asked, (h4 tr ht).1, ?_⟩
  · rw [hro] at h3
    simp only [Bool.not_true, Bool.false_or, List.all_eq_true, Bool.and_eq_true] at h3
    exact (h3 t htt).1
  · have := (h4 tr ht).2
    simpa using this
theorem fine_at (P : chkP n ring = true) {row : D} (hr : row ∈ rowsQ n ring true) {tr : Str} (ht : tr ∈ allT n ring) : fineD (.tup [row, .str tr]) = true := by
  unfold chkP at P
  simp only [List.all_eq_true] at P
  exact P row hr tr ht
theorem plain_row {row : D} {tr : Str} (h : fineD (.tup [row, .str tr]) = true) : plainD row = true := by
  unfold fineD at h
  simp only [Bool.and_eq_true, plainD, plainDs] at h
  exact h.1.1.1
theorem fine_wrong (M : ModeF n ring stuck) (P : chkP n ring = true) (e : Int) : ∀ d ∈ wrongQ n ring stuck us e, fineD d = true := by
  intro d hd
  unfold wrongQ wrongL at hd
  obtain ⟨row, hr, h⟩ := List.mem_flatMap.mp hd
  split at h
  · obtain ⟨t, ht, rfl⟩ := List.mem_map.mp h
    exact fine_at P (M.sub row hr) (List.mem_filter.mp ht).1
  · simp at h
theorem short_mem (M : ModeF n ring stuck) (P : chkP n ring = true) (hts : ∀ t ∈ us, t ∈ allT n ring) {e : Int} (he : e ∈ endsQ n ring) {row : D} (hr : row ∈ rowsQ n ring true) {tr : Str} (ht : tr ∈ allT n ring) :
    shortB n e ring stuck row tr us = true ↔ D.tup [row, .str tr] ∈ wrongQ n ring stuck us e := by
  have h := M.row e he row hr
  unfold chkR at h
  simp only [Bool.and_eq_true, List.all_eq_true] at h
  obtain ⟨⟨⟨h1, h2⟩, h3⟩, h4⟩ := h
  have hpl := plain_row (fine_at P hr ht)
  have hin : rowOkT n ring stuck row = true ↔ row ∈ rowsQ n ring stuck := by
    have h2' : rowOkT n ring stuck row = (rowsQ n ring stuck).any (eqB row) := by simpa using h2
    rw [h2']
    exact ⟨any_eqB, fun hm => List.any_eq_true.mpr ⟨row, hm, eqB_self row hpl⟩⟩
  rw [mem_wrong]
  unfold shortB
  cases hro : rowOkT n ring stuck row with
  | false =>
    have : row ∉ rowsQ n ring stuck := fun hm => by
      rw [hin.mpr hm] at hro
      cases hro
    simp [this]
  | true =>
    rw [hro] at h3
    simp only [Bool.not_true, Bool.false_or, List.all_eq_true, Bool.and_eq_true, decide_eq_true_eq] at h3
    have hb : ∀ t ∈ allT n ring, (!decide (rcT row t = crT e t)) = badT (dLaw n ring e) row t := fun t htt => by
      unfold badT
      rw [(h3 t htt).2, M.see e he t htt]
    have hf : us.filter (fun t => !decide (rcT row t = crT e t)) = us.filter (badT (dLaw n ring e) row) := List.filter_congr fun t htt => hb t (hts t htt)
    rw [hf, hb tr ht, Bool.true_and, Bool.and_eq_true]
    have hrow := hin.mp hro
    constructor
    · rintro ⟨a, b⟩
      exact ⟨hrow, a, ht, b⟩
    · rintro ⟨_, a, _, b⟩
      exact ⟨a, b⟩
/-- one turn of the last loop -/
theorem turn_ok (M : ModeF n ring stuck) (P : chkP n ring = true) (hts : ∀ t ∈ us, t ∈ allT n ring) (hl : us.length ≤ 1000) {e : Int} (he : e ∈ endsQ n ring) {row : D} (hr : row ∈ rowsQ n ring true) {tr : Str} (ht : tr ∈ allT n ring) {y0 y4 y6 y7 y8 y9 y10 y15 y16 y17 : Option EV} :
    ∃ y15' y16', bb__law_right [y0, some (.fr (.int n)), some (.fr (.bool ring)), some (.fr (.bool stuck)), y4, some (.fr (.lst (us.map .str))), y6, y7, y8, y9, y10, some (.fr (.int e)), some (.fr (.lst (wrongQ n ring stuck us e))), some (.fr row), some (.fr (.str tr)), y15, y16, y17] =
      some (.nx [y0, some (.fr (.int n)), some (.fr (.bool ring)), some (.fr (.bool stuck)), y4, some (.fr (.lst (us.map .str))), y6, y7, y8, y9, y10, some (.fr (.int e)), some (.fr (.lst (wrongQ n ring stuck us e))), some (.fr row), some (.fr (.str tr)), some (.fr y15'), some (.fr y16'), y17]) := by
  obtain ⟨b, hb, hi, _⟩ := inD_at (fine_at P hr ht) (fine_wrong (us := us) M P e)
  have hs : shortB n e ring stuck row tr us = b := by
    rw [Bool.eq_iff_iff, hb]
    exact short_mem M P hts he hr ht
  have ck := check_short (sf_of M he hr ht) hts hl
  rw [hs] at ck
  have okb : cRepr [.bool b] = some (.str (PyData.shown (.bool b))) := by cases b <;> rfl
  refine ⟨.bool b, .tup [.str "short", .int e, row, .str tr], ?_⟩
  refine seq_nx (asg_nx (eBin_at rfl rfl hi) rfl) (seq_nx (asg_nx rfl rfl) (if_at (x := false) (tOf_at (eBin_at (eCall_at (aCons_at (eUK_at rfl rfl rfl ck) rfl) okb) (eCall_at (aCons_at rfl rfl) okb) ?_)) rfl))
  have : gEq true (.str (PyData.shown (.bool b))) (.str (PyData.shown (.bool b))) = some (.bool (!decide (PyData.shown (.bool b) = PyData.shown (.bool b)))) := by simp [gEq, sc, scal]
  rw [this, decide_eq_true rfl]
  rfl
end
end CP
/-! part CpBI -/
set_option Elab.async false
set_option linter.all false
set_option maxRecDepth 100000
set_option maxHeartbeats 400000
namespace CP
open PySem PySem.Spec PyProof.Rows L2 CPH
section
variable {n : Int} {ring stuck : Bool} {us : List Str}
/-- a slot, fixed or empty -/
def fD (y : Option D) : Option EV := y.map .fr
abbrev eL (p : Addr) (n : Int) (ring stuck : Bool) (us : List Str) (wr : List D) (y4 y8 y9 y10 y11 y12 y13 y14 y15 y16 y17 : Option D) : CP.Env :=
  [some (.fr (.adr p)), some (.fr (.int n)), some (.fr (.bool ring)), some (.fr (.bool stuck)), fD y4, some (.fr (.lst (us.map .str))), some (.fr (.lst ((endsQ n ring).map .int))), some (.fr (.lst wr)), fD y8, fD y9, fD y10, fD y11, fD y12, fD y13, fD y14, fD y15, fD y16, fD y17]
theorem frE_nil : frE [] = [] := rfl
theorem frE_fr' (d : D) (ρ : CP.Env) : frE (some (.fr d) :: ρ) = some (.fr d) :: frE ρ := rfl
theorem frE_fD (y : Option D) (ρ : CP.Env) : frE (fD y :: ρ) = fD y :: frE ρ := by cases y <;> rfl
theorem loop_in (M : ModeF n ring stuck) (P : chkP n ring = true) (hts : ∀ t ∈ us, t ∈ allT n ring) (hl : us.length ≤ 1000) {e : Int} (he : e ∈ endsQ n ring) {p : Addr} {wr : List D} {y4 y8 y9 y10 y17 : Option D} {post : Res → Prop} : ∀ (rs : List D), (∀ r ∈ rs, r ∈ rowsQ n ring true) → ∀ (y13 y14 y15 y16 : Option D),
    (∀ z13 z14 z15 z16, post (.nx (eL p n ring stuck us wr y4 y8 y9 y10 (some (.int e)) (some (.lst (wrongQ n ring stuck us e))) z13 z14 z15 z16 y17))) →
    nForL (gN 13) (nSeq (nPick (p := p) 14 ma__law_right mb__law_right) (nOf bb__law_right)) rs (eL p n ring stuck us wr y4 y8 y9 y10 (some (.int e)) (some (.lst (wrongQ n ring stuck us e))) y13 y14 y15 y16 y17) post
  | [], _, y13, y14, y15, y16, k => k _ _ _ _
  | row :: rs, hrs, y13, y14, y15, y16, k => by
    refine ⟨eL p n ring stuck us wr y4 y8 y9 y10 (some (.int e)) (some (.lst (wrongQ n ring stuck us e))) (some row) y14 y15 y16 y17, rfl, ?_⟩
    have hl2 := M.len
    have ha : ma__law_right (eL p n ring stuck us wr y4 y8 y9 y10 (some (.int e)) (some (.lst (wrongQ n ring stuck us e))) (some row) y14 y15 y16 y17) = some (.lst ((allT n ring).map .str)) := eUp rfl rfl M.all
    refine ⟨(allT n ring).map .str, ha, ?_, by rw [List.length_map]; exact hl2.2.1, by rw [List.length_map]; omega, rfl, fun d hd => ?_⟩
    · exact eCall_at (aCons_at ha rfl) rfl
    · obtain ⟨tr, ht, rfl⟩ := List.mem_map.mp hd
      obtain ⟨w15, w16, hb⟩ := turn_ok (us := us) M P hts hl he (hrs row (by simp)) ht (y0 := some (.fr (.adr p))) (y4 := fD y4) (y6 := some (.fr (.lst ((endsQ n ring).map .int)))) (y7 := some (.fr (.lst wr))) (y8 := fD y8) (y9 := fD y9) (y10 := fD y10) (y15 := fD y15) (y16 := fD y16) (y17 := fD y17)
      refine ⟨_, hb, ?_⟩
      have hfr : frR (.nx [some (.fr (.adr p)), some (.fr (.int n)), some (.fr (.bool ring)), some (.fr (.bool stuck)), fD y4, some (.fr (.lst (us.map .str))), some (.fr (.lst ((endsQ n ring).map .int))), some (.fr (.lst wr)), fD y8, fD y9, fD y10, some (.fr (.int e)), some (.fr (.lst (wrongQ n ring stuck us e))), some (.fr row), some (.fr (.str tr)), some (.fr w15), some (.fr w16), fD y17]) = .nx (eL p n ring stuck us wr y4 y8 y9 y10 (some (.int e)) (some (.lst (wrongQ n ring stuck us e))) (some row) (some (.str tr)) (some w15) (some w16) y17) := by
        simp only [frR, frE_fr', frE_fD, frE_nil]
        rfl
      rw [hfr]
      exact loop_in M P hts hl he rs (fun r hr => hrs r (by simp [hr])) (some row) (some (.str tr)) (some w15) (some w16) k
theorem loop_out (M : ModeF n ring stuck) (P : chkP n ring = true) (hts : ∀ t ∈ us, t ∈ allT n ring) (hl : us.length ≤ 1000) {p : Addr} {wr : List D} {y4 y8 y9 y10 y17 : Option D} {post : Res → Prop} : ∀ (es : List Int), (∀ e ∈ es, e ∈ endsQ n ring) → ∀ (y11 y12 y13 y14 y15 y16 : Option D),
    (∀ z11 z12 z13 z14 z15 z16, post (.nx (eL p n ring stuck us wr y4 y8 y9 y10 z11 z12 z13 z14 z15 z16 y17))) →
    nForL (gTp (gCons0 (gN 11) (gCons0 (gN 12) gNil0)) 2) (nFor 30 (iLst (eU (mP 3 m__law_all_rows) (aCons (eVar 1) (aCons (eVar 2) (aCons (eC (.bool true)) aNil))) aNil)) (gN 13) (nSeq (nPick (p := p) 14 ma__law_right mb__law_right) (nOf bb__law_right))) (es.map fun e => .tup [.int e, .lst (wrongQ n ring stuck us e)]) (eL p n ring stuck us wr y4 y8 y9 y10 y11 y12 y13 y14 y15 y16 y17) post
  | [], _, y11, y12, y13, y14, y15, y16, k => k _ _ _ _ _ _
  | e :: es, hes, y11, y12, y13, y14, y15, y16, k => by
    refine ⟨eL p n ring stuck us wr y4 y8 y9 y10 (some (.int e)) (some (.lst (wrongQ n ring stuck us e))) y13 y14 y15 y16 y17, rfl, ?_⟩
    refine ⟨rowsQ n ring true, iLst_at (eUp rfl rfl M.rowsT), M.len.2.2, ?_⟩
    refine loop_in M P hts hl (hes e (by simp)) (rowsQ n ring true) (fun _ h => h) y13 y14 y15 y16 fun z13 z14 z15 z16 => ?_
    exact loop_out M P hts hl es (fun e he => hes e (by simp [he])) _ _ _ _ _ _ k
theorem pair_ends (f : Int → D) : ∀ es : List Int, pairD (es.map .int) (es.map f) = es.map fun e => .tup [.int e, f e]
  | [] => rfl
  | e :: es => by
    show D.tup [.int e, f e] :: pairD (es.map .int) (es.map f) = _
    rw [pair_ends f es]
    rfl
theorem n_right (M : ModeF n ring stuck) (P : chkP n ring = true) (hts : ∀ t ∈ us, t ∈ allT n ring) (hl : us.length ≤ 1000) {p : Addr} {y4 y8 y9 y10 y11 y12 y13 y14 y15 y16 y17 : Option D} :
    n__law_right p (eL p n ring stuck us ((endsQ n ring).map fun e => .lst (wrongQ n ring stuck us e)) y4 y8 y9 y10 y11 y12 y13 y14 y15 y16 y17) fun r => ∃ ρ', r = .nx ρ' := by
  refine ⟨(endsQ n ring).map fun e => .tup [.int e, .lst (wrongQ n ring stuck us e)], ?_, ?_, loop_out M P hts hl (endsQ n ring) (fun _ h => h) y11 y12 y13 y14 y15 y16 fun _ _ _ _ _ _ => ⟨_, rfl⟩⟩
  · rw [← pair_ends (fun e => .lst (wrongQ n ring stuck us e))]
    rfl
  · rw [List.length_map]
    unfold endsQ
    split
    · decide
    · split <;> decide
end
end CP
/-! part CpBJ -/
set_option Elab.async false
set_option linter.all false
set_option maxRecDepth 100000
set_option maxHeartbeats 400000
namespace CP
open PySem PySem.Spec PyProof.Rows L2 CPH
def toldD (es : List Int) (c : Int → Bool) : D := .lst [.tup ((es.filter c).map .int), .bool (es.all c)]
theorem told_ok {n : Int} {ring : Bool} (hm : ModeOk n ring) (c : Int → Bool) : (∃ s, cRepr [toldD (endsQ n ring) c] = some (.str s)) ∧ gEqD false (.lst (((endsQ n ring).filter c).map .int)) (.lst ((endsQ n ring).map .int)) = some (.bool ((endsQ n ring).all c)) := by
  have key : ∀ (o : Option D), (match o with | some (.str _) => true | _ => false) = true → ∃ s, o = some (.str s) := by
    intro o h
    split at h
    · exact ⟨_, rfl⟩
    · cases h
  have k2 : ∀ (o : Option D) (b : Bool), oB o (.bool b) = true → o = some (.bool b) := fun o b h => oB_eq h
  rcases hm with ⟨rfl, rfl⟩ | rfl
  · have e : endsQ 1 false = [0, 1] := rfl
    rw [e]
    unfold toldD
    simp only [List.filter_cons, List.filter_nil, List.all_cons, List.all_nil]
    refine ⟨key _ ?_, k2 _ _ ?_⟩ <;> generalize c 0 = a <;> generalize c 1 = b <;> revert a b <;> decide +kernel
  · cases ring with
    | true =>
      have e : endsQ 2 true = [1, 2] := rfl
      rw [e]
      unfold toldD
      simp only [List.filter_cons, List.filter_nil, List.all_cons, List.all_nil]
      refine ⟨key _ ?_, k2 _ _ ?_⟩ <;> generalize c 1 = a <;> generalize c 2 = b <;> revert a b <;> decide +kernel
    | false =>
      have e : endsQ 2 false = [0, 1, 2] := rfl
      rw [e]
      unfold toldD
      simp only [List.filter_cons, List.filter_nil, List.all_cons, List.all_nil]
      refine ⟨key _ ?_, k2 _ _ ?_⟩ <;> generalize c 0 = a <;> generalize c 1 = b <;> generalize c 2 = d <;> revert a b d <;> decide +kernel
theorem eqD_fine {ds : List D} (h : ∀ d ∈ ds, fineD d = true) : gEqD false (.lst ds) (.lst []) = some (.bool ds.isEmpty) := by
  unfold gEqD
  rw [if_pos (by rw [(fine_lst h).1, show CP.shp (.lst []) = true from by decide +kernel]; rfl)]
  cases ds <;> simp [dEq, py, pys, PyData.eqv, PyData.eqvAll]
end CP
/-! part CpBK -/
set_option Elab.async false
set_option linter.all false
set_option maxRecDepth 100000
set_option maxHeartbeats 400000
namespace CP
open PySem PySem.Spec PyProof.Rows L2 CPH
section
variable {n : Int} {ring stuck : Bool} {us : List Str}
abbrev eM (p : Addr) (n : Int) (ring stuck : Bool) (us : List Str) (y6 y7 y8 y9 y10 : Option EV) : CP.Env :=
  [some (.fr (.adr p)), some (.fr (.int n)), some (.fr (.bool ring)), some (.fr (.bool stuck)), none, some (.fr (.lst (us.map .str))), y6, y7, y8, y9, y10, none, none, none, none, none, none, none]
def wrD (n : Int) (ring stuck : Bool) (us : List Str) : D → D
  | .int e => .lst (wrongQ n ring stuck us e)
  | d => d
theorem wr_comp (M : ModeF n ring stuck) (hts : ∀ t ∈ us, t ∈ allT n ring) (hl : us.length ≤ 1000) {p : Addr} : aComp [11] (iLst (eVar 6)) (gN 11) (fun _ => some true) (eU (mP 5 m__law_wrong_ones) (aCons (eVar 5) (aCons (eVar 1) (aCons (eVar 11) (aCons (eVar 2) (aCons (eVar 3) aNil))))) aNil) (eM p n ring stuck us (some (.fr (.lst ((endsQ n ring).map .int)))) none none none none) = some ((endsQ n ring).map fun e => .lst (wrongQ n ring stuck us e)) := by
  have hes : (endsQ n ring).length ≤ 100 := by
    unfold endsQ
    split
    · decide
    · split <;> decide
  rw [aComp_filter (f := gN 11) (vs := [11]) (c := fun _ => some true) (b := eU (mP 5 m__law_wrong_ones) (aCons (eVar 5) (aCons (eVar 1) (aCons (eVar 11) (aCons (eVar 2) (aCons (eVar 3) aNil))))) aNil) (ds := (endsQ n ring).map .int) (fun _ => true) (wrD n ring stuck us) rfl (cap_small (by rw [List.length_map]; omega)) ?_]
  · rw [List.filter_eq_self.mpr (fun _ _ => rfl), List.map_map]
    rfl
  · intro d hd
    obtain ⟨e, he, rfl⟩ := List.mem_map.mp hd
    exact ⟨_, rfl, rfl, fun _ => eUp rfl rfl (wrong_ones (M.wf e he) hts hl)⟩
theorem due_comp (M : ModeF n ring stuck) (P : chkP n ring = true) {p : Addr} {y9 y10 : Option EV} : ∀ (es : List Int),
    mComp [11, 12] (gTp (gCons0 (gN 11) (gCons0 (gN 12) gNil0)) 2) (tOf (eBin (gEqD false) (eVar 12) (eLst aNil))) (eVar 11) (eM p n ring stuck us (some (.fr (.lst ((endsQ n ring).map .int)))) (some (.fr (.lst ((endsQ n ring).map fun e => .lst (wrongQ n ring stuck us e))))) none y9 y10) (es.map fun e => .tup [.int e, .lst (wrongQ n ring stuck us e)]) = some ((es.filter fun e => (wrongQ n ring stuck us e).isEmpty).map .int)
  | [] => rfl
  | e :: es => by
    have ih := due_comp M P (p := p) (y9 := y9) (y10 := y10) es
    have c : tOf (eBin (gEqD false) (eVar 12) (eLst aNil)) [some (.fr (.adr p)), some (.fr (.int n)), some (.fr (.bool ring)), some (.fr (.bool stuck)), none, some (.fr (.lst (us.map .str))), some (.fr (.lst ((endsQ n ring).map .int))), some (.fr (.lst ((endsQ n ring).map fun e => .lst (wrongQ n ring stuck us e)))), none, y9, y10, some (.fr (.int e)), some (.fr (.lst (wrongQ n ring stuck us e))), none, none, none, none, none] = some (wrongQ n ring stuck us e).isEmpty := tOf_at (eBin_at rfl rfl (eqD_fine (fine_wrong M P e)))
    show Option.bind (tOf (eBin (gEqD false) (eVar 12) (eLst aNil)) [some (.fr (.adr p)), some (.fr (.int n)), some (.fr (.bool ring)), some (.fr (.bool stuck)), none, some (.fr (.lst (us.map .str))), some (.fr (.lst ((endsQ n ring).map .int))), some (.fr (.lst ((endsQ n ring).map fun e => .lst (wrongQ n ring stuck us e)))), none, y9, y10, some (.fr (.int e)), some (.fr (.lst (wrongQ n ring stuck us e))), none, none, none, none, none]) _ = _
    rw [c, Option.bind_some]
    cases hw : (wrongQ n ring stuck us e).isEmpty with
    | true =>
      rw [if_pos rfl, List.filter_cons_of_pos (p := fun e => (wrongQ n ring stuck us e).isEmpty) hw]
      show Option.map _ (mComp _ _ _ _ _ (es.map _)) = _
      rw [ih]
      rfl
    | false =>
      rw [if_neg Bool.false_ne_true, List.filter_cons_of_neg (p := fun e => (wrongQ n ring stuck us e).isEmpty) (by rw [hw]; exact Bool.false_ne_true)]
      exact ih
end
end CP
/-! part CpBL -/
set_option Elab.async false
set_option linter.all false
set_option maxRecDepth 100000
set_option maxHeartbeats 400000
namespace CP
open PySem PySem.Spec PyProof.Rows L2 CPH
section
variable {n : Int} {ring stuck : Bool} {us : List Str}
def bR8 : MS := (sSeq (sIf (tOf (eBin (gIsB true) (eUK 2 mCJ (aCons (eVar 1) (aCons (eVar 5) (aCons (eVar 10) aNil))) (aCons (eVar 2) (aCons (eVar 3) aNil))) (eC (.bool true)))) (sRet (eC (.bool false))) sNext) (sSeq (sIf (mOr (tOf (eBin (gEq true) (eBin (gEq false) (eBin gIx (eVar 10) (eC (.int 0))) (eC (.str "enough"))) (eBin (gEqD false) (eVar 8) (eVar 6)))) (mAnd (tOf (eBin (gEq false) (eBin gIx (eVar 10) (eC (.int 0))) (eC (.str "short")))) (tOf (eBin (gInD true) (eSlT (eVar 10) (oSome (eC (.int 2))) oNone) (eBin gIx (eVar 7) (eMeth "list" cIndex (eVar 6) (aCons (eBin gIx (eVar 10) (eC (.int 1))) aNil))))))) (sRet (eC (.bool false))) sNext) (sIf (mAnd (tOf (eBin (gEq false) (eBin gIx (eVar 10) (eC (.int 0))) (eC (.str "short")))) (mNot (tOf (eU (mP 4 m__law_net_right) (aCons (eVar 10) (aCons (eVar 5) (aCons (eVar 1) (aCons (eVar 2) aNil)))) aNil)))) (sRet (eC (.bool false))) sNext)))
abbrev dueQ (n : Int) (ring stuck : Bool) (us : List Str) : List Int := (endsQ n ring).filter fun e => (wrongQ n ring stuck us e).isEmpty
theorem mid1 (hm : ModeOk n ring) (M : ModeF n ring stuck) (P : chkP n ring = true) (hts : ∀ t ∈ us, t ∈ allT n ring) (hl : lenOk us.length) {p : Addr} {r : Option Res}
    (h : bR8 (eM p n ring stuck us (some (.fr (.lst ((endsQ n ring).map .int)))) (some (.fr (.lst ((endsQ n ring).map fun e => .lst (wrongQ n ring stuck us e))))) (some (.fr (.lst ((dueQ n ring stuck us).map .int)))) (some (.fr (toldD (endsQ n ring) fun e => (wrongQ n ring stuck us e).isEmpty))) (some (.fr (judgeF n ring (dPos n ring) (optQ n ring stuck) us (endsQ n ring) [])))) = r) :
    bm__law_right (rho0 p n ring stuck us) = r := by
  have hlen : us.length ≤ 1000 := by rcases hl with h | h | h | h <;> omega
  have hes : (endsQ n ring).length ≤ 100 := by
    unfold endsQ
    split
    · decide
    · split <;> decide
  have ok : ∀ t ∈ us, PyData.strOk t = true := fun t ht => M.ok t (hts t ht)
  have hcl : ∀ e ∈ endsQ n ring, closed (dPos n ring) (optQ n ring stuck) us e = (wrongQ n ring stuck us e).isEmpty := fun e he => closed_wrong M hts hl he
  have se := w_settled hl ok (settled_eq hts hl M.jf M.sho hes M.one M.outs)
  rw [show (endsQ n ring).filter (closed (dPos n ring) (optQ n ring stuck) us) = dueQ n ring stuck us from List.filter_congr hcl] at se
  have en := w_enough hl ok (enough_eq hts hl M.jf M.sho hes M.asked)
  have hall : (endsQ n ring).all (closed (dPos n ring) (optQ n ring stuck) us) = (endsQ n ring).all fun e => (wrongQ n ring stuck us e).isEmpty := by
    rw [Bool.eq_iff_iff, List.all_eq_true, List.all_eq_true]
    exact ⟨fun h e he => by rw [← hcl e he]; exact h e he, fun h e he => by rw [hcl e he]; exact h e he⟩
  rw [hall] at en
  have ju := w_judge hl ok (judge_eq hts hl M.jf hes M.asked)
  obtain ⟨⟨s, hs⟩, hd⟩ := told_ok hm (fun e => (wrongQ n ring stuck us e).isEmpty)
  have dc : aComp [11, 12] (iZp lstOf lstOf (eVar 6) (eVar 7)) (gTp (gCons0 (gN 11) (gCons0 (gN 12) gNil0)) 2) (tOf (eBin (gEqD false) (eVar 12) (eLst aNil))) (eVar 11) (eM p n ring stuck us (some (.fr (.lst ((endsQ n ring).map .int)))) (some (.fr (.lst ((endsQ n ring).map fun e => .lst (wrongQ n ring stuck us e))))) none none none) = some ((dueQ n ring stuck us).map .int) := by
    unfold aComp
    rw [show iZp lstOf lstOf (eVar 6) (eVar 7) (eM p n ring stuck us (some (.fr (.lst ((endsQ n ring).map .int)))) (some (.fr (.lst ((endsQ n ring).map fun e => .lst (wrongQ n ring stuck us e))))) none none none) = some ((endsQ n ring).map fun e => .tup [.int e, .lst (wrongQ n ring stuck us e)]) by
      rw [← pair_ends (fun e => .lst (wrongQ n ring stuck us e))]
      rfl, Option.bind_some, if_pos (cap_small (by rw [List.length_map]; omega))]
    exact due_comp M P (endsQ n ring)
  have self : gEq true (.str s) (.str s) = some (.bool false) := by simp [gEq, sc, scal]
  refine seq_nx (asg_nx (eUp rfl rfl M.ends) rfl) (seq_nx (asg_nx (eNew_at (wr_comp M hts hlen)) rfl) (seq_nx (asg_nx (eNew_at dc) rfl) (seq_nx (asg_nx (d := toldD (endsQ n ring) fun e => (wrongQ n ring stuck us e).isEmpty) ?_ rfl) (seq_nx (if_at (x := false) (tOf_at (eBin_at (eCall_at rfl hs) (eCall_at (ds := [toldD (endsQ n ring) fun e => (wrongQ n ring stuck us e).isEmpty]) ?_ hs) self)) rfl) (seq_nx (asg_nx (eUp rfl rfl ju) rfl) h)))))
  · unfold eLst
    rw [aCons_at (eUp (k := 4) rfl rfl se) (aCons_at (eUp (k := 5) rfl rfl en) rfl)]
    rfl
  · refine aCons_at ?_ rfl
    unfold eLst
    rw [aCons_at (eCall_at rfl rfl) (aCons_at (eBin_at rfl rfl hd) rfl)]
    rfl
end
end CP
/-! part CpBM -/
set_option Elab.async false
set_option linter.all false
set_option maxRecDepth 100000
set_option maxHeartbeats 400000
namespace CP
open PySem PySem.Spec PyProof.Rows L2 CPH
section
variable {n : Int} {ring stuck : Bool} {us : List Str}
abbrev eF (p : Addr) (n : Int) (ring stuck : Bool) (us : List Str) (found : D) : CP.Env := eM p n ring stuck us (some (.fr (.lst ((endsQ n ring).map .int)))) (some (.fr (.lst ((endsQ n ring).map fun e => .lst (wrongQ n ring stuck us e))))) (some (.fr (.lst ((dueQ n ring stuck us).map .int)))) (some (.fr (toldD (endsQ n ring) fun e => (wrongQ n ring stuck us e).isEmpty))) (some (.fr found))
theorem bool_ne (a b : Bool) : gEq true (.bool a) (.bool b) = some (.bool (!decide (a = b))) := by cases a <;> cases b <;> rfl
theorem and_f {a b : MT} {ρ : CP.Env} (ha : a ρ = some false) : mAnd a b ρ = some false := by simp [mAnd, ha]
theorem and_t {a b : MT} {ρ : CP.Env} {x : Bool} (ha : a ρ = some true) (hb : b ρ = some x) : mAnd a b ρ = some x := by simp [mAnd, ha, hb]
theorem ix_ends (hm : ModeOk n ring) (f : Int → D) {e : Int} (he : e ∈ endsQ n ring) : ∃ j : Nat, cIndex (.lst ((endsQ n ring).map .int)) [.int e] = some (.int j) ∧ gIx (.lst ((endsQ n ring).map f)) (.int j) = some (f e) := by
  rcases hm with ⟨rfl, rfl⟩ | rfl
  · have h : e = 0 ∨ e = 1 := by simpa [endsQ] using he
    rcases h with rfl | rfl
    · exact ⟨0, rfl, rfl⟩
    · exact ⟨1, rfl, rfl⟩
  · cases ring with
    | true =>
      have h : e = 1 ∨ e = 2 := by simpa [endsQ] using he
      rcases h with rfl | rfl
      · exact ⟨0, rfl, rfl⟩
      · exact ⟨1, rfl, rfl⟩
    | false =>
      have h : e = 0 ∨ e = 1 ∨ e = 2 := by simpa [endsQ] using he
      rcases h with rfl | rfl | rfl
      · exact ⟨0, rfl, rfl⟩
      · exact ⟨1, rfl, rfl⟩
      · exact ⟨2, rfl, rfl⟩
theorem r8_short (hm : ModeOk n ring) (M : ModeF n ring stuck) (P : chkP n ring = true) (hts : ∀ t ∈ us, t ∈ allT n ring) (hl : lenOk us.length) {p : Addr} {e : Int} (he : e ∈ endsQ n ring) {q : Nat × D} (ho : openL e (dPos n ring e) us 0 (optQ n ring stuck e) = some q) :
    bR8 (eF p n ring stuck us (shD n e ring q)) = some (.nx (eF p n ring stuck us (shD n e ring q))) := by
  have hlen : us.length ≤ 1000 := by rcases hl with h | h | h | h <;> omega
  obtain ⟨pl, o⟩ := q
  obtain ⟨row, tr, F, hg, hmem⟩ := open_wrong M hts hl he ho
  rw [sh_eq F]
  have hrT := M.sub row F.inr
  have sb := (short_mem M P hts he hrT F.inn).mpr hmem
  have ck := check_short (sf_of M he hrT F.inn) hts hlen
  rw [sb] at ck
  have hne : (wrongQ n ring stuck us e).isEmpty = false := by
    cases hw : wrongQ n ring stuck us e with
    | nil => rw [hw] at hmem; simp at hmem
    | cons a b => rfl
  have hall : ((endsQ n ring).all fun e => (wrongQ n ring stuck us e).isEmpty) = false := by
    rw [List.all_eq_false]
    exact ⟨e, he, by rw [hne]; exact Bool.false_ne_true⟩
  have hd := (told_ok hm (fun e => (wrongQ n ring stuck us e).isEmpty)).2
  rw [hall] at hd
  obtain ⟨j, j1, j2⟩ := ix_ends hm (fun e => .lst (wrongQ n ring stuck us e)) he
  obtain ⟨b, hb, _, hi⟩ := inD_at (fine_at P hrT F.inn) (fine_wrong (us := us) M P e)
  rw [hb.mpr hmem] at hi
  have im : eMeth "list" cIndex (eVar 6) (aCons (eBin gIx (eVar 10) (eC (.int 1))) aNil) (eF p n ring stuck us (.tup [.str "short", .int e, row, .str tr])) = some (.int j) := j1
  have nr : m__law_net_right [.tup [.str "short", .int e, row, .str tr], .lst (us.map .str), .int n, .bool ring] = some (.bool true) := by
    have hR := M.row e he row hrT
    unfold chkR at hR
    simp only [Bool.and_eq_true, List.all_eq_true] at hR
    obtain ⟨⟨⟨h1, h2⟩, h3⟩, h4⟩ := hR
    have hro : rowOkT n ring stuck row = true := by
      have sb2 := sb
      unfold shortB at sb2
      rw [Bool.and_eq_true] at sb2
      exact sb2.1
    rw [hro] at h3
    simp only [Bool.not_true, Bool.false_or, List.all_eq_true, Bool.and_eq_true, decide_eq_true_eq] at h3
    have hb2 : ∀ t ∈ allT n ring, badT (dLaw n ring e) row t = !decide (rcT row t = crT e t) := fun t htt => by
      unfold badT
      rw [(h3 t htt).2, M.see e he t htt]
    have la := isBo_eq F.last
    rcases F.net with hn | ⟨net, g1, g2, g3, g4⟩
    · rw [Bool.and_eq_true] at hn
      obtain ⟨rfl, hn⟩ := hn
      rw [hn] at la
      exact net_ring la
    · by_cases hrb : (ring && bOf (lastE row)) = true
      · rw [Bool.and_eq_true] at hrb
        obtain ⟨rfl, hn⟩ := hrb
        rw [hn] at la
        exact net_ring la
      · refine net_right ⟨(M.wf e he).hdue, g1, g2, g3, g4, fun t ht => ?_⟩ hts (fun t ht => ?_) F.inn (fun h => ?_) la (by simpa using hrb)
        · rw [← M.see e he t ht]
          exact seen_at (M.wf e he) (by simp) ht
        · have := hg t ht
          rw [hb2 t (hts t ht)] at this
          simpa using this
        · have := F.bad
          rw [hb2 tr F.inn, decide_eq_true h] at this
          cases this
  refine seq_nx (if_at (x := false) (tOf_at (eBin_at (eUK_at rfl rfl rfl (show mCJ _ _ = _ from ck)) rfl rfl)) rfl) (seq_nx (if_at (x := false) (or_f (tOf_at (eBin_at (eBin_at (eBin_at rfl rfl rfl) rfl (str_eq _ _)) (eBin_at rfl rfl hd) (bool_ne _ _))) (and_t (tOf_at (eBin_at (eBin_at rfl rfl rfl) rfl (str_eq _ _))) (tOf_at (eBin_at rfl (eBin_at rfl im j2) hi)))) rfl) (if_at (x := false) (and_t (tOf_at (eBin_at (eBin_at rfl rfl rfl) rfl (str_eq _ _))) (not_at (x := true) (tOf_at (eUp rfl rfl nr)))) rfl))
end
end CP
/-! part CpBN -/
set_option Elab.async false
set_option linter.all false
set_option maxRecDepth 100000
set_option maxHeartbeats 400000
namespace CP
open PySem PySem.Spec PyProof.Rows L2 CPH
section
variable {n : Int} {ring stuck : Bool} {us : List Str}
theorem r8_enough (hm : ModeOk n ring) (M : ModeF n ring stuck) (hts : ∀ t ∈ us, t ∈ allT n ring) (hl : lenOk us.length) {p : Addr} (hc : ∀ e ∈ endsQ n ring, closed (dPos n ring) (optQ n ring stuck) us e = true) :
    bR8 (eF p n ring stuck us (.tup [.str "enough", .tup (tabsD (dPos n ring) (optQ n ring stuck) us (endsQ n ring))])) = some (.nx (eF p n ring stuck us (.tup [.str "enough", .tup (tabsD (dPos n ring) (optQ n ring stuck) us (endsQ n ring))]))) := by
  have hes : (endsQ n ring).length ≤ 100 := by
    unfold endsQ
    split
    · decide
    · split <;> decide
  have ck := check_enough hts hl M.jf hes hc M.asked
  have hall : ((endsQ n ring).all fun e => (wrongQ n ring stuck us e).isEmpty) = true := by
    rw [List.all_eq_true]
    intro e he
    rw [← closed_wrong M hts hl he]
    exact hc e he
  have hd := (told_ok hm (fun e => (wrongQ n ring stuck us e).isEmpty)).2
  rw [hall] at hd
  refine seq_nx (if_at (x := false) (tOf_at (eBin_at (eUK_at rfl rfl rfl (show mCJ _ _ = _ from ck)) rfl rfl)) rfl) (seq_nx (if_at (x := false) (or_f (tOf_at (eBin_at (eBin_at (eBin_at rfl rfl rfl) rfl (str_eq _ _)) (eBin_at rfl rfl hd) (bool_ne _ _))) (and_f (tOf_at (eBin_at (eBin_at rfl rfl rfl) rfl (str_eq _ _))))) rfl) (if_at (x := false) (and_f (tOf_at (eBin_at (eBin_at rfl rfl rfl) rfl (str_eq _ _)))) rfl))
theorem plain_at (hm : ModeOk n ring) (hk : chkAll n ring stuck = true) (P : chkP n ring = true) {p : Addr} (hu : usOk n ring us) : ∃ ρ, bm__law_right (rho0 p n ring stuck us) = some (.nx ρ) ∧ n__law_right p (frE ρ) fun r => ∃ ρ', r = .nx ρ' := by
  have M := modeF hk
  have hts : ∀ t ∈ us, t ∈ allT n ring := fun t ht => M.tr t (hu.1 t ht)
  have hl : lenOk us.length := hu.2
  have hlen : us.length ≤ 1000 := by rcases hl with h | h | h | h <;> omega
  refine ⟨eF p n ring stuck us (judgeF n ring (dPos n ring) (optQ n ring stuck) us (endsQ n ring) []), mid1 hm M P hts hl ?_, ?_⟩
  · rcases judgeF_of (n := n) (ring := ring) (dueF := dPos n ring) (optF := optQ n ring stuck) (ts := us) (endsQ n ring) [] with ⟨h1, h2⟩ | ⟨e, he, q, h1, h2⟩
    · rw [h2, List.nil_append]
      exact r8_enough hm M hts hl h1
    · rw [h2]
      exact r8_short hm M P hts hl he h1
  · have := n_right M P hts hlen (p := p) (y4 := none) (y8 := some (.lst ((dueQ n ring stuck us).map .int))) (y9 := some (toldD (endsQ n ring) fun e => (wrongQ n ring stuck us e).isEmpty)) (y10 := some (judgeF n ring (dPos n ring) (optQ n ring stuck) us (endsQ n ring) [])) (y11 := none) (y12 := none) (y13 := none) (y14 := none) (y15 := none) (y16 := none) (y17 := none)
    exact this
end
theorem plainR : PlainR := by
  intro p n ring stuck us hm hu
  rcases hm with ⟨rfl, rfl⟩ | rfl
  · cases stuck
    · exact plain_at (.inl ⟨rfl, rfl⟩) chk_1ff chkP1 hu
    · exact plain_at (.inl ⟨rfl, rfl⟩) chk_1ft chkP1 hu
  · cases ring <;> cases stuck
    · exact plain_at (.inr rfl) chk_2ff chkP2 hu
    · exact plain_at (.inr rfl) chk_2ft chkP2 hu
    · exact plain_at (.inr rfl) chk_2tf chkP3 hu
    · exact plain_at (.inr rfl) chk_2tt chkP3 hu
end CP
/-! part CpHC -/
set_option Elab.async false
set_option linter.all false
set_option maxRecDepth 100000
set_option maxHeartbeats 4000000
namespace CPK
open PySem PySem.Spec PyProof.Rows L2
section
variable {K : PySem.W.Frag}
theorem SaysX.fact (c : SaysX K) (i : Nat) {f : PySem.W.Frag → Bool} (h : fas[i]? = some f := by rfl) : f K = true := by
  have c1 := (He.ba (show ((fas.all fun f => f K) && fxs.all (fxB K)) = true from congrArg (fun z : Bool × List He.FnW => z.1) c)).1
  exact List.all_eq_true.mp c1 f (List.mem_of_getElem? h)
theorem SaysX.fxB (c : SaysX K) (i : Nat) {d : FX} (h : fxs[i]? = some d := by rfl) : CPK.fxB K d = true := by
  have c1 := (He.ba (show ((fas.all fun f => f K) && fxs.all (CPK.fxB K)) = true from congrArg (fun z : Bool × List He.FnW => z.1) c)).2
  exact List.all_eq_true.mp c1 d (List.mem_of_getElem? h)
theorem SaysX.fxW (c : SaysX K) (i : Nat) {d : FX} (h : fxs[i]? = some d := by rfl) : CPK.fxW K d.ad = d.val := by
  have e : fxs.map (fun d => CPK.fxW K d.ad) = fxs.map FX.val := congrArg (fun z : Bool × List He.FnW => z.2) c
  have e2 : (fxs.map fun d => CPK.fxW K d.ad)[i]? = (fxs.map FX.val)[i]? := by rw [e]
  rw [List.getElem?_map, List.getElem?_map, h] at e2
  exact Option.some.inj e2
theorem fx_at {d : FX} (e : fxW K d.ad = d.val) (cb : fxB K d = true) : ∃ (oc : Value) (od : Option Addr) (fd : FuncData) (osl : Array (Option Value)), K.lookup d.ad = some ⟨oc, od, .func fd, osl⟩ ∧
    (fd.name = d.name ∧ fd.qualname = d.qual ∧ fd.params = defArgs d.st ∧ fd.body = .stmts (defBody d.st) ∧ fd.scope = defScope d.st ∧ fd.globals = mainGlobals ∧ fd.closure = d.clo ∧ fd.builtins = builtinsNs) ∧
    PySem.W.codeIn K fd.code d.qual = true ∧ He.dflB K fd.defaults d.dfl = true ∧ He.kwdB K fd.kwdefaults d.kwd = true := by
  unfold fxW at e
  unfold fxB at cb
  cases q : K.lookup d.ad with
  | none =>
    rw [q] at cb
    cases cb
  | some o =>
    obtain ⟨oc, od, dt, osl⟩ := o
    rw [q] at e cb
    cases dt with
    | func fd =>
      have e2 : (some (fd.name, fd.qualname, fd.params, fd.body, fd.scope, fd.globals, fd.closure, fd.builtins) : He.FnW) = some (d.name, d.qual, defArgs d.st, .stmts (defBody d.st), defScope d.st, mainGlobals, d.clo, builtinsNs) := e
      simp only [Option.some.injEq, Prod.mk.injEq] at e2
      obtain ⟨k1, k2⟩ := He.ba (show (PySem.W.codeIn K fd.code d.qual && (He.dflB K fd.defaults d.dfl && He.kwdB K fd.kwdefaults d.kwd)) = true from cb)
      obtain ⟨k3, k4⟩ := He.ba k2
      exact ⟨oc, od, fd, osl, rfl, e2, k1, k3, k4⟩
    | _ => cases cb
theorem SaysX.kp (c : SaysX K) (i : Nat) {d : FX} (h : fxs[i]? = some d := by rfl) : PySem.W.keepIn K (.ref d.ad) = true := by
  obtain ⟨oc, od, fd, osl, q, _⟩ := fx_at (c.fxW i h) (c.fxB i h)
  unfold PySem.W.keepIn
  dsimp only
  rw [q]
theorem SaysX.fun_ (c : SaysX K) (i : Nat) {d : FX} (h : fxs[i]? = some d := by rfl) (hc : d.clo = [] := by rfl) : ∃ fd, FunD K d.name d.qual (defArgs d.st) (defBody d.st) (defScope d.st) d.dfl d.kwd d.ad fd := by
  have kp := c.kp i h
  obtain ⟨oc, od, fd, osl, q, e, k1, k3, k4⟩ := fx_at (c.fxW i h) (c.fxB i h)
  obtain ⟨n1, n2, n3, n4, n5, n6, n7, n8, n9, n10, n11, n12, n13, n14, n15⟩ := fd
  obtain ⟨h1, h2, h3, h4, h5, h6, h7, h8⟩ := e
  dsimp only at h1 h2 h3 h4 h5 h6 h7 h8 k1 k3 k4
  rw [hc] at h7
  subst h1 h2 h3 h4 h5 h6 h7 h8
  exact ⟨_, ⟨oc, od, n8, n9, n10, n11, n12, n13, n14, osl, rfl, q, k1, He.dflB_ok k3, He.kwdB_ok k4⟩, kp⟩
section
variable {h : Heap} {mg : Str → Option Value}
theorem glo (X : K.In h) (G : h.Ns mainGlobals mg) {x : Str} {a : Addr} (c : He.eqO (PySem.W.nsIn K mainGlobals x) (some (some (.ref a))) = true) : mg x = some (.ref a) := PySem.W.mg_of X G (He.eqO_ok c)
theorem fre (X : K.In h) (G : h.Ns mainGlobals mg) {x : Str} (c : He.eqO (PySem.W.nsIn K mainGlobals x) (some none) = true) : mg x = none := PySem.W.mg_none_of X G (He.eqO_ok c)
theorem str_of (X : K.In h) (G : h.Ns mainGlobals mg) {x z : Str} (c : isStrV (PySem.W.nsIn K mainGlobals x) z = true) : CPH.GlobV mg x (.str z) := by
  cases e : PySem.W.nsIn K mainGlobals x with
  | none =>
    rw [e] at c
    cases c
  | some o =>
    rw [e] at c
    cases o with
    | none => cases c
    | some v =>
      cases v with
      | str y t =>
        have ej : y = z := of_decide_eq_true c
        rw [ej] at e
        exact ⟨_, PySem.W.mg_of X G e, t, rfl⟩
      | _ => cases c
theorem int_of (X : K.In h) (G : h.Ns mainGlobals mg) {x : Str} {i : Int} (c : isIntV (PySem.W.nsIn K mainGlobals x) i = true) : CPH.GlobV mg x (.int i) := by
  cases e : PySem.W.nsIn K mainGlobals x with
  | none =>
    rw [e] at c
    cases c
  | some o =>
    rw [e] at c
    cases o with
    | none => cases c
    | some v =>
      cases v with
      | int j t =>
        have ej : j = i := of_decide_eq_true c
        rw [ej] at e
        exact ⟨_, PySem.W.mg_of X G e, t, rfl⟩
      | _ => cases c
end
theorem tup_of {a : Addr} {vs : List V} (h : tupV K a vs = true) : ∃ (o : Obj) (its : Array Value) (n : Nat), K.lookup a = some o ∧ o.cls = .type "tuple" ∧ o.data = .seq its n ∧ its.size ≤ sizeLine ∧ Vals vs its.toList := by
  unfold tupV at h
  cases q : K.lookup a with
  | none =>
    rw [q] at h
    cases h
  | some o =>
    obtain ⟨oc, od, dt, osl⟩ := o
    rw [q] at h
    cases oc with
    | type c =>
      cases dt with
      | seq its n =>
        obtain ⟨h1, h2⟩ := He.ba (show (decide (c = "tuple") && (decide (its.size ≤ sizeLine) && He.relAll vs its.toList)) = true from h)
        obtain ⟨h3, h4⟩ := He.ba h2
        exact ⟨_, its, n, rfl, congrArg Value.type (of_decide_eq_true h1), rfl, of_decide_eq_true h3, He.relAll_ok h4⟩
      | _ => cases h
    | _ => cases dt <;> cases h
theorem cls_of {C : Addr} (c : clsB K C = true) : Cls K C := by
  obtain ⟨c1, c⟩ := He.ba c
  obtain ⟨c2, c⟩ := He.ba c
  obtain ⟨c3, c4⟩ := He.ba c
  exact ⟨c1, c2, c3, He.eqO_ok c4⟩
theorem mk_of {C f : Addr} (c : mkB K C f = true) : Mk K C f := by
  obtain ⟨c1, c⟩ := He.ba c
  obtain ⟨c2, c⟩ := He.ba c
  obtain ⟨c3, c4⟩ := He.ba c
  exact ⟨c1, He.eqO_ok c2, c3, c4⟩
theorem meth2 {C : Addr} {m : Str} {f : Addr} (c : methB K C m f = true) : PySem.W.findIn K (.ref C) m = some (some (.ref f)) ∧ PySem.W.isFn K (.ref f) = true := by
  obtain ⟨c1, c2⟩ := He.ba c
  exact ⟨He.eqO_ok c1, c2⟩
theorem meth_of {C : Addr} {m : Str} {f : Addr} (c : methB K C m f = true) (k : PySem.W.keepIn K (.ref f) = true) : Meth K C m f := ⟨(meth2 c).1, (meth2 c).2, k⟩
theorem con_of {C : Addr} {f : Str} {i : Int} (h : conV K C f i = true) (hc : PySem.W.copiedNames.contains f = false := by decide) : ∃ u, Con K C f (.int i) u := by
  unfold conV at h
  cases e : PySem.W.findIn K (.ref C) f with
  | none =>
    rw [e] at h
    cases h
  | some r =>
    rw [e] at h
    cases r with
    | none => cases h
    | some u =>
      obtain ⟨h1, h2⟩ := He.ba (show (He.relB (.int i) u && He.eqO (PySem.W.specialIn K u "__get__") (some none)) = true from h)
      exact ⟨u, e, He.relB_ok h1, He.eqO_ok h2, hc⟩
theorem prop_of {C : Addr} {f : Str} {p g : Addr} (h : propB K C f p g = true) : PropOf K C f p g := by
  obtain ⟨h1, h⟩ := He.ba h
  obtain ⟨h2, h⟩ := He.ba h
  obtain ⟨h3, h⟩ := He.ba h
  refine ⟨He.eqO_ok h1, He.eqO_ok h2, of_decide_eq_true h3, ?_⟩
  cases e : PySem.W.recIn K p "property" with
  | none =>
    rw [e] at h
    cases h
  | some l =>
    rw [e] at h
    cases l with
    | nil => cases h
    | cons v r =>
      cases v with
      | ref g' =>
        have eg : g' = g := of_decide_eq_true h
        exact ⟨r, by rw [eg]⟩
      | _ => cases h
end
theorem txt_of {K : PySem.W.Frag} {h : Heap} {mg : Str → Option Value} (X : K.In h) (G : h.Ns mainGlobals mg) (c : SaysX K) : CPH.Txt K mg :=
  {
    f_is_between := (c.fun_ 0 (d := x_is_between)).elim fun fd h => ⟨282, fd, glo X G (c.fact 0 (f := fun K => He.eqO (PySem.W.nsIn K mainGlobals "is_between") (some (some (.ref 282))))), h⟩
    f_is_row := (c.fun_ 1 (d := x_is_row)).elim fun fd h => ⟨289, fd, glo X G (c.fact 1 (f := fun K => He.eqO (PySem.W.nsIn K mainGlobals "is_row") (some (some (.ref 289))))), h⟩
    f_is_sequence := (c.fun_ 2 (d := x_is_sequence)).elim fun fd h => ⟨296, fd, glo X G (c.fact 2 (f := fun K => He.eqO (PySem.W.nsIn K mainGlobals "is_sequence") (some (some (.ref 296))))), h⟩
    f_has_states := (c.fun_ 3 (d := x_has_states)).elim fun fd h => ⟨302, fd, glo X G (c.fact 3 (f := fun K => He.eqO (PySem.W.nsIn K mainGlobals "has_states") (some (some (.ref 302))))), h⟩
    f_is_trial := (c.fun_ 4 (d := x_is_trial)).elim fun fd h => ⟨309, fd, glo X G (c.fact 4 (f := fun K => He.eqO (PySem.W.nsIn K mainGlobals "is_trial") (some (some (.ref 309))))), h⟩
    f_is_ring_trial := (c.fun_ 5 (d := x_is_ring_trial)).elim fun fd h => ⟨316, fd, glo X G (c.fact 5 (f := fun K => He.eqO (PySem.W.nsIn K mainGlobals "is_ring_trial") (some (some (.ref 316))))), h⟩
    f_state_at := (c.fun_ 6 (d := x_state_at)).elim fun fd h => ⟨323, fd, glo X G (c.fact 6 (f := fun K => He.eqO (PySem.W.nsIn K mainGlobals "state_at") (some (some (.ref 323))))), h⟩
    f_trial_with := (c.fun_ 7 (d := x_trial_with)).elim fun fd h => ⟨329, fd, glo X G (c.fact 7 (f := fun K => He.eqO (PySem.W.nsIn K mainGlobals "trial_with") (some (some (.ref 329))))), h⟩
    f_carry_of := (c.fun_ 8 (d := x_carry_of)).elim fun fd h => ⟨336, fd, glo X G (c.fact 8 (f := fun K => He.eqO (PySem.W.nsIn K mainGlobals "carry_of") (some (some (.ref 336))))), h⟩
    f_is_state := (c.fun_ 9 (d := x_is_state)).elim fun fd h => ⟨343, fd, glo X G (c.fact 9 (f := fun K => He.eqO (PySem.W.nsIn K mainGlobals "is_state") (some (some (.ref 343))))), h⟩
    f_first_state := (c.fun_ 10 (d := x_first_state)).elim fun fd h => ⟨400, fd, glo X G (c.fact 10 (f := fun K => He.eqO (PySem.W.nsIn K mainGlobals "first_state") (some (some (.ref 400))))), h⟩
    f_due_positions := (c.fun_ 11 (d := x_due_positions)).elim fun fd h => ⟨407, fd, glo X G (c.fact 11 (f := fun K => He.eqO (PySem.W.nsIn K mainGlobals "due_positions") (some (some (.ref 407))))), h⟩
    f_output_positions := (c.fun_ 12 (d := x_output_positions)).elim fun fd h => ⟨414, fd, glo X G (c.fact 12 (f := fun K => He.eqO (PySem.W.nsIn K mainGlobals "output_positions") (some (some (.ref 414))))), h⟩
    f_true_carry := (c.fun_ 13 (d := x_true_carry)).elim fun fd h => ⟨421, fd, glo X G (c.fact 13 (f := fun K => He.eqO (PySem.W.nsIn K mainGlobals "true_carry") (some (some (.ref 421))))), h⟩
    f_zero_state := (c.fun_ 14 (d := x_zero_state)).elim fun fd h => ⟨428, fd, glo X G (c.fact 14 (f := fun K => He.eqO (PySem.W.nsIn K mainGlobals "zero_state") (some (some (.ref 428))))), h⟩
    f_outputs_asked := (c.fun_ 15 (d := x_outputs_asked)).elim fun fd h => ⟨435, fd, glo X G (c.fact 15 (f := fun K => He.eqO (PySem.W.nsIn K mainGlobals "outputs_asked") (some (some (.ref 435))))), h⟩
    f_options_at := (c.fun_ 16 (d := x_options_at)).elim fun fd h => ⟨440, fd, glo X G (c.fact 16 (f := fun K => He.eqO (PySem.W.nsIn K mainGlobals "options_at") (some (some (.ref 440))))), h⟩
    f_options_of := (c.fun_ 17 (d := x_options_of)).elim fun fd h => ⟨445, fd, glo X G (c.fact 17 (f := fun K => He.eqO (PySem.W.nsIn K mainGlobals "options_of") (some (some (.ref 445))))), h⟩
    f_leading_passes := (c.fun_ 18 (d := x_leading_passes)).elim fun fd h => ⟨452, fd, glo X G (c.fact 18 (f := fun K => He.eqO (PySem.W.nsIn K mainGlobals "leading_passes") (some (some (.ref 452))))), h⟩
    f_is_refuted := (c.fun_ 19 (d := x_is_refuted)).elim fun fd h => ⟨459, fd, glo X G (c.fact 19 (f := fun K => He.eqO (PySem.W.nsIn K mainGlobals "is_refuted") (some (some (.ref 459))))), h⟩
    f_refuters := (c.fun_ 20 (d := x_refuters)).elim fun fd h => ⟨464, fd, glo X G (c.fact 20 (f := fun K => He.eqO (PySem.W.nsIn K mainGlobals "refuters") (some (some (.ref 464))))), h⟩
    f_row_with := (c.fun_ 21 (d := x_row_with)).elim fun fd h => ⟨469, fd, glo X G (c.fact 21 (f := fun K => He.eqO (PySem.W.nsIn K mainGlobals "row_with") (some (some (.ref 469))))), h⟩
    f_parting_trial := (c.fun_ 22 (d := x_parting_trial)).elim fun fd h => ⟨476, fd, glo X G (c.fact 22 (f := fun K => He.eqO (PySem.W.nsIn K mainGlobals "parting_trial") (some (some (.ref 476))))), h⟩
    f_least_bit := (c.fun_ 23 (d := x_least_bit)).elim fun fd h => ⟨483, fd, glo X G (c.fact 23 (f := fun K => He.eqO (PySem.W.nsIn K mainGlobals "least_bit") (some (some (.ref 483))))), h⟩
    f_open_option := (c.fun_ 24 (d := x_open_option)).elim fun fd h => ⟨490, fd, glo X G (c.fact 24 (f := fun K => He.eqO (PySem.W.nsIn K mainGlobals "open_option") (some (some (.ref 490))))), h⟩
    f_shortage := (c.fun_ 25 (d := x_shortage)).elim fun fd h => ⟨497, fd, glo X G (c.fact 25 (f := fun K => He.eqO (PySem.W.nsIn K mainGlobals "shortage") (some (some (.ref 497))))), h⟩
    f_judge := (c.fun_ 26 (d := x_judge)).elim fun fd h => ⟨503, fd, glo X G (c.fact 26 (f := fun K => He.eqO (PySem.W.nsIn K mainGlobals "judge") (some (some (.ref 503))))), h⟩
    f_is_enough := (c.fun_ 27 (d := x_is_enough)).elim fun fd h => ⟨511, fd, glo X G (c.fact 27 (f := fun K => He.eqO (PySem.W.nsIn K mainGlobals "is_enough") (some (some (.ref 511))))), h⟩
    f_settled := (c.fun_ 28 (d := x_settled)).elim fun fd h => ⟨519, fd, glo X G (c.fact 28 (f := fun K => He.eqO (PySem.W.nsIn K mainGlobals "settled") (some (some (.ref 519))))), h⟩
    f_first_ones := (c.fun_ 29 (d := x_first_ones)).elim fun fd h => ⟨526, fd, glo X G (c.fact 29 (f := fun K => He.eqO (PySem.W.nsIn K mainGlobals "first_ones") (some (some (.ref 526))))), h⟩
    f_is_cell := (c.fun_ 30 (d := x_is_cell)).elim fun fd h => ⟨616, fd, glo X G (c.fact 30 (f := fun K => He.eqO (PySem.W.nsIn K mainGlobals "is_cell") (some (some (.ref 616))))), h⟩
    f_checked_cells := (c.fun_ 31 (d := x_checked_cells)).elim fun fd h => ⟨623, fd, glo X G (c.fact 31 (f := fun K => He.eqO (PySem.W.nsIn K mainGlobals "checked_cells") (some (some (.ref 623))))), h⟩
    f_checked_outputs := (c.fun_ 32 (d := x_checked_outputs)).elim fun fd h => ⟨630, fd, glo X G (c.fact 32 (f := fun K => He.eqO (PySem.W.nsIn K mainGlobals "checked_outputs") (some (some (.ref 630))))), h⟩
    f_node_orders := (c.fun_ 33 (d := x_node_orders)).elim fun fd h => ⟨635, fd, glo X G (c.fact 33 (f := fun K => He.eqO (PySem.W.nsIn K mainGlobals "node_orders") (some (some (.ref 635))))), h⟩
    f_node_states := (c.fun_ 34 (d := x_node_states)).elim fun fd h => ⟨640, fd, glo X G (c.fact 34 (f := fun K => He.eqO (PySem.W.nsIn K mainGlobals "node_states") (some (some (.ref 640))))), h⟩
    f_serial_wiring := (c.fun_ 35 (d := x_serial_wiring)).elim fun fd h => ⟨717, fd, glo X G (c.fact 35 (f := fun K => He.eqO (PySem.W.nsIn K mainGlobals "serial_wiring") (some (some (.ref 717))))), h⟩
    f_ring_serial_wiring := (c.fun_ 36 (d := x_ring_serial_wiring)).elim fun fd h => ⟨724, fd, glo X G (c.fact 36 (f := fun K => He.eqO (PySem.W.nsIn K mainGlobals "ring_serial_wiring") (some (some (.ref 724))))), h⟩
    f_wrong_positions := (c.fun_ 37 (d := x_wrong_positions)).elim fun fd h => ⟨731, fd, glo X G (c.fact 37 (f := fun K => He.eqO (PySem.W.nsIn K mainGlobals "wrong_positions") (some (some (.ref 731))))), h⟩
    f_checked_stuck := (c.fun_ 38 (d := x_checked_stuck)).elim fun fd h => ⟨959, fd, glo X G (c.fact 38 (f := fun K => He.eqO (PySem.W.nsIn K mainGlobals "checked_stuck") (some (some (.ref 959))))), h⟩
    f_joined_rows := (c.fun_ 39 (d := x_joined_rows)).elim fun fd h => ⟨966, fd, glo X G (c.fact 39 (f := fun K => He.eqO (PySem.W.nsIn K mainGlobals "joined_rows") (some (some (.ref 966))))), h⟩
    f_node_rows := (c.fun_ 40 (d := x_node_rows)).elim fun fd h => ⟨971, fd, glo X G (c.fact 40 (f := fun K => He.eqO (PySem.W.nsIn K mainGlobals "node_rows") (some (some (.ref 971))))), h⟩
    f_ends_with_letter := (c.fun_ 41 (d := x_ends_with_letter)).elim fun fd h => ⟨1180, fd, glo X G (c.fact 41 (f := fun K => He.eqO (PySem.W.nsIn K mainGlobals "ends_with_letter") (some (some (.ref 1180))))), h⟩
    f_are_row_positions := (c.fun_ 42 (d := x_are_row_positions)).elim fun fd h => ⟨1185, fd, glo X G (c.fact 42 (f := fun K => He.eqO (PySem.W.nsIn K mainGlobals "are_row_positions") (some (some (.ref 1185))))), h⟩
    f_need_row := (c.fun_ 43 (d := x_need_row)).elim fun fd h => ⟨1192, fd, glo X G (c.fact 43 (f := fun K => He.eqO (PySem.W.nsIn K mainGlobals "need_row") (some (some (.ref 1192))))), h⟩
    f_chained := (c.fun_ 44 (d := x_chained)).elim fun fd h => ⟨1199, fd, glo X G (c.fact 44 (f := fun K => He.eqO (PySem.W.nsIn K mainGlobals "chained") (some (some (.ref 1199))))), h⟩
    f_network_with := (c.fun_ 45 (d := x_network_with)).elim fun fd h => ⟨1207, fd, glo X G (c.fact 45 (f := fun K => He.eqO (PySem.W.nsIn K mainGlobals "network_with") (some (some (.ref 1207))))), h⟩
    f_holds_index := (c.fun_ 46 (d := x_holds_index)).elim fun fd h => ⟨1214, fd, glo X G (c.fact 46 (f := fun K => He.eqO (PySem.W.nsIn K mainGlobals "holds_index") (some (some (.ref 1214))))), h⟩
    f_holds_table := (c.fun_ 47 (d := x_holds_table)).elim fun fd h => ⟨1221, fd, glo X G (c.fact 47 (f := fun K => He.eqO (PySem.W.nsIn K mainGlobals "holds_table") (some (some (.ref 1221))))), h⟩
    f_is_letter := (c.fun_ 48 (d := x_is_letter)).elim fun fd h => ⟨1228, fd, glo X G (c.fact 48 (f := fun K => He.eqO (PySem.W.nsIn K mainGlobals "is_letter") (some (some (.ref 1228))))), h⟩
    f_is_row_of := (c.fun_ 49 (d := x_is_row_of)).elim fun fd h => ⟨1233, fd, glo X G (c.fact 49 (f := fun K => He.eqO (PySem.W.nsIn K mainGlobals "is_row_of") (some (some (.ref 1233))))), h⟩
    f_row_carry := (c.fun_ 50 (d := x_row_carry)).elim fun fd h => ⟨1240, fd, glo X G (c.fact 50 (f := fun K => He.eqO (PySem.W.nsIn K mainGlobals "row_carry") (some (some (.ref 1240))))), h⟩
    f_holds_short := (c.fun_ 51 (d := x_holds_short)).elim fun fd h => ⟨1245, fd, glo X G (c.fact 51 (f := fun K => He.eqO (PySem.W.nsIn K mainGlobals "holds_short") (some (some (.ref 1245))))), h⟩
    f_check_judgement := (c.fun_ 52 (d := x_check_judgement)).elim fun fd h => ⟨1251, fd, glo X G (c.fact 52 (f := fun K => He.eqO (PySem.W.nsIn K mainGlobals "check_judgement") (some (some (.ref 1251))))), h⟩
    f__law_pen := (c.fun_ 53 (d := x__law_pen)).elim fun fd h => ⟨1258, fd, glo X G (c.fact 53 (f := fun K => He.eqO (PySem.W.nsIn K mainGlobals "_law_pen") (some (some (.ref 1258))))), h⟩
    f__law_draw := (c.fun_ 54 (d := x__law_draw)).elim fun fd h => ⟨1265, fd, glo X G (c.fact 54 (f := fun K => He.eqO (PySem.W.nsIn K mainGlobals "_law_draw") (some (some (.ref 1265))))), h⟩
    f__law_due := (c.fun_ 55 (d := x__law_due)).elim fun fd h => ⟨1270, fd, glo X G (c.fact 55 (f := fun K => He.eqO (PySem.W.nsIn K mainGlobals "_law_due") (some (some (.ref 1270))))), h⟩
    f__law_sign := (c.fun_ 56 (d := x__law_sign)).elim fun fd h => ⟨1277, fd, glo X G (c.fact 56 (f := fun K => He.eqO (PySem.W.nsIn K mainGlobals "_law_sign") (some (some (.ref 1277))))), h⟩
    f__law_seen := (c.fun_ 57 (d := x__law_seen)).elim fun fd h => ⟨1284, fd, glo X G (c.fact 57 (f := fun K => He.eqO (PySem.W.nsIn K mainGlobals "_law_seen") (some (some (.ref 1284))))), h⟩
    f__law_ends := (c.fun_ 58 (d := x__law_ends)).elim fun fd h => ⟨1291, fd, glo X G (c.fact 58 (f := fun K => He.eqO (PySem.W.nsIn K mainGlobals "_law_ends") (some (some (.ref 1291))))), h⟩
    f__law_put := (c.fun_ 59 (d := x__law_put)).elim fun fd h => ⟨1298, fd, glo X G (c.fact 59 (f := fun K => He.eqO (PySem.W.nsIn K mainGlobals "_law_put") (some (some (.ref 1298))))), h⟩
    f__law_standard := (c.fun_ 60 (d := x__law_standard)).elim fun fd h => ⟨1305, fd, glo X G (c.fact 60 (f := fun K => He.eqO (PySem.W.nsIn K mainGlobals "_law_standard") (some (some (.ref 1305))))), h⟩
    f__law_trial := (c.fun_ 61 (d := x__law_trial)).elim fun fd h => ⟨1310, fd, glo X G (c.fact 61 (f := fun K => He.eqO (PySem.W.nsIn K mainGlobals "_law_trial") (some (some (.ref 1310))))), h⟩
    f__law_mode := (c.fun_ 62 (d := x__law_mode)).elim fun fd h => ⟨1317, fd, glo X G (c.fact 62 (f := fun K => He.eqO (PySem.W.nsIn K mainGlobals "_law_mode") (some (some (.ref 1317))))), h⟩
    f__law_filled := (c.fun_ 63 (d := x__law_filled)).elim fun fd h => ⟨1324, fd, glo X G (c.fact 63 (f := fun K => He.eqO (PySem.W.nsIn K mainGlobals "_law_filled") (some (some (.ref 1324))))), h⟩
    f__law_judge := (c.fun_ 64 (d := x__law_judge)).elim fun fd h => ⟨1331, fd, glo X G (c.fact 64 (f := fun K => He.eqO (PySem.W.nsIn K mainGlobals "_law_judge") (some (some (.ref 1331))))), h⟩
    f__law_is_enough := (c.fun_ 65 (d := x__law_is_enough)).elim fun fd h => ⟨1338, fd, glo X G (c.fact 65 (f := fun K => He.eqO (PySem.W.nsIn K mainGlobals "_law_is_enough") (some (some (.ref 1338))))), h⟩
    f__law_settled := (c.fun_ 66 (d := x__law_settled)).elim fun fd h => ⟨1345, fd, glo X G (c.fact 66 (f := fun K => He.eqO (PySem.W.nsIn K mainGlobals "_law_settled") (some (some (.ref 1345))))), h⟩
    f__law_all_rows := (c.fun_ 67 (d := x__law_all_rows)).elim fun fd h => ⟨1350, fd, glo X G (c.fact 67 (f := fun K => He.eqO (PySem.W.nsIn K mainGlobals "_law_all_rows") (some (some (.ref 1350))))), h⟩
    f__law_all_trials := (c.fun_ 68 (d := x__law_all_trials)).elim fun fd h => ⟨1355, fd, glo X G (c.fact 68 (f := fun K => He.eqO (PySem.W.nsIn K mainGlobals "_law_all_trials") (some (some (.ref 1355))))), h⟩
    f__law_wrong_ones := (c.fun_ 69 (d := x__law_wrong_ones)).elim fun fd h => ⟨1360, fd, glo X G (c.fact 69 (f := fun K => He.eqO (PySem.W.nsIn K mainGlobals "_law_wrong_ones") (some (some (.ref 1360))))), h⟩
    f__law_net_right := (c.fun_ 70 (d := x__law_net_right)).elim fun fd h => ⟨1367, fd, glo X G (c.fact 70 (f := fun K => He.eqO (PySem.W.nsIn K mainGlobals "_law_net_right") (some (some (.ref 1367))))), h⟩
    f__law_right := (c.fun_ 71 (d := x__law_right)).elim fun fd h => ⟨1372, fd, glo X G (c.fact 71 (f := fun K => He.eqO (PySem.W.nsIn K mainGlobals "_law_right") (some (some (.ref 1372))))), h⟩
    f_law := (c.fun_ 72 (d := x_law)).elim fun fd h => ⟨1379, fd, glo X G (c.fact 72 (f := fun K => He.eqO (PySem.W.nsIn K mainGlobals "law") (some (some (.ref 1379))))), h⟩
    d_Order_init := (c.fun_ 73 (d := x_Order_init)).elim fun fd h => ⟨fd, h⟩
    d_Order_positions := (c.fun_ 74 (d := x_Order_positions)).elim fun fd h => ⟨fd, h⟩
    d_Order_add := (c.fun_ 75 (d := x_Order_add)).elim fun fd h => ⟨fd, h⟩
    d_Network_init := (c.fun_ 76 (d := x_Network_init)).elim fun fd h => ⟨fd, h⟩
    d_Network_orders := (c.fun_ 77 (d := x_Network_orders)).elim fun fd h => ⟨fd, h⟩
    d_Network_wrong_outputs := (c.fun_ 78 (d := x_Network_wrong_outputs)).elim fun fd h => ⟨fd, h⟩
    d_Network_is_right := (c.fun_ 79 (d := x_Network_is_right)).elim fun fd h => ⟨fd, h⟩
    d_Network_need_trial := (c.fun_ 80 (d := x_Network_need_trial)).elim fun fd h => ⟨fd, h⟩
    d_Network_held_states := (c.fun_ 81 (d := x_Network_held_states)).elim fun fd h => ⟨fd, h⟩
    d_Network_carries := (c.fun_ 82 (d := x_Network_carries)).elim fun fd h => ⟨fd, h⟩
    d_Faulty_rows := (c.fun_ 84 (d := x_Faulty_rows)).elim fun fd h => ⟨fd, h⟩
    d_Faulty_wrong_outputs := (c.fun_ 85 (d := x_Faulty_wrong_outputs)).elim fun fd h => ⟨fd, h⟩
    d_Faulty_is_right := (c.fun_ 86 (d := x_Faulty_is_right)).elim fun fd h => ⟨fd, h⟩
    d_Ring_wrong_outputs := (c.fun_ 87 (d := x_Ring_wrong_outputs)).elim fun fd h => ⟨fd, h⟩
    d_Ring_need_trial := (c.fun_ 88 (d := x_Ring_need_trial)).elim fun fd h => ⟨fd, h⟩
    g_Order := glo X G (c.fact 73 (f := fun K => He.eqO (PySem.W.nsIn K mainGlobals "Order") (some (some (.ref 605)))))
    g_Network := glo X G (c.fact 74 (f := fun K => He.eqO (PySem.W.nsIn K mainGlobals "Network") (some (some (.ref 948)))))
    g_Faulty := glo X G (c.fact 75 (f := fun K => He.eqO (PySem.W.nsIn K mainGlobals "Faulty") (some (some (.ref 1083)))))
    g_Ring := glo X G (c.fact 76 (f := fun K => He.eqO (PySem.W.nsIn K mainGlobals "Ring") (some (some (.ref 1171)))))
    g_STATES := glo X G (c.fact 77 (f := fun K => He.eqO (PySem.W.nsIn K mainGlobals "STATES") (some (some (.ref 297)))))
    b_len := fre X G (c.fact 78 (f := fun K => He.eqO (PySem.W.nsIn K mainGlobals "len") (some none)))
    b_int := fre X G (c.fact 79 (f := fun K => He.eqO (PySem.W.nsIn K mainGlobals "int") (some none)))
    b_isinstance := fre X G (c.fact 80 (f := fun K => He.eqO (PySem.W.nsIn K mainGlobals "isinstance") (some none)))
    b_tuple := fre X G (c.fact 81 (f := fun K => He.eqO (PySem.W.nsIn K mainGlobals "tuple") (some none)))
    b_list := fre X G (c.fact 82 (f := fun K => He.eqO (PySem.W.nsIn K mainGlobals "list") (some none)))
    b_range := fre X G (c.fact 83 (f := fun K => He.eqO (PySem.W.nsIn K mainGlobals "range") (some none)))
    b_enumerate := fre X G (c.fact 84 (f := fun K => He.eqO (PySem.W.nsIn K mainGlobals "enumerate") (some none)))
    b_zip := fre X G (c.fact 85 (f := fun K => He.eqO (PySem.W.nsIn K mainGlobals "zip") (some none)))
    b_sum := fre X G (c.fact 86 (f := fun K => He.eqO (PySem.W.nsIn K mainGlobals "sum") (some none)))
    b_all := fre X G (c.fact 87 (f := fun K => He.eqO (PySem.W.nsIn K mainGlobals "all") (some none)))
    b_abs := fre X G (c.fact 88 (f := fun K => He.eqO (PySem.W.nsIn K mainGlobals "abs") (some none)))
    b_repr := fre X G (c.fact 89 (f := fun K => He.eqO (PySem.W.nsIn K mainGlobals "repr") (some none)))
    b_set := fre X G (c.fact 90 (f := fun K => He.eqO (PySem.W.nsIn K mainGlobals "set") (some none)))
    b_dict := fre X G (c.fact 91 (f := fun K => He.eqO (PySem.W.nsIn K mainGlobals "dict") (some none)))
    b_str := fre X G (c.fact 92 (f := fun K => He.eqO (PySem.W.nsIn K mainGlobals "str") (some none)))
    b_bool := fre X G (c.fact 93 (f := fun K => He.eqO (PySem.W.nsIn K mainGlobals "bool") (some none)))
    b_super := fre X G (c.fact 94 (f := fun K => He.eqO (PySem.W.nsIn K mainGlobals "super") (some none)))
    c_GENERATE := str_of X G (c.fact 95 (f := fun K => isStrV (PySem.W.nsIn K mainGlobals "GENERATE") "G"))
    c_KILL := str_of X G (c.fact 96 (f := fun K => isStrV (PySem.W.nsIn K mainGlobals "KILL") "K"))
    c_PASS := str_of X G (c.fact 97 (f := fun K => isStrV (PySem.W.nsIn K mainGlobals "PASS") "P"))
    c_END := str_of X G (c.fact 98 (f := fun K => isStrV (PySem.W.nsIn K mainGlobals "END") "end"))
    c_ENOUGH := str_of X G (c.fact 99 (f := fun K => isStrV (PySem.W.nsIn K mainGlobals "ENOUGH") "enough"))
    c_SHORT := str_of X G (c.fact 100 (f := fun K => isStrV (PySem.W.nsIn K mainGlobals "SHORT") "short"))
    c_MOST_BITS := int_of X G (c.fact 101 (f := fun K => isIntV (PySem.W.nsIn K mainGlobals "MOST_BITS") 24))
    c_MOST_CELLS := int_of X G (c.fact 102 (f := fun K => isIntV (PySem.W.nsIn K mainGlobals "MOST_CELLS") 150))
    t_STATES := tup_of (c.fact 103 (f := fun K => tupV K 297 [.str "G", .str "K", .str "P"]))
    c_Order := cls_of (c.fact 104 (f := fun K => clsB K 605))
    m_Order := mk_of (c.fact 105 (f := fun K => mkB K 605 540))
    n_Order_entries := He.eqO_ok (c.fact 106 (f := fun K => He.eqO (PySem.W.findIn K (.ref 605) "entries") (some none)))
    k_Order_GREATEST := con_of (c.fact 107 (f := fun K => conV K 605 "GREATEST" 24))
    h_Order_add := ⟨(meth2 (c.fact 108 (f := fun K => methB K 605 "__add__" 595))).1, (meth2 (c.fact 108 (f := fun K => methB K 605 "__add__" 595))).2, (c.fact 155 (f := fun K => PySem.W.selfFirst K 605))⟩
    p_Order_positions := prop_of (c.fact 109 (f := fun K => propB K 605 "positions" 548 547))
    c_Network := cls_of (c.fact 110 (f := fun K => clsB K 948))
    m_Network := mk_of (c.fact 111 (f := fun K => mkB K 948 745))
    n_Network_bits := He.eqO_ok (c.fact 112 (f := fun K => He.eqO (PySem.W.findIn K (.ref 948) "bits") (some none)))
    n_Network_joins := He.eqO_ok (c.fact 113 (f := fun K => He.eqO (PySem.W.findIn K (.ref 948) "joins") (some none)))
    n_Network_ends := He.eqO_ok (c.fact 114 (f := fun K => He.eqO (PySem.W.findIn K (.ref 948) "ends") (some none)))
    n_Network_held := He.eqO_ok (c.fact 115 (f := fun K => He.eqO (PySem.W.findIn K (.ref 948) "held") (some none)))
    k_Network_LEAST_BITS := con_of (c.fact 116 (f := fun K => conV K 948 "LEAST_BITS" 1))
    k_Network_MOST_BITS := con_of (c.fact 117 (f := fun K => conV K 948 "MOST_BITS" 24))
    k_Network_LOWEST := con_of (c.fact 118 (f := fun K => conV K 948 "LOWEST" 0))
    h_Network_need_trial := meth_of (c.fact 119 (f := fun K => methB K 948 "need_trial" 829)) (c.kp 80 (d := x_Network_need_trial))
    h_Network_held_states := meth_of (c.fact 120 (f := fun K => methB K 948 "held_states" 850)) (c.kp 81 (d := x_Network_held_states))
    h_Network_carries := meth_of (c.fact 121 (f := fun K => methB K 948 "carries" 862)) (c.kp 82 (d := x_Network_carries))
    p_Network_orders := prop_of (c.fact 122 (f := fun K => propB K 948 "orders" 791 790))
    p_Network_wrong_outputs := prop_of (c.fact 123 (f := fun K => propB K 948 "wrong_outputs" 807 806))
    p_Network_is_right := prop_of (c.fact 124 (f := fun K => propB K 948 "is_right" 815 814))
    c_Faulty := cls_of (c.fact 125 (f := fun K => clsB K 1083))
    m_Faulty := mk_of (c.fact 126 (f := fun K => mkB K 1083 989))
    n_Faulty_bits := He.eqO_ok (c.fact 127 (f := fun K => He.eqO (PySem.W.findIn K (.ref 1083) "bits") (some none)))
    n_Faulty_joins := He.eqO_ok (c.fact 128 (f := fun K => He.eqO (PySem.W.findIn K (.ref 1083) "joins") (some none)))
    n_Faulty_ends := He.eqO_ok (c.fact 129 (f := fun K => He.eqO (PySem.W.findIn K (.ref 1083) "ends") (some none)))
    n_Faulty_held := He.eqO_ok (c.fact 130 (f := fun K => He.eqO (PySem.W.findIn K (.ref 1083) "held") (some none)))
    k_Faulty_LEAST_BITS := con_of (c.fact 131 (f := fun K => conV K 1083 "LEAST_BITS" 1))
    k_Faulty_MOST_BITS := con_of (c.fact 132 (f := fun K => conV K 1083 "MOST_BITS" 24))
    k_Faulty_LOWEST := con_of (c.fact 133 (f := fun K => conV K 1083 "LOWEST" 0))
    h_Faulty_need_trial := meth_of (c.fact 134 (f := fun K => methB K 1083 "need_trial" 829)) (c.kp 80 (d := x_Network_need_trial))
    h_Faulty_held_states := meth_of (c.fact 135 (f := fun K => methB K 1083 "held_states" 850)) (c.kp 81 (d := x_Network_held_states))
    h_Faulty_carries := meth_of (c.fact 136 (f := fun K => methB K 1083 "carries" 862)) (c.kp 82 (d := x_Network_carries))
    p_Faulty_rows := prop_of (c.fact 137 (f := fun K => propB K 1083 "rows" 1003 1002))
    p_Faulty_wrong_outputs := prop_of (c.fact 138 (f := fun K => propB K 1083 "wrong_outputs" 1011 1010))
    p_Faulty_is_right := prop_of (c.fact 139 (f := fun K => propB K 1083 "is_right" 1019 1018))
    c_Ring := cls_of (c.fact 140 (f := fun K => clsB K 1171))
    m_Ring := mk_of (c.fact 141 (f := fun K => mkB K 1171 745))
    n_Ring_bits := He.eqO_ok (c.fact 142 (f := fun K => He.eqO (PySem.W.findIn K (.ref 1171) "bits") (some none)))
    n_Ring_joins := He.eqO_ok (c.fact 143 (f := fun K => He.eqO (PySem.W.findIn K (.ref 1171) "joins") (some none)))
    n_Ring_ends := He.eqO_ok (c.fact 144 (f := fun K => He.eqO (PySem.W.findIn K (.ref 1171) "ends") (some none)))
    n_Ring_held := He.eqO_ok (c.fact 145 (f := fun K => He.eqO (PySem.W.findIn K (.ref 1171) "held") (some none)))
    k_Ring_LEAST_BITS := con_of (c.fact 146 (f := fun K => conV K 1171 "LEAST_BITS" 2))
    k_Ring_MOST_BITS := con_of (c.fact 147 (f := fun K => conV K 1171 "MOST_BITS" 24))
    k_Ring_LOWEST := con_of (c.fact 148 (f := fun K => conV K 1171 "LOWEST" 1))
    h_Ring_need_trial := meth_of (c.fact 149 (f := fun K => methB K 1171 "need_trial" 1107)) (c.kp 88 (d := x_Ring_need_trial))
    h_Ring_held_states := meth_of (c.fact 150 (f := fun K => methB K 1171 "held_states" 850)) (c.kp 81 (d := x_Network_held_states))
    h_Ring_carries := meth_of (c.fact 151 (f := fun K => methB K 1171 "carries" 862)) (c.kp 82 (d := x_Network_carries))
    p_Ring_orders := prop_of (c.fact 152 (f := fun K => propB K 1171 "orders" 791 790))
    p_Ring_wrong_outputs := prop_of (c.fact 153 (f := fun K => propB K 1171 "wrong_outputs" 1100 1099))
    p_Ring_is_right := prop_of (c.fact 154 (f := fun K => propB K 1171 "is_right" 815 814))
  }
theorem fau_of {K : PySem.W.Frag} {h : Heap} {mg : Str → Option Value} (X : K.In h) (G : h.Ns mainGlobals mg) (c : SaysX K) : CP.FauT R.prog K mg := by
  have hsup : mg "super" = none := fre X G (c.fact 94 (f := fun K => He.eqO (PySem.W.nsIn K mainGlobals "super") (some none)))
  have hfn : fauB K = true := (c.fact 163 (f := fun K => fauB K))
  obtain ⟨oc, od, fd, osl, q, e, k1, k3, k4⟩ := fx_at (c.fxW 83 (d := x_Faulty_init)) (c.fxB 83 (d := x_Faulty_init))
  have q' : K.lookup 989 = some ⟨oc, od, .func fd, osl⟩ := q
  unfold fauB at hfn
  rw [q'] at hfn
  have hfn2 : (match K.lookup 981 with
    | some ⟨_, _, .seq its _, _⟩ => decide (fd.defaults = .ref 981) && decide (its.size = 1) && (match fd.code with
      | .ref c => (match K.lookup c with
        | some ⟨_, _, .fields vs, _⟩ => (match (vs[2]? : Option Value) with
          | some (.str f _) => (PySem.Challenge.pw_carryprobe_k34_whole_judged_by_all_rows.main.file : Str) == f
          | _ => false)
        | _ => false)
      | _ => false)
    | _ => false) = true := by
    cases q9 : K.lookup 981 with
    | none =>
      rw [q9] at hfn
      cases hfn
    | some o9 =>
      obtain ⟨oc9, od9, dt9, osl9⟩ := o9
      rw [q9] at hfn
      cases dt9 with
      | seq its n => exact hfn
      | _ => cases hfn
  clear hfn
  cases q9 : K.lookup 981 with
  | none =>
    rw [q9] at hfn2
    cases hfn2
  | some o9 =>
    obtain ⟨oc9, od9, dt9, osl9⟩ := o9
    rw [q9] at hfn2
    cases dt9 with
    | seq its n9 =>
      obtain ⟨hA, hB⟩ := He.ba hfn2
      obtain ⟨hA1, hA2⟩ := He.ba hA
      have d1 : fd.defaults = .ref 981 := of_decide_eq_true hA1
      have d2 : its.size = 1 := of_decide_eq_true hA2
      obtain ⟨v9, ev9⟩ : ∃ v, its = #[v] := by
        obtain ⟨l⟩ := its
        match l, d2 with
        | [v], _ => exact ⟨v, rfl⟩
      subst ev9
      have hCode : ∃ cda, fd.code = .ref cda ∧ ∃ ccl cdd vs ccs file tf, K.lookup cda = some (⟨ccl, cdd, .fields vs, ccs⟩ : Obj) ∧ vs[2]? = some (.str file tf) ∧ ((R.prog.main.file : Str) == file) = true := by
        cases ec : fd.code with
        | ref cda =>
          rw [ec] at hB
          refine ⟨cda, rfl, ?_⟩
          have hB1 : (match K.lookup cda with
            | some ⟨_, _, .fields vs, _⟩ => (match (vs[2]? : Option Value) with
              | some (.str f _) => (PySem.Challenge.pw_carryprobe_k34_whole_judged_by_all_rows.main.file : Str) == f
              | _ => false)
            | _ => false) = true := hB
          cases qc : K.lookup cda with
          | none =>
            rw [qc] at hB1
            cases hB1
          | some oc2 =>
            obtain ⟨ccl, cdd, dtc, ccs⟩ := oc2
            rw [qc] at hB1
            cases dtc with
            | fields vs =>
              have hB2 : (match (vs[2]? : Option Value) with
                | some (.str f _) => (PySem.Challenge.pw_carryprobe_k34_whole_judged_by_all_rows.main.file : Str) == f
                | _ => false) = true := hB1
              cases qv : (vs[2]? : Option Value) with
              | none =>
                rw [qv] at hB2
                cases hB2
              | some v =>
                rw [qv] at hB2
                cases v with
                | str f t => exact ⟨ccl, cdd, vs, ccs, f, t, rfl, qv, hB2⟩
                | _ => cases hB2
            | _ => cases hB1
        | _ =>
          rw [ec] at hB
          cases hB
      obtain ⟨cda, ec, hcda⟩ := hCode
      obtain ⟨n1, n2, n3, n4, n5, n6, n7, n8, n9', n10, n11, n12, n13, n14, n15⟩ := fd
      obtain ⟨h1, h2, h3, h4, h5, h6, h7, h8⟩ := e
      dsimp only at h1 h2 h3 h4 h5 h6 h7 h8 k1 k3 k4 d1 ec
      subst h1 h2 h3 h4 h5 h6 h7 h8 d1 ec
      refine { fn := ⟨oc, od, n9', n10, n11, n14, n12, cda, osl, q', k1, hcda⟩, dfl := ⟨_, v9, n9, q9, rfl⟩, cell := ?_, cls := ?_, sub := of_decide_eq_true (c.fact 156 (f := fun K => decide (PySem.W.mroIn K 1083 (.ref 1083) = some true))), opq := He.eqO_ok (c.fact 157 (f := fun K => He.eqO (PySem.W.nsIn K cStatics "thirdparty.any") (some none))), meth := He.eqO_ok (c.fact 158 (f := fun K => He.eqO (PySem.W.ks_superIn K 1083 1083 "__init__") (some (some (.ref 745))))), mty := of_decide_eq_true (c.fact 159 (f := fun K => decide (PySem.W.typeIn K (.ref 745) = some (.type "function")))), mfn := (c.fact 160 (f := fun K => PySem.W.fnIn K 745)), sup := hsup, top := ?_ }
      · have hc : cellB K 975 1083 = true := (c.fact 162 (f := fun K => cellB K 975 1083))
        unfold cellB at hc
        cases q5 : K.lookup 975 with
        | none =>
          rw [q5] at hc
          cases hc
        | some o5 =>
          obtain ⟨cl, cld, dt5, csl⟩ := o5
          rw [q5] at hc
          cases dt5 with
          | cell v =>
            cases v with
            | none => cases hc
            | some v =>
              cases v with
              | ref d =>
                have ed : d = 1083 := of_decide_eq_true hc
                subst ed
                exact ⟨cl, cld, csl, rfl⟩
              | _ => cases hc
          | _ => cases hc
      · have hc : (PySem.W.clsIn K 1083).isSome = true := (c.fact 161 (f := fun K => (PySem.W.clsIn K 1083).isSome))
        exact Option.isSome_iff_exists.mp hc
      · kernel_rfl
    | _ => cases hfn2
end CPK
/-! part CpHD -/
set_option Elab.async false
set_option linter.all false
set_option maxRecDepth 100000
set_option maxHeartbeats 0
open PySem PySem.W PySem.Calls PyProof.Rows
theorem PySem.Challenge.cw_carryprobe_k34_whole_judged_by_all_rows_holds : PySem.Challenge.rw_carryprobe_k34_whole_judged_by_all_rows.Holds := by
  w_on; o_law
  refine HandSHeadRun.head_any (r := CPK.R) (q := view CPK.R.prog [141]) (H := CPK.hk) (ob := CPK.ob) (M := 14000) (loose := CPK.nms) (d := HandSHeadRun.topDef CPK.R.prog 141) (kwd := []) CPK.ob_eq
    (by kernel_rfl) (fun s => by kernel_rfl) CPK.run (by kernel_rfl) (by kernel_rfl) (by kernel_rfl) (by rfl) (by first | assumption | decide +kernel) (by decide +kernel) ⟨rfl, rfl, rfl, rfl, rfl, by decide +kernel⟩ ?hw ?hc
  case hw => w_witness2
  case hc =>
    refine CP.walk_ofG (l := PySem.Challenge.rw_carryprobe_k34_whole_judged_by_all_rows) (n := 63) (k := 16) rfl (by decide) (by kernel_rfl) ⟨rfl, by decide, by decide⟩ ?F
    intro w mg fa h Y G hmg0
    obtain ⟨K, KX, c⟩ := Y
    have hmg : mg ("law" : PySem.Str) = some (.ref fa) := by
      have e : (HandSHeadRun.topDef CPK.R.prog 141).name = ("law" : PySem.Str) := by kernel_rfl
      rw [← e]
      exact hmg0
    have T := CPK.txt_of KX G c
    have FT := CPK.fau_of KX G c
    exact ⟨K, KX, fun base hb hn => CP.g_law T (CP.hfau T FT) CP.plainR CP.plainF hmg⟩

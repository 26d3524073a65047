import PyProof.Rows.All
import Wide.All
import OpenK.AllK
import Wide.FinOn
import KE.KStateDown
import KE.KDictKeyed
import Lean
import HandS.ForMost
import HandS.More
import HandS.Strs
import HandS.IsInst
import HandS.Codes
import HandS.TupAny
import HandS.Walk
import HandS.Defaults
import HandS.Head0
import HandS.Head1
import HandS.Head2
import HandS.HeadEnd
import HandS.HeadHook1
import HandS.HeadHook2
import HandS.HeadHook3
import HandS.HeadHook4
import PySem.Challenge.RW_narcissus_k38_whole_defeats
set_option Elab.async false
set_option linter.all false
set_option maxRecDepth 100000
set_option maxHeartbeats 4000000
namespace K38
open PySem PySem.Spec PyProof.Rows L2 He SX
/-! ### the text by places -/
def top (i : Nat) : Stmt := PySem.Challenge.pw_narcissus_k38_whole_defeats.main.body.getD i (.Pass ⟨0, 0, 0, 0⟩)
abbrev s_is_tree : Stmt := top 7
abbrev names_is_tree : List Str := ["value", "missing", "sign"]
theorem sc_is_tree : FnScope names_is_tree ["value"] (defScope s_is_tree) := ⟨rfl, rfl, rfl, by decide +kernel, rfl, by decide +kernel, by decide +kernel⟩
abbrev s_checked_trees : Stmt := top 8
abbrev names_checked_trees : List Str := ["tree"]
theorem sc_checked_trees : FnScope names_checked_trees ["tree"] (defScope s_checked_trees) := ⟨rfl, rfl, rfl, by decide +kernel, rfl, by decide +kernel, by decide +kernel⟩
abbrev s_cons : Stmt := top 10
abbrev names_cons : List Str := ["first", "second"]
theorem sc_cons : FnScope names_cons ["first", "second"] (defScope s_cons) := ⟨rfl, rfl, rfl, by decide +kernel, rfl, by decide +kernel, by decide +kernel⟩
abbrev s_number : Stmt := top 11
abbrev names_number : List Str := ["value"]
theorem sc_number : FnScope names_number ["value"] (defScope s_number) := ⟨rfl, rfl, rfl, by decide +kernel, rfl, by decide +kernel, by decide +kernel⟩
abbrev s_list_of : Stmt := top 12
abbrev names_list_of : List Str := ["trees", "tree"]
theorem sc_list_of : FnScope names_list_of ["trees"] (defScope s_list_of) := ⟨rfl, rfl, rfl, by decide +kernel, rfl, by decide +kernel, by decide +kernel⟩
abbrev s_is_whole : Stmt := top 19
abbrev names_is_whole : List Str := ["value"]
theorem sc_is_whole : FnScope names_is_whole ["value"] (defScope s_is_whole) := ⟨rfl, rfl, rfl, by decide +kernel, rfl, by decide +kernel, by decide +kernel⟩
abbrev s_is_instruction : Stmt := top 20
abbrev names_is_instruction : List Str := ["value", "at", "count", "word", "registers", "part"]
theorem sc_is_instruction : FnScope names_is_instruction ["value", "at", "count"] (defScope s_is_instruction) := ⟨rfl, rfl, rfl, by decide +kernel, rfl, by decide +kernel, by decide +kernel⟩
abbrev s_is_program : Stmt := top 21
abbrev names_is_program : List Str := ["value", "at", "row"]
theorem sc_is_program : FnScope names_is_program ["value"] (defScope s_is_program) := ⟨rfl, rfl, rfl, by decide +kernel, rfl, by decide +kernel, by decide +kernel⟩
abbrev s_registers_of : Stmt := top 22
abbrev names_registers_of : List Str := ["row"]
theorem sc_registers_of : FnScope names_registers_of ["row"] (defScope s_registers_of) := ⟨rfl, rfl, rfl, by decide +kernel, rfl, by decide +kernel, by decide +kernel⟩
abbrev s_width : Stmt := top 23
abbrev names_width : List Str := ["program", "row", "part"]
theorem sc_width : FnScope names_width ["program"] (defScope s_width) := ⟨rfl, rfl, rfl, by decide +kernel, rfl, by decide +kernel, by decide +kernel⟩
abbrev s_row_code : Stmt := top 24
abbrev names_row_code : List Str := ["row", "word", "first", "rest", "sign"]
theorem sc_row_code : FnScope names_row_code ["row"] (defScope s_row_code) := ⟨rfl, rfl, rfl, by decide +kernel, rfl, by decide +kernel, by decide +kernel⟩
abbrev s_code : Stmt := top 25
abbrev names_code : List Str := ["program", "row"]
theorem sc_code : FnScope names_code ["program"] (defScope s_code) := ⟨rfl, rfl, rfl, by decide +kernel, rfl, by decide +kernel, by decide +kernel⟩
abbrev s_checked_building : Stmt := top 27
abbrev names_checked_building : List Str := ["program"]
theorem sc_checked_building : FnScope names_checked_building ["program"] (defScope s_checked_building) := ⟨rfl, rfl, rfl, by decide +kernel, rfl, by decide +kernel, by decide +kernel⟩
abbrev s_filled : Stmt := top 30
abbrev names_filled : List Str := ["program", "tree"]
theorem sc_filled : FnScope names_filled ["program", "tree"] (defScope s_filled) := ⟨rfl, rfl, rfl, by decide +kernel, rfl, by decide +kernel, by decide +kernel⟩
abbrev s_checked_knowing : Stmt := top 33
abbrev names_checked_knowing : List Str := ["program"]
theorem sc_checked_knowing : FnScope names_checked_knowing ["program"] (defScope s_checked_knowing) := ⟨rfl, rfl, rfl, by decide +kernel, rfl, by decide +kernel, by decide +kernel⟩
abbrev s_narrow : Stmt := top 35
abbrev names_narrow : List Str := ["program", "found"]
theorem sc_narrow : FnScope names_narrow ["program"] (defScope s_narrow) := ⟨rfl, rfl, rfl, by decide +kernel, rfl, by decide +kernel, by decide +kernel⟩
abbrev s_clearing : Stmt := top 36
abbrev names_clearing : List Str := ["first", "last", "place"]
theorem sc_clearing : FnScope names_clearing ["first", "last"] (defScope s_clearing) := ⟨rfl, rfl, rfl, by decide +kernel, rfl, by decide +kernel, by decide +kernel⟩
abbrev s_one_code : Stmt := top 37
abbrev names_one_code : List Str := ["instruction"]
theorem sc_one_code : FnScope names_one_code ["instruction"] (defScope s_one_code) := ⟨rfl, rfl, rfl, by decide +kernel, rfl, by decide +kernel, by decide +kernel⟩
abbrev s_opening : Stmt := top 38
abbrev names_opening : List Str := ["found"]
theorem sc_opening : FnScope names_opening [] (defScope s_opening) := ⟨rfl, rfl, rfl, by decide +kernel, rfl, by decide +kernel, by decide +kernel⟩
abbrev s_knowing_any : Stmt := top 39
abbrev names_knowing_any : List Str := ["program", "start", "found"]
theorem sc_knowing_any : FnScope names_knowing_any ["program"] (defScope s_knowing_any) := ⟨rfl, rfl, rfl, by decide +kernel, rfl, by decide +kernel, by decide +kernel⟩
abbrev s_defeat : Stmt := top 41
abbrev names_defeat : List Str := ["decider", "yes", "no", "place", "verdict", "found"]
theorem sc_defeat : FnScope names_defeat ["decider", "yes", "no"] (defScope s_defeat) := ⟨rfl, rfl, rfl, by decide +kernel, rfl, by decide +kernel, by decide +kernel⟩
abbrev s_law_stream : Stmt := top 43
abbrev names_law_stream : List Str := ["_law_script", "_law_mixed", "_law_cell"]
theorem sc_law_stream : FnScope names_law_stream ["_law_script"] (defScope s_law_stream) := ⟨rfl, rfl, rfl, by decide +kernel, rfl, by decide +kernel, by decide +kernel⟩
abbrev s_law_draw : Stmt := top 44
abbrev names_law_draw : List Str := ["_law_stream_here", "_law_many", "_law_value"]
theorem sc_law_draw : FnScope names_law_draw ["_law_stream_here", "_law_many"] (defScope s_law_draw) := ⟨rfl, rfl, rfl, by decide +kernel, rfl, by decide +kernel, by decide +kernel⟩
abbrev s_law_world : Stmt := top 45
abbrev names_law_world : List Str := []
theorem sc_law_world : FnScope names_law_world [] (defScope s_law_world) := ⟨rfl, rfl, rfl, by decide +kernel, rfl, by decide +kernel, by decide +kernel⟩
abbrev s_law_cons : Stmt := top 46
abbrev names_law_cons : List Str := ["_law_world_here", "_law_a", "_law_b", "_law_key", "_law_table"]
theorem sc_law_cons : FnScope names_law_cons ["_law_world_here", "_law_a", "_law_b"] (defScope s_law_cons) := ⟨rfl, rfl, rfl, by decide +kernel, rfl, by decide +kernel, by decide +kernel⟩
abbrev s_law_in : Stmt := top 47
abbrev names_law_in : List Str := ["_law_world_here", "_law_text", "_law_waiting", "_law_k", "_law_a"]
theorem sc_law_in : FnScope names_law_in ["_law_world_here", "_law_text"] (defScope s_law_in) := ⟨rfl, rfl, rfl, by decide +kernel, rfl, by decide +kernel, by decide +kernel⟩
abbrev s_law_loaded : Stmt := top 48
abbrev names_law_loaded : List Str := ["_law_world_here", "_law_program_here", "_law_rows", "_law_one"]
theorem sc_law_loaded : FnScope names_law_loaded ["_law_world_here", "_law_program_here"] (defScope s_law_loaded) := ⟨rfl, rfl, rfl, by decide +kernel, rfl, by decide +kernel, by decide +kernel⟩
abbrev s_law_step : Stmt := top 49
abbrev names_law_step : List Str := ["_law_world_here", "_law_rows", "_law_at", "_law_registers_here", "_law_one", "_law_word"]
theorem sc_law_step : FnScope names_law_step ["_law_world_here", "_law_rows", "_law_at", "_law_registers_here"] (defScope s_law_step) := ⟨rfl, rfl, rfl, by decide +kernel, rfl, by decide +kernel, by decide +kernel⟩
abbrev s_law_run : Stmt := top 50
abbrev names_law_run : List Str := ["_law_world_here", "_law_program_here", "_law_x", "_law_steps", "_law_rows", "_law_registers_here", "_law_at", "_law_k", "_law_now"]
theorem sc_law_run : FnScope names_law_run ["_law_world_here", "_law_program_here", "_law_x", "_law_steps"] (defScope s_law_run) := ⟨rfl, rfl, rfl, by decide +kernel, rfl, by decide +kernel, by decide +kernel⟩
abbrev s_law_number : Stmt := top 51
abbrev names_law_number : List Str := ["_law_world_here", "_law_value", "_law_tree_here", "_law_k"]
theorem sc_law_number : FnScope names_law_number ["_law_world_here", "_law_value"] (defScope s_law_number) := ⟨rfl, rfl, rfl, by decide +kernel, rfl, by decide +kernel, by decide +kernel⟩
abbrev s_law_instruction : Stmt := top 52
abbrev names_law_instruction : List Str := ["_law_world_here", "_law_one", "_law_word", "_law_first", "_law_rest", "_law_sign", "_law_kind"]
theorem sc_law_instruction : FnScope names_law_instruction ["_law_world_here", "_law_one"] (defScope s_law_instruction) := ⟨rfl, rfl, rfl, by decide +kernel, rfl, by decide +kernel, by decide +kernel⟩
abbrev s_law_list : Stmt := top 53
abbrev names_law_list : List Str := ["_law_world_here", "_law_trees", "_law_tree_here", "_law_k"]
theorem sc_law_list : FnScope names_law_list ["_law_world_here", "_law_trees"] (defScope s_law_list) := ⟨rfl, rfl, rfl, by decide +kernel, rfl, by decide +kernel, by decide +kernel⟩
abbrev s_law_code : Stmt := top 54
abbrev names_law_code : List Str := ["_law_world_here", "_law_program_here", "_law_one"]
theorem sc_law_code : FnScope names_law_code ["_law_world_here", "_law_program_here"] (defScope s_law_code) := ⟨rfl, rfl, rfl, by decide +kernel, rfl, by decide +kernel, by decide +kernel⟩
abbrev s_law_tree : Stmt := top 55
abbrev names_law_tree : List Str := ["_law_stream_here", "_law_pairs", "_law_left"]
theorem sc_law_tree : FnScope names_law_tree ["_law_stream_here", "_law_pairs"] (defScope s_law_tree) := ⟨rfl, rfl, rfl, by decide +kernel, rfl, by decide +kernel, by decide +kernel⟩
abbrev s_law_registers : Stmt := top 56
abbrev names_law_registers : List Str := ["_law_stream_here"]
theorem sc_law_registers : FnScope names_law_registers ["_law_stream_here"] (defScope s_law_registers) := ⟨rfl, rfl, rfl, by decide +kernel, rfl, by decide +kernel, by decide +kernel⟩
abbrev s_law_random_program : Stmt := top 57
abbrev names_law_random_program : List Str := ["_law_stream_here", "_law_many", "_law_wide", "_law_rows", "_law_k", "_law_pick", "_law_a", "_law_b"]
theorem sc_law_random_program : FnScope names_law_random_program ["_law_stream_here"] (defScope s_law_random_program) := ⟨rfl, rfl, rfl, by decide +kernel, rfl, by decide +kernel, by decide +kernel⟩
abbrev s_law_short_program : Stmt := top 58
abbrev names_law_short_program : List Str := ["_law_stream_here", "_law_a", "_law_pick", "_law_k"]
theorem sc_law_short_program : FnScope names_law_short_program ["_law_stream_here"] (defScope s_law_short_program) := ⟨rfl, rfl, rfl, by decide +kernel, rfl, by decide +kernel, by decide +kernel⟩
abbrev s_law_program : Stmt := top 59
abbrev names_law_program : List Str := ["_law_stream_here"]
theorem sc_law_program : FnScope names_law_program ["_law_stream_here"] (defScope s_law_program) := ⟨rfl, rfl, rfl, by decide +kernel, rfl, by decide +kernel, by decide +kernel⟩
abbrev s_law_decider : Stmt := top 60
abbrev names_law_decider : List Str := ["_law_stream_here", "_law_pick", "_law_rows", "_law_k"]
theorem sc_law_decider : FnScope names_law_decider ["_law_stream_here"] (defScope s_law_decider) := ⟨rfl, rfl, rfl, by decide +kernel, rfl, by decide +kernel, by decide +kernel⟩
abbrev s_law_are_rows : Stmt := top 61
abbrev names_law_are_rows : List Str := ["_law_program_here", "_law_many", "_law_k", "_law_one", "_law_numbers", "_law_part"]
theorem sc_law_are_rows : FnScope names_law_are_rows ["_law_program_here"] (defScope s_law_are_rows) := ⟨rfl, rfl, rfl, by decide +kernel, rfl, by decide +kernel, by decide +kernel⟩
abbrev s_law_is_stuck : Stmt := top 62
abbrev names_law_is_stuck : List Str := ["_law_world_here", "_law_program_here", "_law_x", "_law_rows", "_law_registers_here", "_law_at", "_law_seen", "_law_k", "_law_key", "_law_one"]
theorem sc_law_is_stuck : FnScope names_law_is_stuck ["_law_world_here", "_law_program_here", "_law_x"] (defScope s_law_is_stuck) := ⟨rfl, rfl, rfl, by decide +kernel, rfl, by decide +kernel, by decide +kernel⟩
abbrev s_law_longer : Stmt := top 63
abbrev names_law_longer : List Str := ["_law_stream_here", "_law_program_here", "_law_more"]
theorem sc_law_longer : FnScope names_law_longer ["_law_stream_here", "_law_program_here"] (defScope s_law_longer) := ⟨rfl, rfl, rfl, by decide +kernel, rfl, by decide +kernel, by decide +kernel⟩
abbrev s_law_width : Stmt := top 64
abbrev names_law_width : List Str := ["_law_program_here", "_law_found", "_law_one", "_law_parts", "_law_part"]
theorem sc_law_width : FnScope names_law_width ["_law_program_here"] (defScope s_law_width) := ⟨rfl, rfl, rfl, by decide +kernel, rfl, by decide +kernel, by decide +kernel⟩
abbrev s_law_input : Stmt := top 65
abbrev names_law_input : List Str := ["_law_stream_here", "_law_most", "_law_many"]
theorem sc_law_input : FnScope names_law_input ["_law_stream_here", "_law_most"] (defScope s_law_input) := ⟨rfl, rfl, rfl, by decide +kernel, rfl, by decide +kernel, by decide +kernel⟩
abbrev s_law : Stmt := top 66
abbrev names_law : List Str := ["_law_script", "_law_stream_here", "_law_world_here", "_law_decider_here", "_law_yes", "_law_no", "_law_given", "_law_found", "_law_kept", "_law_said", "_law_k", "_law_x", "_law_stuck", "_law_other", "_law_due", "_law_actual", "_law_program_here"]
theorem sc_law : FnScope names_law ["_law_script"] (defScope s_law) := ⟨rfl, rfl, rfl, by decide +kernel, rfl, by decide +kernel, by decide +kernel⟩
/-! ### what the top leaves -/
abbrev FnAt (K : PySem.W.Frag) (x nm : Str) (st : Stmt) : Prop := ∃ fd, FunD K nm nm (defArgs st) (defBody st) (defScope st) [] [] (ga K x) fd
structure Txt (w : World) (K : PySem.W.Frag) (mg : Str → Option Value) : Prop where
  f_is_tree : FnAt K "is_tree" "is_tree" s_is_tree
  g_is_tree : mg "is_tree" = some (.ref (ga K "is_tree"))
  f_checked_trees : FnAt K "checked_trees" "checked" s_checked_trees
  g_checked_trees : mg "checked_trees" = some (.ref (ga K "checked_trees"))
  f_cons : FnAt K "cons" "cons" s_cons
  g_cons : mg "cons" = some (.ref (ga K "cons"))
  f_number : FnAt K "number" "number" s_number
  g_number : mg "number" = some (.ref (ga K "number"))
  f_list_of : FnAt K "list_of" "list_of" s_list_of
  g_list_of : mg "list_of" = some (.ref (ga K "list_of"))
  f_is_whole : FnAt K "is_whole" "is_whole" s_is_whole
  g_is_whole : mg "is_whole" = some (.ref (ga K "is_whole"))
  f_is_instruction : FnAt K "is_instruction" "is_instruction" s_is_instruction
  g_is_instruction : mg "is_instruction" = some (.ref (ga K "is_instruction"))
  f_is_program : FnAt K "is_program" "is_program" s_is_program
  g_is_program : mg "is_program" = some (.ref (ga K "is_program"))
  f_registers_of : FnAt K "registers_of" "registers_of" s_registers_of
  g_registers_of : mg "registers_of" = some (.ref (ga K "registers_of"))
  f_width : FnAt K "width" "width" s_width
  g_width : mg "width" = some (.ref (ga K "width"))
  f_row_code : FnAt K "row_code" "row_code" s_row_code
  g_row_code : mg "row_code" = some (.ref (ga K "row_code"))
  f_code : FnAt K "code" "code" s_code
  g_code : mg "code" = some (.ref (ga K "code"))
  f_checked_building : FnAt K "checked_building" "checked" s_checked_building
  g_checked_building : mg "checked_building" = some (.ref (ga K "checked_building"))
  f_filled : FnAt K "filled" "filled" s_filled
  g_filled : mg "filled" = some (.ref (ga K "filled"))
  f_checked_knowing : FnAt K "checked_knowing" "checked" s_checked_knowing
  g_checked_knowing : mg "checked_knowing" = some (.ref (ga K "checked_knowing"))
  f_narrow : FnAt K "narrow" "narrow" s_narrow
  g_narrow : mg "narrow" = some (.ref (ga K "narrow"))
  f_clearing : FnAt K "clearing" "clearing" s_clearing
  g_clearing : mg "clearing" = some (.ref (ga K "clearing"))
  f_one_code : FnAt K "one_code" "one_code" s_one_code
  g_one_code : mg "one_code" = some (.ref (ga K "one_code"))
  f_opening : FnAt K "opening" "opening" s_opening
  g_opening : mg "opening" = some (.ref (ga K "opening"))
  f_knowing_any : FnAt K "knowing_any" "knowing_any" s_knowing_any
  g_knowing_any : mg "knowing_any" = some (.ref (ga K "knowing_any"))
  f_defeat : FnAt K "defeat" "defeat" s_defeat
  g_defeat : mg "defeat" = some (.ref (ga K "defeat"))
  f_law_stream : FnAt K "_law_stream" "_law_stream" s_law_stream
  g_law_stream : mg "_law_stream" = some (.ref (ga K "_law_stream"))
  f_law_draw : FnAt K "_law_draw" "_law_draw" s_law_draw
  g_law_draw : mg "_law_draw" = some (.ref (ga K "_law_draw"))
  f_law_world : FnAt K "_law_world" "_law_world" s_law_world
  g_law_world : mg "_law_world" = some (.ref (ga K "_law_world"))
  f_law_cons : FnAt K "_law_cons" "_law_cons" s_law_cons
  g_law_cons : mg "_law_cons" = some (.ref (ga K "_law_cons"))
  f_law_in : FnAt K "_law_in" "_law_in" s_law_in
  g_law_in : mg "_law_in" = some (.ref (ga K "_law_in"))
  f_law_loaded : FnAt K "_law_loaded" "_law_loaded" s_law_loaded
  g_law_loaded : mg "_law_loaded" = some (.ref (ga K "_law_loaded"))
  f_law_step : FnAt K "_law_step" "_law_step" s_law_step
  g_law_step : mg "_law_step" = some (.ref (ga K "_law_step"))
  f_law_run : FnAt K "_law_run" "_law_run" s_law_run
  g_law_run : mg "_law_run" = some (.ref (ga K "_law_run"))
  f_law_number : FnAt K "_law_number" "_law_number" s_law_number
  g_law_number : mg "_law_number" = some (.ref (ga K "_law_number"))
  f_law_instruction : FnAt K "_law_instruction" "_law_instruction" s_law_instruction
  g_law_instruction : mg "_law_instruction" = some (.ref (ga K "_law_instruction"))
  f_law_list : FnAt K "_law_list" "_law_list" s_law_list
  g_law_list : mg "_law_list" = some (.ref (ga K "_law_list"))
  f_law_code : FnAt K "_law_code" "_law_code" s_law_code
  g_law_code : mg "_law_code" = some (.ref (ga K "_law_code"))
  f_law_tree : FnAt K "_law_tree" "_law_tree" s_law_tree
  g_law_tree : mg "_law_tree" = some (.ref (ga K "_law_tree"))
  f_law_registers : FnAt K "_law_registers" "_law_registers" s_law_registers
  g_law_registers : mg "_law_registers" = some (.ref (ga K "_law_registers"))
  f_law_random_program : FnAt K "_law_random_program" "_law_random_program" s_law_random_program
  g_law_random_program : mg "_law_random_program" = some (.ref (ga K "_law_random_program"))
  f_law_short_program : FnAt K "_law_short_program" "_law_short_program" s_law_short_program
  g_law_short_program : mg "_law_short_program" = some (.ref (ga K "_law_short_program"))
  f_law_program : FnAt K "_law_program" "_law_program" s_law_program
  g_law_program : mg "_law_program" = some (.ref (ga K "_law_program"))
  f_law_decider : FnAt K "_law_decider" "_law_decider" s_law_decider
  g_law_decider : mg "_law_decider" = some (.ref (ga K "_law_decider"))
  f_law_are_rows : FnAt K "_law_are_rows" "_law_are_rows" s_law_are_rows
  g_law_are_rows : mg "_law_are_rows" = some (.ref (ga K "_law_are_rows"))
  f_law_is_stuck : FnAt K "_law_is_stuck" "_law_is_stuck" s_law_is_stuck
  g_law_is_stuck : mg "_law_is_stuck" = some (.ref (ga K "_law_is_stuck"))
  f_law_longer : FnAt K "_law_longer" "_law_longer" s_law_longer
  g_law_longer : mg "_law_longer" = some (.ref (ga K "_law_longer"))
  f_law_width : FnAt K "_law_width" "_law_width" s_law_width
  g_law_width : mg "_law_width" = some (.ref (ga K "_law_width"))
  f_law_input : FnAt K "_law_input" "_law_input" s_law_input
  g_law_input : mg "_law_input" = some (.ref (ga K "_law_input"))
  n_len : mg "len" = none
  n_isinstance : mg "isinstance" = none
  n_max : mg "max" = none
  n_sum : mg "sum" = none
  n_all : mg "all" = none
  n_abs : mg "abs" = none
  n_int : mg "int" = none
  n_list : mg "list" = none
  n_tuple : mg "tuple" = none
  n_range : mg "range" = none
  n_enumerate : mg "enumerate" = none
  n_str : mg "str" = none
  n_bool : mg "bool" = none
  c_MOST_TREE : ∃ t, mg "MOST_TREE" = some (.int 200000 t)
  c_MOST_CODE : ∃ t, mg "MOST_CODE" = some (.int 600 t)
  c_REGISTERS : ∃ t, mg "REGISTERS" = some (.int 20 t)
  c_MOST_WIDTH : ∃ t, mg "MOST_WIDTH" = some (.int 16 t)
  c_LEAF : ∃ t, mg "LEAF" = some (.str "0" t)
  c_MINUS : ∃ t, mg "MINUS" = some (.str "100" t)
  c_WORDS : mg "WORDS" = some (.ref (ga K "WORDS"))
  c_PARTS : mg "PARTS" = some (.ref (ga K "PARTS"))
  wordsO : ∃ o, K.lookup (ga K "WORDS") = some o ∧ o.cls = .type "tuple" ∧ o.dict = none
  words : ∀ H : Hp, SqT K H (ga K "WORDS") [.str "set", .str "move", .str "cons", .str "head", .str "tail", .str "jump"]
  p_set : KDct K w (ga K "PARTS") "set" (.int 3)
  p_move : KDct K w (ga K "PARTS") "move" (.int 3)
  p_cons : KDct K w (ga K "PARTS") "cons" (.int 4)
  p_head : KDct K w (ga K "PARTS") "head" (.int 3)
  p_tail : KDct K w (ga K "PARTS") "tail" (.int 3)
  p_jump : KDct K w (ga K "PARTS") "jump" (.int 3)
/-! ### the facts by names -/
def fns : List DefD := [
  ⟨("is_tree", none), "is_tree", "is_tree", defArgs s_is_tree, defBody s_is_tree, defScope s_is_tree, [], []⟩,
  ⟨("checked_trees", none), "checked", "checked", defArgs s_checked_trees, defBody s_checked_trees, defScope s_checked_trees, [], []⟩,
  ⟨("cons", none), "cons", "cons", defArgs s_cons, defBody s_cons, defScope s_cons, [], []⟩,
  ⟨("number", none), "number", "number", defArgs s_number, defBody s_number, defScope s_number, [], []⟩,
  ⟨("list_of", none), "list_of", "list_of", defArgs s_list_of, defBody s_list_of, defScope s_list_of, [], []⟩,
  ⟨("is_whole", none), "is_whole", "is_whole", defArgs s_is_whole, defBody s_is_whole, defScope s_is_whole, [], []⟩,
  ⟨("is_instruction", none), "is_instruction", "is_instruction", defArgs s_is_instruction, defBody s_is_instruction, defScope s_is_instruction, [], []⟩,
  ⟨("is_program", none), "is_program", "is_program", defArgs s_is_program, defBody s_is_program, defScope s_is_program, [], []⟩,
  ⟨("registers_of", none), "registers_of", "registers_of", defArgs s_registers_of, defBody s_registers_of, defScope s_registers_of, [], []⟩,
  ⟨("width", none), "width", "width", defArgs s_width, defBody s_width, defScope s_width, [], []⟩,
  ⟨("row_code", none), "row_code", "row_code", defArgs s_row_code, defBody s_row_code, defScope s_row_code, [], []⟩,
  ⟨("code", none), "code", "code", defArgs s_code, defBody s_code, defScope s_code, [], []⟩,
  ⟨("checked_building", none), "checked", "checked", defArgs s_checked_building, defBody s_checked_building, defScope s_checked_building, [], []⟩,
  ⟨("filled", none), "filled", "filled", defArgs s_filled, defBody s_filled, defScope s_filled, [], []⟩,
  ⟨("checked_knowing", none), "checked", "checked", defArgs s_checked_knowing, defBody s_checked_knowing, defScope s_checked_knowing, [], []⟩,
  ⟨("narrow", none), "narrow", "narrow", defArgs s_narrow, defBody s_narrow, defScope s_narrow, [], []⟩,
  ⟨("clearing", none), "clearing", "clearing", defArgs s_clearing, defBody s_clearing, defScope s_clearing, [], []⟩,
  ⟨("one_code", none), "one_code", "one_code", defArgs s_one_code, defBody s_one_code, defScope s_one_code, [], []⟩,
  ⟨("opening", none), "opening", "opening", defArgs s_opening, defBody s_opening, defScope s_opening, [], []⟩,
  ⟨("knowing_any", none), "knowing_any", "knowing_any", defArgs s_knowing_any, defBody s_knowing_any, defScope s_knowing_any, [], []⟩,
  ⟨("defeat", none), "defeat", "defeat", defArgs s_defeat, defBody s_defeat, defScope s_defeat, [], []⟩,
  ⟨("_law_stream", none), "_law_stream", "_law_stream", defArgs s_law_stream, defBody s_law_stream, defScope s_law_stream, [], []⟩,
  ⟨("_law_draw", none), "_law_draw", "_law_draw", defArgs s_law_draw, defBody s_law_draw, defScope s_law_draw, [], []⟩,
  ⟨("_law_world", none), "_law_world", "_law_world", defArgs s_law_world, defBody s_law_world, defScope s_law_world, [], []⟩,
  ⟨("_law_cons", none), "_law_cons", "_law_cons", defArgs s_law_cons, defBody s_law_cons, defScope s_law_cons, [], []⟩,
  ⟨("_law_in", none), "_law_in", "_law_in", defArgs s_law_in, defBody s_law_in, defScope s_law_in, [], []⟩,
  ⟨("_law_loaded", none), "_law_loaded", "_law_loaded", defArgs s_law_loaded, defBody s_law_loaded, defScope s_law_loaded, [], []⟩,
  ⟨("_law_step", none), "_law_step", "_law_step", defArgs s_law_step, defBody s_law_step, defScope s_law_step, [], []⟩,
  ⟨("_law_run", none), "_law_run", "_law_run", defArgs s_law_run, defBody s_law_run, defScope s_law_run, [], []⟩,
  ⟨("_law_number", none), "_law_number", "_law_number", defArgs s_law_number, defBody s_law_number, defScope s_law_number, [], []⟩,
  ⟨("_law_instruction", none), "_law_instruction", "_law_instruction", defArgs s_law_instruction, defBody s_law_instruction, defScope s_law_instruction, [], []⟩,
  ⟨("_law_list", none), "_law_list", "_law_list", defArgs s_law_list, defBody s_law_list, defScope s_law_list, [], []⟩,
  ⟨("_law_code", none), "_law_code", "_law_code", defArgs s_law_code, defBody s_law_code, defScope s_law_code, [], []⟩,
  ⟨("_law_tree", none), "_law_tree", "_law_tree", defArgs s_law_tree, defBody s_law_tree, defScope s_law_tree, [], []⟩,
  ⟨("_law_registers", none), "_law_registers", "_law_registers", defArgs s_law_registers, defBody s_law_registers, defScope s_law_registers, [], []⟩,
  ⟨("_law_random_program", none), "_law_random_program", "_law_random_program", defArgs s_law_random_program, defBody s_law_random_program, defScope s_law_random_program, [], []⟩,
  ⟨("_law_short_program", none), "_law_short_program", "_law_short_program", defArgs s_law_short_program, defBody s_law_short_program, defScope s_law_short_program, [], []⟩,
  ⟨("_law_program", none), "_law_program", "_law_program", defArgs s_law_program, defBody s_law_program, defScope s_law_program, [], []⟩,
  ⟨("_law_decider", none), "_law_decider", "_law_decider", defArgs s_law_decider, defBody s_law_decider, defScope s_law_decider, [], []⟩,
  ⟨("_law_are_rows", none), "_law_are_rows", "_law_are_rows", defArgs s_law_are_rows, defBody s_law_are_rows, defScope s_law_are_rows, [], []⟩,
  ⟨("_law_is_stuck", none), "_law_is_stuck", "_law_is_stuck", defArgs s_law_is_stuck, defBody s_law_is_stuck, defScope s_law_is_stuck, [], []⟩,
  ⟨("_law_longer", none), "_law_longer", "_law_longer", defArgs s_law_longer, defBody s_law_longer, defScope s_law_longer, [], []⟩,
  ⟨("_law_width", none), "_law_width", "_law_width", defArgs s_law_width, defBody s_law_width, defScope s_law_width, [], []⟩,
  ⟨("_law_input", none), "_law_input", "_law_input", defArgs s_law_input, defBody s_law_input, defScope s_law_input, [], []⟩,
  ⟨("law", none), "law", "law", defArgs s_law, defBody s_law, defScope s_law, [], []⟩]
def fas : List Fa := [
  .glo "is_tree",
  .glo "checked_trees",
  .glo "cons",
  .glo "number",
  .glo "list_of",
  .glo "is_whole",
  .glo "is_instruction",
  .glo "is_program",
  .glo "registers_of",
  .glo "width",
  .glo "row_code",
  .glo "code",
  .glo "checked_building",
  .glo "filled",
  .glo "checked_knowing",
  .glo "narrow",
  .glo "clearing",
  .glo "one_code",
  .glo "opening",
  .glo "knowing_any",
  .glo "defeat",
  .glo "_law_stream",
  .glo "_law_draw",
  .glo "_law_world",
  .glo "_law_cons",
  .glo "_law_in",
  .glo "_law_loaded",
  .glo "_law_step",
  .glo "_law_run",
  .glo "_law_number",
  .glo "_law_instruction",
  .glo "_law_list",
  .glo "_law_code",
  .glo "_law_tree",
  .glo "_law_registers",
  .glo "_law_random_program",
  .glo "_law_short_program",
  .glo "_law_program",
  .glo "_law_decider",
  .glo "_law_are_rows",
  .glo "_law_is_stuck",
  .glo "_law_longer",
  .glo "_law_width",
  .glo "_law_input",
  .glo "law",
  .free "len",
  .free "isinstance",
  .free "max",
  .free "sum",
  .free "all",
  .free "abs",
  .free "int",
  .free "list",
  .free "tuple",
  .free "range",
  .free "enumerate",
  .free "str",
  .free "bool",
  .int "MOST_TREE" 200000,
  .int "MOST_CODE" 600,
  .int "REGISTERS" 20,
  .int "MOST_WIDTH" 16,
  .str "LEAF" "0",
  .str "MINUS" "100",
  .glo "WORDS",
  .glo "PARTS"]
def tabs : List Tab := [(fun K => ga K "PARTS", ["set", "move", "cons", "head", "tail", "jump"])]
def wordsD : List Dv := [.str "set", .str "move", .str "cons", .str "head", .str "tail", .str "jump"]
def partsD : List (Str × Dv) := [("set", .int 3), ("move", .int 3), ("cons", .int 4), ("head", .int 3), ("tail", .int 3), ("jump", .int 3)]
def wordsB (K : PySem.W.Frag) : Bool := match K.lookup (ga K "WORDS") with
  | some ⟨.type c, none, _, _⟩ => decide (c = "tuple")
  | _ => false
theorem wordsB_ok {K : PySem.W.Frag} (h : wordsB K = true) : ∃ o, K.lookup (ga K "WORDS") = some o ∧ o.cls = .type "tuple" ∧ o.dict = none := by
  unfold wordsB at h
  cases q : K.lookup (ga K "WORDS") with
  | none =>
    rw [q] at h
    cases h
  | some o =>
    obtain ⟨oc, od, dt, osl⟩ := o
    rw [q] at h
    cases oc with
    | type c =>
      cases od with
      | none => exact ⟨_, rfl, congrArg Value.type (of_decide_eq_true h), rfl⟩
      | some a => cases h
    | _ => cases od <;> cases h
def exB (K : PySem.W.Frag) : Bool := wordsB K && (tupB K "WORDS" wordsD && valsB K (ga K "PARTS") partsD)
theorem kdct {w : World} {K : PySem.W.Frag} {a : Addr} {es : Array DictEntry} {n : Nat} (D : KDict K w a es n) {kvs : List (Str × Dv)} (h : valsB K a kvs = true) {x : Str} {v : Dv} (hq : (x, v) ∈ kvs) : KDct K w a x (v.v K) := by
  obtain ⟨u, e, r⟩ := valsB_ok h hq
  exact ⟨es, n, u, D.at_, D.lit, e, r⟩
theorem txt_of {w : World} {K : PySem.W.Frag} {h : Heap} {mg : Str → Option Value} (X : K.In h) (G : h.Ns mainGlobals mg) (c : SaysX fas fns tabs [] exB w h K) : Txt w K mg := by
  have c1 := c.t.d
  obtain ⟨es, n, D⟩ := c.t.tab 0
  obtain ⟨h0, h12⟩ := ba (show (wordsB K && (tupB K "WORDS" wordsD && valsB K (ga K "PARTS") partsD)) = true from c.more)
  obtain ⟨h1, h2⟩ := ba h12
  exact {
    f_is_tree := c1.def_ 0
    g_is_tree := glo_ok X G (c1.fact 0 (f := .glo "is_tree"))
    f_checked_trees := c1.def_ 1
    g_checked_trees := glo_ok X G (c1.fact 1 (f := .glo "checked_trees"))
    f_cons := c1.def_ 2
    g_cons := glo_ok X G (c1.fact 2 (f := .glo "cons"))
    f_number := c1.def_ 3
    g_number := glo_ok X G (c1.fact 3 (f := .glo "number"))
    f_list_of := c1.def_ 4
    g_list_of := glo_ok X G (c1.fact 4 (f := .glo "list_of"))
    f_is_whole := c1.def_ 5
    g_is_whole := glo_ok X G (c1.fact 5 (f := .glo "is_whole"))
    f_is_instruction := c1.def_ 6
    g_is_instruction := glo_ok X G (c1.fact 6 (f := .glo "is_instruction"))
    f_is_program := c1.def_ 7
    g_is_program := glo_ok X G (c1.fact 7 (f := .glo "is_program"))
    f_registers_of := c1.def_ 8
    g_registers_of := glo_ok X G (c1.fact 8 (f := .glo "registers_of"))
    f_width := c1.def_ 9
    g_width := glo_ok X G (c1.fact 9 (f := .glo "width"))
    f_row_code := c1.def_ 10
    g_row_code := glo_ok X G (c1.fact 10 (f := .glo "row_code"))
    f_code := c1.def_ 11
    g_code := glo_ok X G (c1.fact 11 (f := .glo "code"))
    f_checked_building := c1.def_ 12
    g_checked_building := glo_ok X G (c1.fact 12 (f := .glo "checked_building"))
    f_filled := c1.def_ 13
    g_filled := glo_ok X G (c1.fact 13 (f := .glo "filled"))
    f_checked_knowing := c1.def_ 14
    g_checked_knowing := glo_ok X G (c1.fact 14 (f := .glo "checked_knowing"))
    f_narrow := c1.def_ 15
    g_narrow := glo_ok X G (c1.fact 15 (f := .glo "narrow"))
    f_clearing := c1.def_ 16
    g_clearing := glo_ok X G (c1.fact 16 (f := .glo "clearing"))
    f_one_code := c1.def_ 17
    g_one_code := glo_ok X G (c1.fact 17 (f := .glo "one_code"))
    f_opening := c1.def_ 18
    g_opening := glo_ok X G (c1.fact 18 (f := .glo "opening"))
    f_knowing_any := c1.def_ 19
    g_knowing_any := glo_ok X G (c1.fact 19 (f := .glo "knowing_any"))
    f_defeat := c1.def_ 20
    g_defeat := glo_ok X G (c1.fact 20 (f := .glo "defeat"))
    f_law_stream := c1.def_ 21
    g_law_stream := glo_ok X G (c1.fact 21 (f := .glo "_law_stream"))
    f_law_draw := c1.def_ 22
    g_law_draw := glo_ok X G (c1.fact 22 (f := .glo "_law_draw"))
    f_law_world := c1.def_ 23
    g_law_world := glo_ok X G (c1.fact 23 (f := .glo "_law_world"))
    f_law_cons := c1.def_ 24
    g_law_cons := glo_ok X G (c1.fact 24 (f := .glo "_law_cons"))
    f_law_in := c1.def_ 25
    g_law_in := glo_ok X G (c1.fact 25 (f := .glo "_law_in"))
    f_law_loaded := c1.def_ 26
    g_law_loaded := glo_ok X G (c1.fact 26 (f := .glo "_law_loaded"))
    f_law_step := c1.def_ 27
    g_law_step := glo_ok X G (c1.fact 27 (f := .glo "_law_step"))
    f_law_run := c1.def_ 28
    g_law_run := glo_ok X G (c1.fact 28 (f := .glo "_law_run"))
    f_law_number := c1.def_ 29
    g_law_number := glo_ok X G (c1.fact 29 (f := .glo "_law_number"))
    f_law_instruction := c1.def_ 30
    g_law_instruction := glo_ok X G (c1.fact 30 (f := .glo "_law_instruction"))
    f_law_list := c1.def_ 31
    g_law_list := glo_ok X G (c1.fact 31 (f := .glo "_law_list"))
    f_law_code := c1.def_ 32
    g_law_code := glo_ok X G (c1.fact 32 (f := .glo "_law_code"))
    f_law_tree := c1.def_ 33
    g_law_tree := glo_ok X G (c1.fact 33 (f := .glo "_law_tree"))
    f_law_registers := c1.def_ 34
    g_law_registers := glo_ok X G (c1.fact 34 (f := .glo "_law_registers"))
    f_law_random_program := c1.def_ 35
    g_law_random_program := glo_ok X G (c1.fact 35 (f := .glo "_law_random_program"))
    f_law_short_program := c1.def_ 36
    g_law_short_program := glo_ok X G (c1.fact 36 (f := .glo "_law_short_program"))
    f_law_program := c1.def_ 37
    g_law_program := glo_ok X G (c1.fact 37 (f := .glo "_law_program"))
    f_law_decider := c1.def_ 38
    g_law_decider := glo_ok X G (c1.fact 38 (f := .glo "_law_decider"))
    f_law_are_rows := c1.def_ 39
    g_law_are_rows := glo_ok X G (c1.fact 39 (f := .glo "_law_are_rows"))
    f_law_is_stuck := c1.def_ 40
    g_law_is_stuck := glo_ok X G (c1.fact 40 (f := .glo "_law_is_stuck"))
    f_law_longer := c1.def_ 41
    g_law_longer := glo_ok X G (c1.fact 41 (f := .glo "_law_longer"))
    f_law_width := c1.def_ 42
    g_law_width := glo_ok X G (c1.fact 42 (f := .glo "_law_width"))
    f_law_input := c1.def_ 43
    g_law_input := glo_ok X G (c1.fact 43 (f := .glo "_law_input"))
    n_len := free_ok X G (c1.fact 45 (f := .free "len"))
    n_isinstance := free_ok X G (c1.fact 46 (f := .free "isinstance"))
    n_max := free_ok X G (c1.fact 47 (f := .free "max"))
    n_sum := free_ok X G (c1.fact 48 (f := .free "sum"))
    n_all := free_ok X G (c1.fact 49 (f := .free "all"))
    n_abs := free_ok X G (c1.fact 50 (f := .free "abs"))
    n_int := free_ok X G (c1.fact 51 (f := .free "int"))
    n_list := free_ok X G (c1.fact 52 (f := .free "list"))
    n_tuple := free_ok X G (c1.fact 53 (f := .free "tuple"))
    n_range := free_ok X G (c1.fact 54 (f := .free "range"))
    n_enumerate := free_ok X G (c1.fact 55 (f := .free "enumerate"))
    n_str := free_ok X G (c1.fact 56 (f := .free "str"))
    n_bool := free_ok X G (c1.fact 57 (f := .free "bool"))
    c_MOST_TREE := int_ok X G (c1.fact 58 (f := .int "MOST_TREE" 200000))
    c_MOST_CODE := int_ok X G (c1.fact 59 (f := .int "MOST_CODE" 600))
    c_REGISTERS := int_ok X G (c1.fact 60 (f := .int "REGISTERS" 20))
    c_MOST_WIDTH := int_ok X G (c1.fact 61 (f := .int "MOST_WIDTH" 16))
    c_LEAF := str_ok X G (c1.fact 62 (f := .str "LEAF" "0"))
    c_MINUS := str_ok X G (c1.fact 63 (f := .str "MINUS" "100"))
    c_WORDS := glo_ok X G (c1.fact 64 (f := .glo "WORDS"))
    c_PARTS := glo_ok X G (c1.fact 65 (f := .glo "PARTS"))
    wordsO := wordsB_ok h0
    words := fun H => tupB_ok h1 H
    p_set := kdct D h2 (x := "set") (v := .int 3) (.head _)
    p_move := kdct D h2 (x := "move") (v := .int 3) (.tail _ (.head _))
    p_cons := kdct D h2 (x := "cons") (v := .int 4) (.tail _ (.tail _ (.head _)))
    p_head := kdct D h2 (x := "head") (v := .int 3) (.tail _ (.tail _ (.tail _ (.head _))))
    p_tail := kdct D h2 (x := "tail") (v := .int 3) (.tail _ (.tail _ (.tail _ (.tail _ (.head _)))))
    p_jump := kdct D h2 (x := "jump") (v := .int 3) (.tail _ (.tail _ (.tail _ (.tail _ (.tail _ (.head _))))))
  }
end K38
set_option Elab.async false
set_option linter.all false
set_option maxRecDepth 100000
set_option maxHeartbeats 4000000
namespace K38
open PySem PySem.Spec PyProof.Rows L2 He SX
/-! ### a def that may be called by its name -/
structure Cal (P : Program) (w : World) (K : PySem.W.Frag) (mg : Str → Option Value) (base : Heap) (k : Nat) (x : Str) (sp : Sp) : Prop where
  ex : ∃ (f : Addr) (fd : FuncData) (ps : List Str), FnOk P w K mg base L2.CX0 k f fd ps sp ∧ mg x = some (.ref f) ∧ PySem.W.keepIn K (.ref f) = true ∧ Binds K fd ps []
section
variable {P : Program} {w : World} {K : PySem.W.Frag} {mg : Str → Option Value} {base : Heap}
theorem mkCal {x nm : Str} {st : Stmt} {N ps : List Str} {k : Nat} {sp : Sp} (F : FnAt K x nm st) (g : mg x = some (.ref (ga K x))) (S : FnScope N ps (defScope st))
    (hb : ∀ (kV doc pm : Value) (an : Option Addr) (cdv ct : Value) (us : List Value), us.length = ps.length → bindArgs (PySem.W.fnOf nm nm (defArgs st) (defBody st) (defScope st) .none kV doc pm an cdv ct) ⟨us, []⟩ = pure (ps.zip us))
    (len : ∀ vs H Q E, sp vs H Q E → vs.length = ps.length)
    (hbody : ∀ (cdv : Value) (A : Around) (outer : List Env) (s : Shared) (H : Hp) (vs : List V) (Q : VK) (E : XK), Room k (A.deeper (envOfC nm (defScope st) s.heap.objs.size (ga K x) cdv)) → sp vs H Q E →
      ∃ t, PSs (cxOf L2.CX0 P w K mg base N nm (defScope st) (ga K x) cdv A outer s H E).nox (defBody st) t ∧ t { nx := fun _ H' => Q .non H', rt := Q } (start N vs) H) : Cal P w K mg base (k + 1) x sp := by
  obtain ⟨fd, F⟩ := F
  refine ⟨ga K x, fd, ps, F.ok S len (fun cdv A outer s H vs Q E hr h => ?_), g, F.kp, F.bindsN hb⟩
  obtain ⟨t, h1, h2⟩ := hbody cdv A outer s H vs Q E hr h
  exact ⟨t, h1.nox, h2⟩
end
section
variable {X : Cx} {k j : Nat} {x : Str} {sp : Sp} {p pos : Pos} {e : Expr} {es : List Expr} {t : TA}
theorem pe_c (c : Cal X.prog X.w X.K X.mg X.base k x sp) (hr : Room j X.A) (hk : k ≤ j) (hg : Gl X x) (ha : PA X (e :: es) t)
    (hdb : (x == ("__debug__" : Str)) = false := by decide) (he : starEach (e :: es) X.env = (false, eval e X.env) :: starEach es X.env := by rfl) (hpl : (backTo pos (starEach es X.env)).any (·.1) = false := by rfl) :
    PE X (.Call (.Name x p) (e :: es) [] pos) (tCall sp [] L2.E0 t) := by
  obtain ⟨f, fd, ps, F, hm, kp, b⟩ := c.ex
  exact pe_call F (hr.mono hk) hg hm kp b .nil L2.pass0 ha hdb he hpl
theorem pe_c0 (c : Cal X.prog X.w X.K X.mg X.base k x sp) (hr : Room j X.A) (hk : k ≤ j) (hg : Gl X x) (hdb : (x == ("__debug__" : Str)) = false := by decide) :
    PE X (.Call (.Name x p) [] [] pos) (tCall sp [] L2.E0 tNil) := by
  obtain ⟨f, fd, ps, F, hm, kp, b⟩ := c.ex
  exact pe_call0 F (hr.mono hk) hg hm kp b .nil L2.pass0 hdb
theorem pe_csi {i : Int} (hg : Gl X x) (h : ∃ t, X.mg x = some (.int i t)) (hd : (x == ("__debug__" : Str)) = false := by decide) : PE X (.Name x pos) (tC (.int i)) := by
  obtain ⟨t, h⟩ := h
  exact pe_glob hg h ⟨_, rfl⟩ hd
theorem pe_css {i : Str} (hg : Gl X x) (h : ∃ t, X.mg x = some (.str i t)) (hd : (x == ("__debug__" : Str)) = false := by decide) : PE X (.Name x pos) (tC (.str i)) := by
  obtain ⟨t, h⟩ := h
  exact pe_glob hg h ⟨_, rfl⟩ hd
end
/-! ### text * n -/
theorem foldl_app (l : List Nat) (k : Nat) : ∀ acc : Array Nat, ((List.replicate k l.toArray).foldl (· ++ ·) acc).toList = acc.toList ++ (List.replicate k l).flatten := by
  induction k with
  | zero => intro acc; simp
  | succ k ih =>
    intro acc
    rw [List.replicate_succ, List.foldl_cons, ih, List.replicate_succ, List.flatten_cons]
    simp
theorem mul_S (l : List Nat) (k : Nat) : Txt.mul (S l) (k : Int) = S (List.replicate k l).flatten := by
  unfold Txt.mul
  by_cases h0 : k = 0
  · subst h0
    rfl
  · rw [if_neg (by omega)]
    by_cases h1 : (((k : Int) == 1) || (S l).length == 0) = true
    · rw [if_pos h1]
      rw [Bool.or_eq_true] at h1
      rcases h1 with h1 | h1
      · have e : k = 1 := by have := beq_iff_eq.mp h1; omega
        subst e
        simp
      · have e : l.length = 0 := by
          have := beq_iff_eq.mp h1
          rw [S_len] at this
          exact this
        have e2 : l = [] := List.length_eq_zero_iff.mp e
        subst e2
        simp
    · rw [if_neg h1]
      refine congrArg Str.mk ?_
      refine Array.ext' ?_
      have h2 := foldl_app l k #[]
      rw [show ((k : Int).toNat) = k from Int.toNat_natCast k]
      show ((List.replicate k l.toArray).foldl (· ++ ·) #[]).toList = _
      rw [h2]
      simp
theorem mulOk {x : Str} {k : Nat} (h : x.length * k ≤ 1000000) (hk : k ≤ 1000000) : MulOk x (k : Int) := by
  refine ⟨?_, fun h1 h2 h3 => ?_, fun h1 h2 => ?_⟩
  · rw [decide_eq_false (by omega), decide_eq_false (by omega)]
    rfl
  · have hx : x.length ≤ 1000000 := by
      have h4 : 1 ≤ k := by omega
      exact Nat.le_trans (Nat.le_mul_of_pos_right _ h4) h
    have h4 : (9223372036854775807 : Int) / (k : Int) ≥ 9223372036854775807 / 1000000 := by
      have h5 : (0 : Int) < (k : Int) := by omega
      refine (Int.le_ediv_iff_mul_le h5).mpr ?_
      have h6 : (9223372036854775807 : Int) / 1000000 * k ≤ 9223372036854775807 / 1000000 * 1000000 := by
        refine Int.mul_le_mul_of_nonneg_left (by omega) (by decide)
      have h7 : (9223372036854775807 : Int) / 1000000 * 1000000 ≤ 9223372036854775807 := by decide
      omega
    have h5 : ((2 ^ 63 - 1 : Int)) = 9223372036854775807 := by decide
    rw [h5] at h3
    omega
  · unfold Builtin.Str.tooLong
    rw [Int.toNat_natCast]
    have : (sizeLine : Nat) = 16777216 := by rw [sizeLine_eq]
    exact decide_eq_false (by omega)
def rMulS : R2 := fun x y H Q => ∃ (l : List Nat) (k : Nat), x = .str (S l) ∧ y = .int (k : Int) ∧ l.length * k ≤ 1000000 ∧ k ≤ 1000000 ∧ Q (.str (S (List.replicate k l).flatten)) H
theorem op_mul_str {X : Cx} : OpR X (binaryOp .Mult) rMulS := by
  intro pins s σ H x y v u Q I rx ry h
  obtain ⟨l, k, rfl, rfl, h1, h2, q⟩ := h
  obtain ⟨t, rfl⟩ := rx
  obtain ⟨t', rfl⟩ := ry
  refine SB.mul (mulOk (by rw [S_len]; exact h1) h2) fun t2 k2 => ⟨.str (S (List.replicate k l).flatten), H, I.tok _, ⟨t2, by rw [mul_S]⟩, q⟩
/-! ### a dict whose keys are (int, tuple of ints) -/
abbrev NK : Type := Int × List Int
def nk (p : NK) : NestedKey := .tup [.num p.1, .tup (p.2.map NestedKey.num)]
theorem num_inj : ∀ {a b : List Int}, a.map NestedKey.num = b.map NestedKey.num → a = b
  | [], [], _ => rfl
  | [], _ :: _, h => by cases h
  | _ :: _, [], h => by cases h
  | x :: a, y :: b, h => by
    rw [List.map_cons, List.map_cons] at h
    injection h with h1 h2
    injection h1 with h1
    rw [h1, num_inj h2]
theorem nk_inj {p q : NK} (h : nk p = nk q) : p = q := by
  unfold nk at h
  injection h with h
  injection h with h1 h2
  injection h2 with h2 _
  injection h1 with h1
  injection h2 with h2
  exact Prod.ext h1 (num_inj h2)
theorem depth_nums : ∀ l : List Int, NestedKey.depthAll (l.map NestedKey.num) = 0
  | [] => rfl
  | x :: l => by
    rw [List.map_cons, NestedKey.depthAll, depth_nums l, NestedKey.depth]
    rfl
theorem nk_depth (p : NK) : (nk p).depth ≤ 8 := by
  unfold nk
  rw [NestedKey.depth, NestedKey.depthAll, NestedKey.depthAll, NestedKey.depthAll, NestedKey.depth, NestedKey.depth, depth_nums]
  decide
/-- at b stands the tuple of p -/
def NkAt (H : Hp) (b : Addr) (p : NK) : Prop := ∃ c, H b = some (.tup [.int p.1, .ref c]) ∧ H c = some (.tup (p.2.map V.int))
theorem nums_all {h : Heap} : ∀ {l : List Int} {us : List Value}, Vals (l.map V.int) us → NestedAll h (l.map NestedKey.num) us
  | [], _, .nil => .nil
  | x :: l, _, .cons r t => by
    obtain ⟨t', rfl⟩ := r
    exact .cons (.int _ _) (nums_all t)
theorem nk_is {P : Program} {w : World} {H : Hp} {h : Heap} {b : Addr} {p : NK} (ok : HOk P w H h) (e : NkAt H b p) : (nestedKind P w).is h (nk p) b := by
  obtain ⟨c, e1, e2⟩ := e
  obtain ⟨_, its, r, o, h1, h2, n, h3⟩ := (show ObjOk P w H h b (.tup [.int p.1, .ref c]) from ok b _ e1)
  obtain ⟨_, its', r', o', h1', h2', n', h3'⟩ := (show ObjOk P w H h c (.tup (p.2.map V.int)) from ok c _ e2)
  refine ⟨.tup h1 h2 h3 ?_, nk_depth p⟩
  cases r with
  | cons ra rb =>
    cases rb with
    | cons rc rd =>
      cases rd
      obtain ⟨t, rfl⟩ := ra
      cases rc
      exact .cons (.int _ _) (.cons (.tup h1' h2' h3' (by simpa using nums_all r')) .nil)
abbrev ents (xs : List (NK × Addr)) : List (NestedKey × Addr × Value) := xs.map fun x => (nk x.1, x.2, Value.bool true)
def SeenO (P : Program) (w : World) (d : Addr) (xs : List (NK × Addr)) : HO := .ext fun h => (d == sysModules) = false ∧ xs.length ≤ 1000 ∧
  ∃ o es ep, h.get? d = some o ∧ o.ExactDict ∧ o.data = .dict es ep ∧ es.toList = (ents xs).map (entryOfKey (nestedKind P w)) ∧ ((ents xs).map (·.1)).Nodup
/-- at d stands the dict of these keys (all of value True) -/
def SeenAt (P : Program) (w : World) (H : Hp) (d : Addr) (xs : List (NK × Addr)) : Prop := H d = some (SeenO P w d xs) ∧ ∀ x ∈ xs, NkAt H x.2 x.1
theorem seen_of {P : Program} {w : World} {H : Hp} {h : Heap} {d : Addr} {xs : List (NK × Addr)} (ok : HOk P w H h) (e : SeenAt P w H d xs) :
    (d == sysModules) = false ∧ xs.length ≤ 1000 ∧ h.DictOfH (nestedKind P w) d (ents xs) := by
  obtain ⟨e1, e2⟩ := e
  obtain ⟨⟨h1, h2, o, es, ep, h3, h4, h5, h6, h7⟩, _, _⟩ := (show ObjOk P w H h d (SeenO P w d xs) from ok d _ e1)
  refine ⟨h1, h2, o, es, ep, h3, h4, h5, h6, fun x hx => ?_, h7⟩
  obtain ⟨y, hy, rfl⟩ := List.mem_map.mp hx
  exact nk_is ok (e2 y hy)
theorem atKey_ents (p : NK) : ∀ xs : List (NK × Addr), (atKey (ents xs) (nk p)).isSome = decide (p ∈ xs.map (·.1))
  | [] => rfl
  | x :: xs => by
    by_cases e : x.1 = p
    · have h1 : (atKey (ents (x :: xs)) (nk p)).isSome = true := by simp [atKey, ents, e]
      rw [h1]
      simp [e]
    · have h1 : (atKey (ents (x :: xs)) (nk p)) = atKey (ents xs) (nk p) := by
        have : ¬ nk x.1 = nk p := fun z => e (nk_inj z)
        simp [atKey, ents, this]
      rw [h1, atKey_ents p xs]
      have : ¬ p = x.1 := fun z => e z.symm
      simp [this]
def rInNk (P : Program) (w : World) : R2 := fun x y H Q => ∃ b d p xs, x = .ref b ∧ y = .ref d ∧ NkAt H b p ∧ SeenAt P w H d xs ∧ Q (.bl (decide (p ∈ xs.map (·.1)))) H
theorem op_in_nk {X : Cx} (hu : X.A.units + 64 < cLine) : OpR X (compareOp .In) (rInNk X.prog X.w) := by
  intro pins s σ H x y v u Q I rx ry h
  obtain ⟨b, d, p, xs, rfl, rfl, hb, hd, q⟩ := h
  cases rx
  cases ry
  obtain ⟨h1, h2, h3⟩ := seen_of I.hok hd
  refine wpAny_in_heap (show X.A.units + 1 + 8 < cLine by omega) (nk_is I.hok hb) h1 h3 ?_
  rw [atKey_ents]
  generalize decide (p ∈ xs.map (·.1)) = bb at q
  exact ⟨.bl bb, H, I.tok _, rfl, q⟩
def sSetNk (P : Program) (w : World) : TSet := fun o i v H Q => ∃ d b p xs, o = .ref d ∧ i = .ref b ∧ v = .bl true ∧ NkAt H b p ∧ SeenAt P w H d xs ∧ p ∉ xs.map (·.1) ∧ xs.length < 1000 ∧ Q (upd H d (SeenO P w d (xs ++ [(p, b)])))
theorem set_nk {X : Cx} (hu : X.A.units + 64 < cLine) : PSet X (sSetNk X.prog X.w) := by
  intro pins s σ H o i v ov iv u Q I ro ri rv h
  obtain ⟨d, b, p, xs, rfl, rfl, rfl, hb, hd, hn, hl, q⟩ := h
  cases ro
  cases ri
  obtain rfl : u = Value.bool true := rv
  obtain ⟨h1, h2, h3⟩ := seen_of I.hok hd
  have hz : (ents xs).length ≤ sizeLine := by rw [List.length_map]; exact Nat.le_trans h2 (by decide)
  refine wpAny_setItem_heap (hsz := hz) (show X.A.units + 1 + 8 < cLine by omega) (nk_is I.hok hb) h3 fun h' dd' hs => ?_
  have e0 : atKey (ents xs) (nk p) = none := by
    have := atKey_ents p xs
    rw [decide_eq_false hn] at this
    cases z : atKey (ents xs) (nk p) with
    | none => rfl
    | some y => rw [z] at this; cases this
  rw [storedH_new e0] at dd'
  obtain ⟨ob, es, ep, hq, g2, g3, g4, _, g5⟩ := dd'
  refine ⟨_, d_write I (by rw [hd.1]; exact True.intro) hs ⟨ob, hq⟩ ?_, q⟩
  have e1 : ents (xs ++ [(p, b)]) = ents xs ++ [(nk p, b, Value.bool true)] := by simp [ents]
  refine ⟨⟨h1, by rw [List.length_append]; exact hl, ob, es, ep, hq, g2, g3, by rw [e1]; exact g4, by rw [e1]; exact g5⟩, ⟨ob, hq⟩, fun a1 a2 z k => ?_⟩
  obtain ⟨z1, z2, o', es', ep', z3, z4⟩ := z
  exact ⟨z1, z2, o', es', ep', k _ z3, z4⟩
def tDNewN (P : Program) (w : World) : TE := fun _ H Q => ∀ p, H p = none → Q (.ref p) (upd H p (SeenO P w p []))
theorem pe_dnewN {X : Cx} {pos : Pos} : PE X (.Dict [] [] pos) (tDNewN X.prog X.w) := ⟨fun pins s σ H Q I h => by
  refine wpAny_Dict_empty ⟨.ref s.heap.objs.size, _, I.laid (a := s.heap.objs.size) (o := SeenO X.prog X.w s.heap.objs.size []) (t' := s.toks) (fun _ _ q => Heap.get?_push_of_some _ q) (Nat.le_refl _) ?_, rfl, h _ (I.hok.fresh (Nat.le_refl _))⟩
  have hp : (s.heap.push { cls := .type "dict", data := .dict #[] }).get? s.heap.objs.size = some { cls := .type "dict", data := .dict #[] } := Heap.get?_push_size _ rfl
  refine ⟨⟨beq_eq_false_iff_ne.mpr (Ne.symm (Nat.ne_of_lt I.big)), Nat.zero_le _, _, #[], 0, hp, ⟨rfl, rfl, rfl⟩, rfl, rfl, List.nodup_nil⟩, ⟨_, hp⟩, fun a1 a2 z k => ?_⟩
  obtain ⟨z1, z2, o', es', ep', z3, z4⟩ := z
  exact ⟨z1, z2, o', es', ep', k _ z3, z4⟩⟩
end K38
set_option Elab.async false
set_option linter.all false
set_option maxRecDepth 100000
set_option maxHeartbeats 4000000
namespace K38
open PySem PySem.Spec PyProof.Rows L2 He SX
/-! ### trees, rows, the machine -/
inductive Tr where
  | lf | nd (a b : Tr)
  deriving DecidableEq
def Tr.enc : Tr → List Nat
  | .lf => [48]
  | .nd a b => 49 :: (a.enc ++ b.enc)
def Tr.sz : Tr → Nat
  | .lf => 1
  | .nd a b => 1 + a.sz + b.sz
theorem Tr.len : ∀ t : Tr, t.enc.length = t.sz
  | .lf => rfl
  | .nd a b => by
    unfold Tr.enc Tr.sz
    rw [List.length_cons, List.length_append, Tr.len a, Tr.len b]
    omega
theorem Tr.pos (t : Tr) : 1 ≤ t.sz := by
  cases t <;> (unfold Tr.sz; omega)
def Tr.hd : Tr → Tr
  | .lf => .lf
  | .nd a _ => a
def Tr.tl : Tr → Tr
  | .lf => .lf
  | .nd _ b => b
abbrev one : Tr := .nd .lf .lf
def num : Nat → Tr
  | 0 => .lf
  | n + 1 => .nd .lf (num n)
def lst : List Tr → Tr
  | [] => .lf
  | t :: ts => .nd t (lst ts)
theorem num_sz : ∀ n, (num n).sz = 2 * n + 1
  | 0 => rfl
  | n + 1 => by
    unfold num Tr.sz
    rw [num_sz n]
    unfold Tr.sz
    omega
theorem num_enc : ∀ n, (num n).enc = (List.replicate n [49, 48]).flatten ++ [48]
  | 0 => rfl
  | n + 1 => by
    unfold num Tr.enc
    rw [num_enc n, List.replicate_succ, List.flatten_cons]
    simp [Tr.enc]
theorem lst_enc : ∀ ts : List Tr, (lst ts).enc = (ts.map fun t => 49 :: t.enc).flatten ++ [48]
  | [] => rfl
  | t :: ts => by
    show 49 :: (t.enc ++ (lst ts).enc) = _
    rw [lst_enc ts, List.map_cons, List.flatten_cons]
    simp
theorem lst_sz : ∀ ts : List Tr, (lst ts).sz = (ts.map fun t => t.sz + 1).sum + 1
  | [] => rfl
  | t :: ts => by
    show 1 + t.sz + (lst ts).sz = _
    rw [lst_sz ts, List.map_cons, List.sum_cons]
    omega
inductive Row where
  | set (a : Nat) (t : Tr) | move (a b : Nat) | cons (a b c : Nat) | head (a b : Nat) | tail (a b : Nat) | jump (a : Nat) (n : Int)
  deriving DecidableEq
def Row.vals : Row → List V
  | .set a t => [.str "set", .int a, .str (S t.enc)]
  | .move a b => [.str "move", .int a, .int b]
  | .cons a b c => [.str "cons", .int a, .int b, .int c]
  | .head a b => [.str "head", .int a, .int b]
  | .tail a b => [.str "tail", .int a, .int b]
  | .jump a n => [.str "jump", .int a, .int n]
def Row.regs : Row → List Nat
  | .set a _ => [a]
  | .move a b => [a, b]
  | .cons a b c => [a, b, c]
  | .head a b => [a, b]
  | .tail a b => [a, b]
  | .jump a _ => [a]
def Row.code : Row → Tr
  | .set a t => .nd (num 0) (.nd (num a) t)
  | .move a b => .nd (num 1) (.nd (num a) (num b))
  | .cons a b c => .nd (num 2) (.nd (num a) (.nd (num b) (num c)))
  | .head a b => .nd (num 3) (.nd (num a) (num b))
  | .tail a b => .nd (num 4) (.nd (num a) (num b))
  | .jump a n => .nd (num 5) (.nd (num a) (.nd (if n < 0 then one else .lf) (num n.natAbs)))
def codeT (rs : List Row) : Tr := lst (rs.map Row.code)
/-- the length of a set's tree -/
def Row.tsz : Row → Nat
  | .set _ t => t.sz
  | _ => 0
/-- the row with the index i of a program of n rows is well made -/
def Row.ok (i n : Nat) (r : Row) : Prop := (∀ a ∈ r.regs, a < 20) ∧ (∀ a t, r = .set a t → t.sz ≤ 200000) ∧ ∀ a k, r = .jump a k → 0 ≤ (i : Int) + k ∧ (i : Int) + k ≤ n
structure Ok (rs : List Row) : Prop where
  len : rs.length ≤ 600
  rows : ∀ (i : Nat) (r : Row), rs[i]? = some r → r.ok i rs.length
  sets : (rs.map Row.tsz).sum ≤ 200000
def wd (rs : List Row) : Nat := (rs.flatMap fun r => r.regs.map (· + 1)).foldl max 1
theorem fm_ge : ∀ (l : List Nat) (m : Nat), m ≤ l.foldl max m
  | [], m => Nat.le_refl _
  | x :: l, m => Nat.le_trans (Nat.le_max_left m x) (fm_ge l _)
theorem fm_all : ∀ (l : List Nat) (m x : Nat), x ∈ l → x ≤ l.foldl max m
  | y :: l, m, x, h => by
    rcases List.mem_cons.mp h with h | h
    · subst h
      exact Nat.le_trans (Nat.le_max_right m x) (fm_ge l _)
    · exact fm_all l _ x h
theorem fm_mem : ∀ (l : List Nat) (m : Nat), l.foldl max m = m ∨ l.foldl max m ∈ l
  | [], m => .inl rfl
  | x :: l, m => by
    show l.foldl max (max m x) = m ∨ l.foldl max (max m x) ∈ x :: l
    rcases fm_mem l (max m x) with h | h
    · rw [h]
      rcases Nat.le_total m x with k | k
      · rw [Nat.max_eq_right k]
        exact .inr (List.mem_cons_self ..)
      · rw [Nat.max_eq_left k]
        exact .inl rfl
    · exact .inr (List.mem_cons_of_mem _ h)
theorem fm_le : ∀ (l : List Nat) (m n : Nat), m ≤ n → (∀ x ∈ l, x ≤ n) → l.foldl max m ≤ n := fun l m n h k => by
  rcases fm_mem l m with e | e
  · rw [e]
    exact h
  · exact k _ e
/-! ### where they stand in the heap; M: what may change -/
def RowAt (M : List Addr) (H : Hp) (v : V) (r : Row) : Prop := ∃ p, v = .ref p ∧ p ∉ M ∧ H p = some (.tup r.vals)
abbrev RowsAt (M : List Addr) (H : Hp) : List V → List Row → Prop := Paired (RowAt M H)
def PrAt (M : List Addr) (H : Hp) (a : Addr) (rs : List Row) : Prop := a ∉ M ∧ ∃ vs, H a = some (.lst vs) ∧ RowsAt M H vs rs
/-- what stood and is not among M stands as it was -/
def Keep (M : List Addr) (H H' : Hp) : Prop := ∀ b o, H b = some o → b ∉ M → H' b = some o
def Dom (M : List Addr) (H : Hp) : Prop := ∀ m ∈ M, H m ≠ none
section
variable {M M' : List Addr} {H H1 H2 H' : Hp} {a p : Addr} {o u : HO} {v : V} {vs : List V} {r : Row} {rs : List Row}
theorem Keep.refl : Keep M H H := fun _ _ h _ => h
theorem Keep.trans (h : Keep M H H1) (h' : Keep M H1 H2) : Keep M H H2 := fun b o e n => h' b o (h b o e n) n
theorem Keep.mono (h : Keep M H H') (k : ∀ m ∈ M, m ∈ M') : Keep M' H H' := fun b o e n => h b o e fun z => n (k b z)
theorem Keep.same (h : Keep M H H') : Keep M H H' := h
theorem same_keep (h : Same H H') : Keep M H H' := fun b o e _ => h b o e
theorem Keep.to_same (h : Keep [] H H') : Same H H' := fun b o e => h b o e (by simp)
theorem same_new (h : H p = none) : Same H (upd H p o) := fun b x e => by
  rw [upd_ne (ne_of_none e h)]
  exact e
theorem Keep.new (h : H p = none) : Keep M H (upd H p o) := same_keep (same_new h)
/-- an object of M is changed -/
theorem Keep.put (h : p ∈ M) : Keep M H (upd H p o) := fun b x e n => by
  have : b ≠ p := fun z => n (by rw [z]; exact h)
  rw [upd_ne this]
  exact e
/-- what was made meanwhile may change -/
theorem Keep.drop (hs : Keep M H H1) (hp : H p = none) (h : Keep (p :: M) H1 H2) : Keep M H H2 := fun b x e n =>
  h b x (hs b x e n) fun z => by
    rcases List.mem_cons.mp z with z | z
    · subst z
      rw [hp] at e
      cases e
    · exact n z
theorem Keep.free (h : Keep M H H') (d : Dom M H') (e : H' p = none) : H p = none := by
  cases q : H p with
  | none => rfl
  | some o =>
    by_cases m : p ∈ M
    · exact absurd e (d p m)
    · rw [h p o q m] at e
      cases e
theorem same_dom (h : Same H H') (d : Dom M H) : Dom M H' := fun m hm e => d m hm (Same.free h e)
theorem Dom.out (d : Dom M H) (h : H p = none) : p ∉ M := fun z => d p z h
theorem RowAt.keep (h : RowAt M H v r) (k : Keep M H H') : RowAt M H' v r := let ⟨p, e, n, q⟩ := h; ⟨p, e, n, k p _ q n⟩
theorem RowAt.mono (h : RowAt M H v r) (k : ∀ m ∈ M', m ∈ M) : RowAt M' H v r := let ⟨p, e, n, q⟩ := h; ⟨p, e, fun z => n (k p z), q⟩
theorem RowsAt.keep (h : RowsAt M H vs rs) (k : Keep M H H') : RowsAt M H' vs rs := Paired.mapP h fun _ _ z => z.keep k
theorem RowsAt.mono (h : RowsAt M H vs rs) (k : ∀ m ∈ M', m ∈ M) : RowsAt M' H vs rs := Paired.mapP h fun _ _ z => z.mono k
theorem PrAt.keep (h : PrAt M H a rs) (k : Keep M H H') : PrAt M H' a rs := let ⟨n, vs, e, q⟩ := h; ⟨n, vs, k a _ e n, RowsAt.keep q k⟩
theorem PrAt.mono (h : PrAt M H a rs) (k : ∀ m ∈ M', m ∈ M) : PrAt M' H a rs := let ⟨n, vs, e, q⟩ := h; ⟨fun z => n (k a z), vs, e, RowsAt.mono q k⟩
theorem PrAt.sq {K : PySem.W.Frag} (h : PrAt M H a rs) : ∃ vs, H a = some (.lst vs) ∧ RowsAt M H vs rs := h.2
theorem RowsAt.get (h : RowsAt M H vs rs) {i : Nat} {v : V} (e : vs[i]? = some v) : ∃ r, rs[i]? = some r ∧ RowAt M H v r := by
  induction h generalizing i with
  | nil => simp at e
  | @cons x y xs ys hx ht ih =>
    cases i with
    | zero =>
      have : x = v := by simpa using e
      subst this
      exact ⟨y, by simp, hx⟩
    | succ i => exact ih (by simpa using e)
theorem RowsAt.getR (h : RowsAt M H vs rs) {i : Nat} {r : Row} (e : rs[i]? = some r) : ∃ v, vs[i]? = some v ∧ RowAt M H v r := by
  induction h generalizing i with
  | nil => simp at e
  | @cons x y xs ys hx ht ih =>
    cases i with
    | zero =>
      have : y = r := by simpa using e
      subst this
      exact ⟨x, by simp, hx⟩
    | succ i => exact ih (by simpa using e)
theorem RowsAt.len (h : RowsAt M H vs rs) : vs.length = rs.length := Paired.length h
theorem RowsAt.app {ws : List V} {qs : List Row} (h : RowsAt M H vs rs) (h' : RowsAt M H ws qs) : RowsAt M H (vs ++ ws) (rs ++ qs) := by
  induction h with
  | nil => exact h'
  | cons hx ht ih => exact .cons hx ih
end
end K38
set_option Elab.async false
set_option linter.all false
set_option maxRecDepth 100000
set_option maxHeartbeats 4000000
namespace K38
open PySem PySem.Spec PyProof.Rows L2 He SX
/-! ### short rules -/
section
variable {X : Cx} {pos : Pos}
theorem ps_st (i : Nat) {x : Str} {e : Expr} {te : TE} {pos' : Pos} (hN : X.N.Nodup) (he : PE X e te) (hi : X.N[i]? = some x := by rfl) (hx : Loc X.env.scope x := by first | exact .inl rfl | exact .inr rfl)
    (hs : swapsWith e (some (.Name x pos')) pos.line X.env = pure false := by rfl) (hf : X.fn x = true ∨ X.env.scope.names.lookup x = some .local := by first | exact .inl rfl | exact .inr rfl) :
    PS X (.Assign [.Name x pos'] e pos) (tAsg te (gName i)) := ps_set hN hi hx he hs hf
theorem pe_csr {a : Addr} {x : Str} (hg : Gl X x) (h : X.mg x = some (.ref a)) (hd : (x == ("__debug__" : Str)) = false := by decide) : PE X (.Name x pos) (tC (.ref a)) := pe_glob hg h rfl hd
theorem pg_nm (i : Nat) {x : Str} (hN : X.N.Nodup) (hi : X.N[i]? = some x := by rfl) (hx : Loc X.env.scope x := by first | exact .inl rfl | exact .inr rfl) (hf : X.fn x = true ∨ X.env.scope.names.lookup x = some .local := by first | exact .inl rfl | exact .inr rfl) :
    PG X (.Name x pos) (gName i) := pg_name hN hi hx hf
theorem pe_app {o e : Expr} {apos cpos : Pos} {to te : TE} (ho : PE X o to) (he : PE X e te) (hbase : attributeBase o "append" X.env (eval o X.env) = eval o X.env := by rfl)
    (hfew : ((backTo cpos (starEach [e] X.env)).all (fun x => !x.1) && (backToKw cpos (keywordEach [] X.env)).all (fun x => x.1.isSome) && decide ([e].length + ([] : List Keyword).length + (if ([] : List Keyword).isEmpty then 0 else 1) < 30)) = true := by rfl)
    (hline : (apos.endLine == cpos.line) = true := by rfl) (hs : starEach [e] X.env = (false, eval e X.env) :: starEach [] X.env := by rfl) (hplain : (backTo cpos (starEach [] X.env)).any (·.1) = false := by rfl) :
    PE X (.Call (.Attribute o "append" apos) [e] [] cpos) (tBM X.K "list" rAppend to (tCons te tNil)) :=
  pe_bm PySem.F.plainAttrs_list PySem.F.slot_list_append PySem.F.type_list_append mt_append ho (pa_cons he pa_nil (by exact hs)) hbase hfew hline hs hplain
theorem pe_ext {o e : Expr} {apos cpos : Pos} {to te : TE} (ho : PE X o to) (he : PE X e te) (hbase : attributeBase o "extend" X.env (eval o X.env) = eval o X.env := by rfl)
    (hfew : ((backTo cpos (starEach [e] X.env)).all (fun x => !x.1) && (backToKw cpos (keywordEach [] X.env)).all (fun x => x.1.isSome) && decide ([e].length + ([] : List Keyword).length + (if ([] : List Keyword).isEmpty then 0 else 1) < 30)) = true := by rfl)
    (hline : (apos.endLine == cpos.line) = true := by rfl) (hs : starEach [e] X.env = (false, eval e X.env) :: starEach [] X.env := by rfl) (hplain : (backTo cpos (starEach [] X.env)).any (·.1) = false := by rfl) :
    PE X (.Call (.Attribute o "extend" apos) [e] [] cpos) (tBM X.K "list" rExtend to (tCons te tNil)) :=
  pe_bm PySem.F.plainAttrs_list PySem.F.slot_list_extend PySem.F.type_list_extend mt_extend ho (pa_cons he pa_nil (by exact hs)) hbase hfew hline hs hplain
theorem pe_popl {o : Expr} {apos cpos : Pos} {to : TE} (ho : PE X o to) (hbase : attributeBase o "pop" X.env (eval o X.env) = eval o X.env := by rfl) (hline : (apos.endLine == cpos.line) = true := by rfl) :
    PE X (.Call (.Attribute o "pop" apos) [] [] cpos) (tBM0 X.K "list" rPop to) := pe_bm0 PySem.F.plainAttrs_list PySem.F.slot_list_pop PySem.F.type_list_pop mt_pop ho hbase hline
theorem pe_it {a b : Expr} {ta tb : TE} (ha : PE X a ta) (hb : PE X b tb) (hs : PlainIx b := by exact fun _ _ => rfl) : PE X (.Subscript a b pos) (tOp (rIxT X.K) ta tb) := pe_ix ix_tup ha hb hs
theorem pe_il {a b : Expr} {ta tb : TE} (ha : PE X a ta) (hb : PE X b tb) (hs : PlainIx b := by exact fun _ _ => rfl) : PE X (.Subscript a b pos) (tOp (rIxL X.K) ta tb) := pe_ix ix_list ha hb hs
theorem pe_is {a b : Expr} {ta tb : TE} (ha : PE X a ta) (hb : PE X b tb) (hs : PlainIx b := by exact fun _ _ => rfl) : PE X (.Subscript a b pos) (tOp rIxS ta tb) := pe_ix ix_str ha hb hs
theorem pe_dg {o i : Expr} {td ty : TE} {k : Nat} (hr : Room k X.A) (ho : PE X o td) (hi : PE X i ty) (hs : NoSl i := by exact fun _ _ => rfl) : PE X (.Subscript o i pos) (tDGet td ty) := pe_dget (hu_of hr) ho hi hs
end
/-! ### readings by names -/
def rLenS : List V → Hp → VK → Prop := fun xs H Q => ∃ z, xs = [.str z] ∧ z.length ≤ sizeLine ∧ Q (.int z.length) H
def rLenQ (K : PySem.W.Frag) : List V → Hp → VK → Prop := fun xs H Q => ∃ p ys, xs = [.ref p] ∧ (SqL K H p ys ∨ SqT K H p ys) ∧ Q (.int ys.length) H
def rAddS : R2 := fun x y H Q => ∃ i j, x = .str i ∧ y = .str j ∧ i.length + j.length ≤ sizeLine ∧ Q (.str (i ++ j)) H
def rInt1 : List V → Hp → VK → Prop := fun xs H Q => (∃ i, xs = [.int i] ∧ Q (.int i) H) ∨ ∃ k, xs = [.bl k] ∧ Q (.int (if k then 1 else 0)) H
def rAbs : List V → Hp → VK → Prop := fun xs H Q => ∃ i, xs = [.int i] ∧ Q (.int (if i < 0 then -i else i)) H
def rListOf (K : PySem.W.Frag) : List V → Hp → VK → Prop := fun xs H Q => ∃ p ys, xs = [.ref p] ∧ (SqL K H p ys ∨ SqT K H p ys) ∧ ∀ l, H l = none → Q (.ref l) (upd H l (.lst ys))
def rTupOf (K : PySem.W.Frag) : List V → Hp → VK → Prop := fun xs H Q => ∃ p ys, xs = [.ref p] ∧ ((SqL K H p ys ∧ ∀ l, H l = none → Q (.ref l) (upd H l (.tup ys))) ∨ (SqT K H p ys ∧ Q (.ref p) H))
def rInSg : R2 := fun x y H Q => ∃ (c : Nat) (z : Str), x = .str ⟨#[c]⟩ ∧ y = .str z ∧ Q (.bl (decide (c ∈ z.cps.toList))) H
def rNotInSg : R2 := fun x y H Q => ∃ (c : Nat) (z : Str), x = .str ⟨#[c]⟩ ∧ y = .str z ∧ Q (.bl (!decide (c ∈ z.cps.toList))) H
def rJoin (K : PySem.W.Frag) : V → List V → Hp → VK → Prop := fun x xs H Q => ∃ a p, ∃ ys : List Str, x = .str a ∧ xs = [.ref p] ∧ (SqL K H p (ys.map V.str) ∨ SqT K H p (ys.map V.str)) ∧ (ys.map (·.length)).sum + ys.length * a.length ≤ 16777216 ∧ Q (.str (Txt.join a ys)) H
section
variable {X : Cx}
theorem pe_jn {o e : Expr} {to te : TE} {apos pos : Pos} (ho : PE X o to) (he : PE X e te) (hs : starEach [e] X.env = [(false, eval e X.env)] := by rfl) (hbase : attributeBase o "join" X.env (eval o X.env) = eval o X.env := by rfl) (hline : (apos.endLine == pos.line) = true := by rfl) :
    PE X (.Call (.Attribute o "join" apos) [e] [] pos) (tM1 (rJoin X.K) to te) := pe_join ho he hs hbase hline
theorem c_lenS : CallR X (.builtin "len") rLenS := call_len_str
theorem c_lenQ : CallR X (.builtin "len") (rLenQ X.K) := call_len_seq
theorem o_addS : OpR X (binaryOp .Add) rAddS := op_add_str
theorem c_int1 : CallR X (.type "int") rInt1 := call_int1
theorem c_abs : CallR X (.builtin "abs") rAbs := call_abs
theorem c_listOf : CallR X (.type "list") (rListOf X.K) := call_list_of
theorem c_tupOf : CallR X (.type "tuple") (rTupOf X.K) := call_tuple_of
theorem o_inSg : OpR X (compareOp .In) rInSg := op_in_sign
theorem o_notInSg : OpR X (compareOp .NotIn) rNotInSg := op_notIn_sign
end
theorem same_mut {H H' : Hp} {p : Addr} {o : HO} (e : Same H H') (h : H p = none) : Same H (upd H' p o) := fun a u ha => by
  rw [upd_ne (ne_of_none ha h)]
  exact e a u ha
/-! ### readings, one step each -/
section
variable {σ : L2.St} {H : Hp} {D : Ends} {Q : VK} {QT : Bool → Hp → Prop} {QA : List V → Hp → Prop} {QO : Option Int → Hp → Prop} {v x y : V} {te ta tb tc to td ty tl th : TE} {t u : TA} {tt tu c : TT} {t1 t2 : TS} {g : TG} {r r' : R2} {K : PySem.W.Frag} {i : Nat} {p q : Addr} {xs : List V}
theorem r_seq (h : t1 { D with nx := t2 D } σ H) : tSeq t1 t2 D σ H := h
theorem r_next (h : D.nx σ H) : tNext D σ H := h
theorem r_ret (h : te σ H D.rt) : tRet te D σ H := h
theorem r_asg (h : te σ H fun x H1 => g x σ H1 D.nx) : tAsg te g D σ H := h
theorem r_drop (h : te σ H fun _ H1 => D.nx σ H1) : tDrop te D σ H := h
theorem r_if (h : c σ H fun b H1 => if b = true then t1 D σ H1 else t2 D σ H1) : tIfS c t1 t2 D σ H := h
theorem r_aug {ti : TIp} (h0 : σ[i]? = some (some x)) (h : te σ H fun y H1 => ti x y H1 fun z H2 => D.nx (σ.set i (some z)) H2) : tAug i te ti D σ H := ⟨x, h0, h⟩
theorem r_ipI {f : Int → Int → Int} {a b : Int} (h : Q (.int (f a b)) H) : ipI f (.int a) (.int b) H Q := ⟨a, b, rfl, rfl, h⟩
theorem r_gname {QS : L2.St → Hp → Prop} (h : QS (σ.set i (some v)) H) : gName i v σ H QS := h
theorem r_gsub {QS : L2.St → Hp → Prop} {s : TSet} (h : to σ H fun o H1 => ta σ H1 fun i H2 => s o i v H2 fun H3 => QS σ H3) : gSub to ta s v σ H QS := h
theorem r_var (h : σ[i]? = some (some v)) (q : Q v H) : tVar i σ H Q := ⟨v, h, q⟩
theorem r_c (q : Q v H) : tC v σ H Q := q
theorem r_op (h : ta σ H fun x H1 => tb σ H1 fun y H2 => r x y H2 Q) : tOp r ta tb σ H Q := h
theorem r_un {ru : V → Hp → VK → Prop} (h : ta σ H fun x H1 => ru x H1 Q) : tUn ru ta σ H Q := h
theorem r_rU {f : Int → V} {a : Int} (h : Q (f a) H) : rU f (.int a) H Q := ⟨a, rfl, h⟩
theorem r_cb {rc : List V → Hp → VK → Prop} (h : t σ H fun vs H1 => rc vs H1 Q) : tCB rc t σ H Q := h
theorem r_cons (h : ta σ H fun x H1 => t σ H1 fun xs H2 => QA (x :: xs) H2) : tCons ta t σ H QA := h
theorem r_nil (h : QA [] H) : tNil σ H QA := h
theorem r_call {sp : Sp} {E : XK} (h : t σ H fun vs H1 => sp (vs ++ []) H1 Q E) : tCall sp [] E t σ H Q := h
theorem r_tup (h : t σ H fun xs H1 => xs.length ≤ sizeLine ∧ ∀ p, H1 p = none → Q (.ref p) (upd H1 p (.tup xs))) : tTup t σ H Q := h
theorem r_lst (h : t σ H fun xs H1 => xs.length ≤ sizeLine ∧ ∀ p, H1 p = none → Q (.ref p) (upd H1 p (.lst xs))) : tLst t σ H Q := h
theorem r_bm {T : String} {rm : V → List V → Hp → VK → Prop} (h : to σ H fun x H1 => tyV K T x H1 ∧ t σ H1 fun xs H2 => rm x xs H2 Q) : tBM K T rm to t σ H Q := h
theorem r_bm0 {T : String} {rm : V → List V → Hp → VK → Prop} (h : to σ H fun x H1 => tyV K T x H1 ∧ rm x [] H1 Q) : tBM0 K T rm to σ H Q := h
theorem r_I0 {f : Int → Int → V} {a b : Int} (h : Q (f a b) H) : rI0 f (.int a) (.int b) H Q := ⟨a, b, rfl, rfl, h⟩
theorem r_eq (h : scal x y = true) (q : Q (.bl (decide (x = y))) H) : rEq x y H Q := ⟨h, q⟩
theorem r_ne (h : scal x y = true) (q : Q (.bl (!decide (x = y))) H) : rNe x y H Q := ⟨h, q⟩
theorem r_test (h : te σ H fun x H' => ∃ k, x = .bl k ∧ QT k H') : tTest te σ H QT := h
theorem r_B (h : te σ H fun x H1 => ∃ c, x = .bl c ∧ QT c H1) : tB te σ H QT := h
theorem r_bl {b : Bool} {R : Bool → Prop} (h : R b) : ∃ k, V.bl b = .bl k ∧ R k := ⟨b, rfl, h⟩
theorem r_not (h : tt σ H fun c H1 => QT (!c) H1) : tNot tt σ H QT := h
theorem r_and (h : tt σ H fun c H1 => if c = true then tu σ H1 QT else QT false H1) : tAnd tt tu σ H QT := h
theorem r_or (h : tt σ H fun c H1 => if c = true then QT true H1 else tu σ H1 QT) : tOr tt tu σ H QT := h
theorem r_andV (h : ta σ H fun x H1 => ∃ c, x = .bl c ∧ if c = true then tb σ H1 Q else Q (.bl false) H1) : tAndV ta tb σ H Q := h
theorem r_notV (h : ta σ H fun x H1 => ∃ c, x = .bl c ∧ Q (.bl (!c)) H1) : tNotV ta σ H Q := h
theorem r_chain (h : ta σ H fun x H1 => tb σ H1 fun y H2 => r x y H2 fun z H3 => ∃ k, z = .bl k ∧ (if k = true then tc σ H3 fun w' H4 => r' y w' H4 Q else Q (.bl false) H3)) : tChain r r' ta tb tc σ H Q := h
theorem r_isN (h : ta σ H fun x H1 => Q (.bl (decide (x = .non))) H1) : tIsN ta σ H Q := h
theorem r_notN (h : ta σ H fun x H1 => Q (.bl (!decide (x = .non))) H1) : tNotN ta σ H Q := h
theorem r_dget (h : td σ H fun x H1 => ty σ H1 fun y H2 => ∃ a v, x = .ref a ∧ DGet H2 a y (some v) ∧ Q v H2) : tDGet td ty σ H Q := h
theorem r_din (h : ty σ H fun y H1 => td σ H1 fun x H2 => ∃ a o, x = .ref a ∧ DGet H2 a y o ∧ Q (.bl o.isSome) H2) : tDIn ty td σ H Q := h
theorem r_dnotin (h : ty σ H fun y H1 => td σ H1 fun x H2 => ∃ a o, x = .ref a ∧ DGet H2 a y o ∧ Q (.bl (!o.isSome)) H2) : tDNotIn ty td σ H Q := h
theorem r_for {wi : TI} {tb : TS} (h : wi σ H fun J H1 => ∃ W : Nat → Nat → L2.St → Hp → Prop, (∃ m, W 0 m σ H1) ∧ ∀ i m σ H, W i m σ H → (J.stop i H ∧ D.nx σ H) ∨ (J.go i H ∧ ∃ N : L2.St → Hp → Prop, (∀ σ' H', N σ' H' → ∃ m', m' < m ∧ W (i + 1) m' σ' H') ∧ ∀ x H', J.yld i H x H' → g x σ H' fun σ2 H2 => tb { D with nx := N, ct := N, bk := D.nx } σ2 H2)) : tFor wi g tb D σ H := h
theorem r_lc {wi : TI} {vs : List Nat} (h : wi σ H fun J H1 => ∀ D, H1 D = none → ∃ W : Nat → Nat → Hp → Prop, (∃ m, W 0 m (upd H1 D (.lst []))) ∧ ∀ i m H, W i m H →
  (J.stop i H ∧ Q (.ref D) H) ∨ (J.go i H ∧ ∃ Nx : Hp → Prop, (∀ H', Nx H' → ∃ m', m' < m ∧ W (i + 1) m' H') ∧ ∀ x H', J.yld i H x H' → g x (wipe σ vs) H' fun σ2 H2 => wipe σ2 vs = wipe σ vs ∧ tt σ2 H2 fun b H3 =>
    if b = true then te σ2 H3 fun y H4 => ∃ acc, H4 D = some (.lst acc) ∧ acc.length < sizeLine ∧ Nx (upd H4 D (.lst (acc ++ [y]))) else Nx H3)) : tLc wi g tt te vs σ H Q := h
theorem r_iList {R : It → Hp → Prop} (h : tl σ H fun x H1 => ∃ a, x = .ref a ∧ (∃ xs, SqL K H1 a xs) ∧ R (Itl K a) H1) : iList K tl σ H R := h
theorem r_iTup {R : It → Hp → Prop} (h : tl σ H fun x H1 => ∃ a, x = .ref a ∧ (∃ xs, SqT K H1 a xs) ∧ R (Itt K a) H1) : iTup K tl σ H R := h
theorem r_iStr {R : It → Hp → Prop} (h : te σ H fun v H1 => ∃ x, v = .str x ∧ R (Its x) H1) : iStr te σ H R := h
theorem r_iRng1 {R : It → Hp → Prop} (h : t σ H fun vs H1 => ∃ j : Int, vs = [.int j] ∧ -(2 ^ 62) ≤ j ∧ j < 2 ^ 62 ∧ R (Itr 0 j.toNat) H1) : iRng1 t σ H R := h
theorem r_iRng2 {R : It → Hp → Prop} (h : t σ H fun vs H1 => ∃ i j : Int, vs = [.int i, .int j] ∧ (-(2 ^ 62) ≤ i ∧ i < 2 ^ 62 ∧ -(2 ^ 62) ≤ j ∧ j < 2 ^ 62) ∧ R (Itr i (j - i).toNat) H1) : iRng2 t σ H R := h
theorem r_iEnum {R : It → Hp → Prop} (h : t σ H fun vs H1 => ∃ a xs, vs = [.ref a] ∧ SqL K H1 a xs ∧ R (Ite K a) H1) : iEnum K t σ H R := h
theorem r_wipe {A : Prop} {σ' : L2.St} (h1 : σ = σ') (h : A) : σ = σ' ∧ A := ⟨h1, h⟩
theorem r_yes (h : QT true H) : tYes σ H QT := h
theorem r_rng {sl : V → Option Int → Option Int → Hp → VK → Prop} {tlo thi : TO} (h : te σ H fun x H1 => tlo σ H1 fun l H2 => thi σ H2 fun u H3 => sl x l u H3 Q) : tSl sl te tlo thi σ H Q := h
theorem r_part {QO : Option Int → Hp → Prop} (h : te σ H fun x H1 => ∃ i, x = .int i ∧ QO (some i) H1) : tPart te σ H QO := h
theorem r_nopart {QO : Option Int → Hp → Prop} (h : QO none H) : tNoPart σ H QO := h
theorem r_exi {a : Int} {R : Int → Prop} (h : R a) : ∃ i, V.int a = .int i ∧ R i := ⟨a, rfl, h⟩
theorem r_m1 {rm : V → List V → Hp → VK → Prop} (h : to σ H fun x H1 => (∃ a, x = .str a) ∧ te σ H1 fun y H2 => rm x [y] H2 Q) : tM1 rm to te σ H Q := h
theorem r_strv {B : Prop} {z : Str} (h : B) : (∃ a, V.str z = .str a) ∧ B := ⟨⟨z, rfl⟩, h⟩
theorem r_T {b : Prop} {b' : Prop} (h : b) : if true = true then b else b' := iteT h
theorem r_F {b : Prop} {b' : Prop} (h : b') : if false = true then b else b' := iteF h
theorem r_nT {b b' : Prop} (h : b') : if (!true) = true then b else b' := iteF h
theorem r_nF {b b' : Prop} (h : b) : if (!false) = true then b else b' := iteT h
theorem r_isT {cc : Bool} {b b' : Prop} (hc : cc = true) (h : b) : if cc = true then b else b' := by rw [hc]; exact iteT h
theorem r_isF {cc : Bool} {b b' : Prop} (hc : cc = false) (h : b') : if cc = true then b else b' := by rw [hc]; exact iteF h
theorem r_2 {cc : Bool} {b b' : Prop} (h1 : cc = true → b) (h2 : cc = false → b') : if cc = true then b else b' := by
  cases cc with
  | true => exact iteT (h1 rfl)
  | false => exact iteF (h2 rfl)
theorem r_ixT (h : H p = some (.tup xs)) {j : Nat} {z : Int} (hz : z = (j : Int)) (hv : xs[j]? = some v) (q : Q v H) : rIxT K (.ref p) (.int z) H Q := ⟨p, xs, z, v, rfl, rfl, SqT.of h, at_of hz hv, q⟩
theorem r_ixL (h : H p = some (.lst xs)) {j : Nat} {z : Int} (hz : z = (j : Int)) (hv : xs[j]? = some v) (q : Q v H) : rIxL K (.ref p) (.int z) H Q := ⟨p, xs, z, v, rfl, rfl, SqL.of h, at_of hz hv, q⟩
theorem r_tyL {B : Prop} (h : H p = some (.lst xs)) (q : B) : tyV K "list" (.ref p) H ∧ B := ⟨.inl ⟨rfl, _, SqL.of h⟩, q⟩
theorem r_app (h : H p = some (.lst xs)) (hz : xs.length < sizeLine) (q : Q .non (upd H p (.lst (xs ++ [y])))) : rAppend (.ref p) [y] H Q := ⟨p, xs, y, rfl, rfl, h, hz, q⟩
theorem r_addS {a b : List Nat} (hz : a.length + b.length ≤ 1000000) (h : Q (.str (S (a ++ b))) H) : rAddS (.str (S a)) (.str (S b)) H Q :=
  ⟨S a, S b, rfl, rfl, by rw [S_len, S_len]; exact Nat.le_trans hz (by decide), by rw [S_cat]; exact h⟩
theorem r_lenS {a : List Nat} (hz : a.length ≤ 1000000) (h : Q (.int (a.length : Int)) H) : rLenS [.str (S a)] H Q :=
  ⟨S a, rfl, by rw [S_len]; exact Nat.le_trans hz (by decide), by rw [S_len]; exact h⟩
theorem r_lenL (h : H p = some (.lst xs)) (q : Q (.int (xs.length : Int)) H) : rLenQ K [.ref p] H Q := ⟨p, xs, rfl, .inl (SqL.of h), q⟩
theorem r_lenT (h : H p = some (.tup xs)) (q : Q (.int (xs.length : Int)) H) : rLenQ K [.ref p] H Q := ⟨p, xs, rfl, .inr (SqT.of h), q⟩
theorem r_int1 {a : Int} (q : Q (.int a) H) : rInt1 [.int a] H Q := .inl ⟨a, rfl, q⟩
theorem r_abs {a : Int} (q : Q (.int (if a < 0 then -a else a)) H) : rAbs [.int a] H Q := ⟨a, rfl, q⟩
theorem r_listOf (h : H p = some (.lst xs)) (q : ∀ l, H l = none → Q (.ref l) (upd H l (.lst xs))) : rListOf K [.ref p] H Q := ⟨p, xs, rfl, .inl (SqL.of h), q⟩
theorem r_tupOf (h : H p = some (.lst xs)) (q : ∀ l, H l = none → Q (.ref l) (upd H l (.tup xs))) : rTupOf K [.ref p] H Q := ⟨p, xs, rfl, .inl ⟨SqL.of h, q⟩⟩
theorem r_cat {zs : List V} (h : H p = some (.lst xs)) (h' : H q = some (.lst zs)) (hz : xs.length + zs.length ≤ 1000000) (k : ∀ l, H l = none → Q (.ref l) (upd H l (.lst (xs ++ zs)))) : rCat (.ref p) (.ref q) H Q :=
  ⟨p, q, xs, zs, rfl, rfl, h, h', Nat.le_trans hz (by decide), k⟩
end
section
variable {H : Hp} {Q : VK} {p : Addr} {xs ys : List V} {x y v : V} {K : PySem.W.Frag}
theorem r_ixT0 (h : H p = some (.tup xs)) (hv : xs[0]? = some v) (q : Q v H) : rIxT K (.ref p) (.int 0) H Q := r_ixT h (j := 0) rfl hv q
theorem r_ixT1 (h : H p = some (.tup xs)) (hv : xs[1]? = some v) (q : Q v H) : rIxT K (.ref p) (.int 1) H Q := r_ixT h (j := 1) rfl hv q
theorem r_ixT2 (h : H p = some (.tup xs)) (hv : xs[2]? = some v) (q : Q v H) : rIxT K (.ref p) (.int 2) H Q := r_ixT h (j := 2) rfl hv q
theorem r_ixT3 (h : H p = some (.tup xs)) (hv : xs[3]? = some v) (q : Q v H) : rIxT K (.ref p) (.int 3) H Q := r_ixT h (j := 3) rfl hv q
theorem r_ixL0 (h : H p = some (.lst xs)) (hv : xs[0]? = some v) (q : Q v H) : rIxL K (.ref p) (.int 0) H Q := r_ixL h (j := 0) rfl hv q
theorem r_ixL1 (h : H p = some (.lst xs)) (hv : xs[1]? = some v) (q : Q v H) : rIxL K (.ref p) (.int 1) H Q := r_ixL h (j := 1) rfl hv q
theorem r_ixL2 (h : H p = some (.lst xs)) (hv : xs[2]? = some v) (q : Q v H) : rIxL K (.ref p) (.int 2) H Q := r_ixL h (j := 2) rfl hv q
theorem r_ixL3 (h : H p = some (.lst xs)) (hv : xs[3]? = some v) (q : Q v H) : rIxL K (.ref p) (.int 3) H Q := r_ixL h (j := 3) rfl hv q
theorem r_in {neg b : Bool} (h : SqT K H p xs) (hx : flatV x = true) (hf : xs.all flatV = true) (hb : (if neg then !inV x xs else inV x xs) = b) (q : Q (.bl b) H) : rIn K neg x (.ref p) H Q := ⟨p, xs, rfl, .inr h, hx, hf, by rw [hb]; exact q⟩
theorem sIx1 (n : Nat) : HT.sIx (n + 1) 0 (some 1) = 1 := by
  rw [show (1 : Int) = ((1 : Nat) : Int) from rfl, HT.sIx_nat]
  omega
theorem cut1 : cutV (x :: ys) (some 1) none = ys := by
  unfold cutV
  rw [show (x :: ys).length = ys.length + 1 from rfl, sIx1, HT.sIx_none]
  simp
theorem r_sl1 (h : H p = some (.tup (x :: ys))) (q : ∀ l, H l = none → Q (.ref l) (upd H l (.tup ys))) : rSlA K (.ref p) (some 1) none H Q := by
  have e : HT.sIx (x :: ys).length 0 (some 1) = 1 := sIx1 ys.length
  refine ⟨p, x :: ys, rfl, SqT.of h, fun z => ?_, fun _ l hl => ?_⟩
  · rw [e] at z
    cases z.1
  · rw [cut1]
    exact q l hl
theorem r_sl12 (h : H p = some (.tup (x :: y :: ys))) (q : ∀ l, H l = none → Q (.ref l) (upd H l (.tup [y]))) : rSlA K (.ref p) (some 1) (some 2) H Q := by
  have e : HT.sIx (x :: y :: ys).length 0 (some 1) = 1 := sIx1 (y :: ys).length
  have e2 : HT.sIx (x :: y :: ys).length (x :: y :: ys).length (some 2) = 2 := by
    rw [show (2 : Int) = ((2 : Nat) : Int) from rfl, HT.sIx_nat]
    show min 2 (ys.length + 1 + 1) = 2
    omega
  refine ⟨p, x :: y :: ys, rfl, SqT.of h, fun z => ?_, fun _ l hl => ?_⟩
  · rw [e] at z
    cases z.1
  · rw [show cutV (x :: y :: ys) (some 1) (some 2) = [y] by unfold cutV; rw [e, e2]; rfl]
    exact q l hl
def tTrk (K : PySem.W.Frag) (ta : TE) : TT := fun σ H Q => ta σ H fun x H' => ∃ k, TruV K x H' k ∧ Q k H'
theorem pt_trk {X : Cx} {a : Expr} {ta : TE} (ha : PE X a ta) (he : ∀ whole, isTrue a X.env whole = (do let v ← whole; standAt a.pos; holding [v] (truthy v)) := by exact fun _ => rfl) : PT X a (tTrk X.K ta) := pt_truth ha he
theorem r_trk {σ : L2.St} {ta : TE} {QT : Bool → Hp → Prop} (h : ta σ H fun x H' => ∃ k, TruV K x H' k ∧ QT k H') : tTrk K ta σ H QT := h
theorem r_truT {R : Bool → Prop} (h : H p = some (.tup xs)) (q : R (!xs.isEmpty)) : ∃ k, TruV K (.ref p) H k ∧ R k := ⟨_, .inr (.inl ⟨xs, SqT.of h, rfl⟩), q⟩
theorem r_kd {w : World} {z : Str} (h : KDct K w p z v) (q : Q v H) : rIxD K w (.ref p) (.str z) H Q := ⟨p, z, v, rfl, rfl, h, q⟩
end
theorem r_gtup2 {K : PySem.W.Frag} {H : Hp} {σ : L2.St} {QS : L2.St → Hp → Prop} {p : Addr} {x y : V} {i j : Nat} (h : H p = some (.tup [x, y])) (q : QS ((σ.set i (some x)).set j (some y)) H) : gTup K 2 (gCons (gName i) (gCons (gName j) gNil)) (.ref p) σ H QS :=
  ⟨p, [x, y], rfl, SqT.of h, rfl, x, [y], rfl, y, [], rfl, rfl, q⟩
/-! the same with K by name (for the blocks of comprehensions) -/
section
variable {X : Cx} {pos : Pos}
theorem pe_itk (K : PySem.W.Frag) {a b : Expr} {ta tb : TE} (ha : PE X a ta) (hb : PE X b tb) (hK : X.K = K := by rfl) (hs : PlainIx b := by exact fun _ _ => rfl) : PE X (.Subscript a b pos) (tOp (rIxT K) ta tb) := by
  subst hK
  exact pe_it ha hb hs
theorem pe_ilk (K : PySem.W.Frag) {a b : Expr} {ta tb : TE} (ha : PE X a ta) (hb : PE X b tb) (hK : X.K = K := by rfl) (hs : PlainIx b := by exact fun _ _ => rfl) : PE X (.Subscript a b pos) (tOp (rIxL K) ta tb) := by
  subst hK
  exact pe_il ha hb hs
theorem c_lenQk (K : PySem.W.Frag) (hK : X.K = K := by rfl) : CallR X (.builtin "len") (rLenQ K) := by
  subst hK
  exact c_lenQ
theorem c_isik (K : PySem.W.Frag) (hK : X.K = K := by rfl) : CallR X (.builtin "isinstance") (rIsi K) := by
  subst hK
  exact call_isi
theorem pi_tupk (K : PySem.W.Frag) {tg l : Expr} {tl : TE} (hl : PE X l tl) (hK : X.K = K := by rfl) : PI X tg l (iTup K tl) := by
  subst hK
  exact pi_tup hl
end
def rTix (K : PySem.W.Frag) : V → List V → Hp → VK → Prop := fun x xs H Q => ∃ p, ∃ ys : List Str, ∃ z j, x = .ref p ∧ xs = [.str z] ∧ SqT K H p (ys.map V.str) ∧ ys[j]? = some z ∧ (∀ m, m < j → ys[m]? ≠ some z) ∧ Q (.int (j : Nat)) H
theorem mt_tix {X : Cx} : MtR X "tuple.index" (rTix X.K) := mt_tup_index
theorem dI_T {a b : Int} (h : a = b) : decide (V.int a = V.int b) = true := decide_eq_true (by rw [h])
theorem dI_F {a b : Int} (h : a ≠ b) : decide (V.int a = V.int b) = false := decide_eq_false (fun z => h (V.int.inj z))
theorem dS_T {a b : List Nat} (h : a = b) : decide (V.str (S a) = V.str (S b)) = true := decide_eq_true (by rw [h])
theorem dS_F {a b : List Nat} (h : a ≠ b) : decide (V.str (S a) = V.str (S b)) = false := decide_eq_false (fun z => h (S_inj (V.str.inj z)))
theorem r_notInSg {c : Nat} {l : List Nat} {b : Bool} {H : Hp} {Q : VK} (h : decide (c ∈ l) = b) (q : Q (.bl (!b)) H) : rNotInSg (.str ⟨#[c]⟩) (.str (S l)) H Q := ⟨c, S l, rfl, rfl, by
  rw [show (S l).cps.toList = l from rfl, h]
  exact q⟩
theorem z0 : ("0" : Str) = S [48] := by decide +kernel
theorem z1 : ("1" : Str) = S [49] := by decide +kernel
theorem z10 : ("10" : Str) = S [49, 48] := by decide +kernel
theorem z01 : ("01" : Str) = S [48, 49] := by decide +kernel
theorem z100 : ("100" : Str) = S [49, 48, 48] := by decide +kernel
theorem z1100 : ("1100" : Str) = S [49, 49, 48, 48] := by decide +kernel
theorem zE : ("" : Str) = S [] := by decide +kernel
end K38
set_option Elab.async false
set_option linter.all false
set_option maxRecDepth 100000
set_option maxHeartbeats 4000000
namespace K38
open PySem PySem.Spec PyProof.Rows L2 He SX
/-! ### the walk's own steps -/
local macro_rules | `(tactic| walk_at "hp") => `(tactic| first
  | assumption
  | with_reducible exact upd_same
  | (refine Eq.trans (upd_ne (by first | assumption | exact Ne.symm (by assumption))) ?_; walk_at "hp"))
local macro_rules | `(tactic| walk_at "st") => `(tactic| with_reducible first
  | refine r_seq ?_ | refine r_asg ?_ | ((refine r_var (v := ?v) ?h ?_); (case h => with_unfolding_all exact rfl)) | refine r_c ?_ | refine r_op ?_ | refine r_cons ?_ | refine r_nil ?_ | refine r_gname ?_ | refine r_cb ?_ | refine r_call ?_
  | refine r_if ?_ | refine r_ret ?_ | refine r_test ?_ | refine r_bl ?_ | refine r_I0 ?_ | ((refine r_eq ?h ?_); (case h => with_unfolding_all exact rfl)) | ((refine r_ne ?h ?_); (case h => with_unfolding_all exact rfl))
  | refine r_T ?_ | refine r_F ?_ | refine r_nT ?_ | refine r_nF ?_ | refine r_not ?_ | refine r_and ?_ | refine r_or ?_ | refine r_B ?_ | refine r_next ?_ | refine r_drop ?_ | refine r_tup ?_ | refine r_lst ?_ | refine r_bm ?_ | refine r_bm0 ?_
  | refine r_chain ?_ | refine r_andV ?_ | refine r_notV ?_ | refine r_isN ?_ | refine r_notN ?_ | refine r_dget ?_ | refine r_din ?_ | refine r_dnotin ?_ | refine r_un ?_ | refine r_rU ?_ | refine r_gsub ?_
  | ((refine r_aug (x := ?x) ?h ?_); (case h => with_unfolding_all exact rfl)) | refine r_ipI ?_ | refine r_for ?_ | refine r_lc ?_ | refine r_iList ?_ | refine r_iTup ?_ | refine r_iStr ?_ | refine r_iRng1 ?_ | refine r_iRng2 ?_ | refine r_iEnum ?_ | ((refine r_wipe ?h ?_); (case h => with_unfolding_all exact rfl)) | refine r_yes ?_ | refine r_rng ?_ | refine r_part ?_ | refine r_nopart ?_ | refine r_exi ?_ | refine r_int1 ?_ | refine r_abs ?_ | refine r_m1 ?_ | refine r_trk ?_ | ((refine r_ixT0 (xs := ?xs) (v := ?v) ?h ?hv ?_); (case h => walk_at "hp"); (case hv => with_unfolding_all exact rfl)) | ((refine r_ixT1 (xs := ?xs) (v := ?v) ?h ?hv ?_); (case h => walk_at "hp"); (case hv => with_unfolding_all exact rfl)) | ((refine r_ixT2 (xs := ?xs) (v := ?v) ?h ?hv ?_); (case h => walk_at "hp"); (case hv => with_unfolding_all exact rfl)) | ((refine r_ixT3 (xs := ?xs) (v := ?v) ?h ?hv ?_); (case h => walk_at "hp"); (case hv => with_unfolding_all exact rfl)) | refine r_strv ?_)
local macro_rules | `(tactic| walk_at "go") => `(tactic| repeat walk_at "st")
local macro_rules | `(tactic| walk_at "dk") => `(tactic| first | refine r_isT (by decide +kernel) ?_ | refine r_isF (by decide +kernel) ?_)
local macro_rules | `(tactic| walk_at "gd") => `(tactic| repeat first | walk_at "st" | walk_at "dk")
section
variable {P : Program} {w : World} {K : PySem.W.Frag} {mg : Str → Option Value} {base : Heap}
/-! ### checked_trees, cons, number, list_of -/
def sp_checked_trees : Sp := fun vs H Q _ => ∃ l : List Nat, vs = [.str (S l)] ∧ l.length ≤ 200000 ∧ Q (.str (S l)) H
theorem checked_trees_ok (T : Txt w K mg) : Cal P w K mg base 1 "checked_trees" sp_checked_trees := by
  refine mkCal T.f_checked_trees T.g_checked_trees sc_checked_trees (fun _ _ _ _ _ _ us hl => match us, hl with | [_], _ => rfl) (fun vs H Q E h => ?_) (fun cdv A outer s H vs Q E hr h => ?_)
  · obtain ⟨l, rfl, _⟩ := h
    rfl
  · obtain ⟨l, rfl, hl, k⟩ := h
    refine ⟨_,
      (pss_cons (ps_if (pt_cmpR op_gt (pe_callB c_lenS (by rfl) T.n_len PySem.boot_len (pa_cons (pv 0) pa_nil)) (pe_csi rfl T.c_MOST_TREE) (nomark _)) 
          (pss_one ps_never) pss_nil)
      (pss_one (ps_ret (pv 0)))), ?_⟩
    walk_at "go"
    refine r_lenS (by omega) ?_
    walk_at "go"
    refine r_isF (decide_eq_false (by omega)) ?_
    walk_at "go"
    exact k
def sp_cons : Sp := fun vs H Q _ => ∃ a b : Tr, vs = [.str (S a.enc), .str (S b.enc)] ∧ a.sz + b.sz < 200000 ∧ Q (.str (S (Tr.nd a b).enc)) H
theorem cons_ok (T : Txt w K mg) : Cal P w K mg base 2 "cons" sp_cons := by
  refine mkCal T.f_cons T.g_cons sc_cons (fun _ _ _ _ _ _ us hl => match us, hl with | [_, _], _ => rfl) (fun vs H Q E h => ?_) (fun cdv A outer s H vs Q E hr h => ?_)
  · obtain ⟨a, b, rfl, _⟩ := h
    rfl
  · obtain ⟨a, b, rfl, hl, k⟩ := h
    refine ⟨_,
      (pss_one (ps_ret (pe_c (checked_trees_ok T) hr (by decide) rfl (pa_cons (pe_op o_addS (pe_op o_addS pe_str (pv 0)) (pv 1)) pa_nil)))), ?_⟩
    have h1 := a.len
    have h2 := b.len
    rw [z1]
    walk_at "go"
    refine r_addS (by simp; omega) ?_
    walk_at "go"
    refine r_addS (by simp; omega) ?_
    walk_at "go"
    refine ⟨_, rfl, ?_, ?_⟩
    · simp
      omega
    · exact k
theorem r_mul2 {H : Hp} {Q : VK} {a b : Int} (h : -(2 ^ 64) < a ∧ a < 2 ^ 64) (q : Q (.int (a * b)) H) : rI CMul (fun i j => .int (i * j)) (.int a) (.int b) H Q := ⟨a, b, rfl, rfl, .inl h, q⟩
theorem r_mulS {H : Hp} {Q : VK} {l : List Nat} {k : Nat} (h : l.length * k ≤ 1000000) (h2 : k ≤ 1000000) (q : Q (.str (S (List.replicate k l).flatten)) H) : rMulS (.str (S l)) (.int (k : Int)) H Q := ⟨l, k, rfl, rfl, h, h2, q⟩
def sp_number : Sp := fun vs H Q _ => ∃ n : Nat, vs = [.int n] ∧ 2 * n < 200000 ∧ Q (.str (S (num n).enc)) H
theorem number_ok (T : Txt w K mg) : Cal P w K mg base 1 "number" sp_number := by
  refine mkCal T.f_number T.g_number sc_number (fun _ _ _ _ _ _ us hl => match us, hl with | [_], _ => rfl) (fun vs H Q E h => ?_) (fun cdv A outer s H vs Q E hr h => ?_)
  · obtain ⟨n, rfl, _⟩ := h
    rfl
  · obtain ⟨n, rfl, hl, k⟩ := h
    refine ⟨_,
      (pss_cons (ps_if (pt_cmpR op_gt (pe_op op_add (pe_op op_mul pe_int (pv 0)) pe_int) (pe_csi rfl T.c_MOST_TREE) (nomark _)) 
          (pss_one ps_never) pss_nil)
      (pss_one (ps_ret (pe_op o_addS (pe_op op_mul_str pe_str (pv 0)) (pe_css rfl T.c_LEAF))))), ?_⟩
    rw [z10, z0]
    walk_at "go"
    refine r_mul2 (by decide) ?_
    walk_at "go"
    refine r_isF (decide_eq_false (by omega)) ?_
    walk_at "go"
    refine r_mulS (by simp; omega) (by omega) ?_
    walk_at "go"
    have e : (List.replicate n [49, 48]).flatten.length = 2 * n := by simp [Nat.mul_comm]
    refine r_addS (by rw [e]; simp; omega) ?_
    rw [← num_enc]
    exact k
def sp_list_of : Sp := fun vs H Q _ => ∃ (a : Addr) (ts : List Tr), vs = [.ref a] ∧ H a = some (.lst (ts.map fun t => .str (S t.enc))) ∧ (lst ts).sz ≤ 200000 ∧ ∀ H', Same H H' → Q (.str (S (lst ts).enc)) H'
theorem sum_ge {ts : List Tr} {t : Tr} (h : t ∈ ts) : t.sz + 1 ≤ (ts.map fun t => t.sz + 1).sum := by
  induction ts with
  | nil => cases h
  | cons x xs ih =>
    rw [List.map_cons, List.sum_cons]
    rcases List.mem_cons.mp h with e | h
    · subst e
      omega
    · have := ih h
      omega
theorem len_le {ts : List Tr} : ts.length ≤ (ts.map fun t => t.sz + 1).sum := by
  induction ts with
  | nil => simp
  | cons x xs ih =>
    rw [List.map_cons, List.sum_cons, List.length_cons]
    have := x.pos
    omega
theorem joinL_nil : ∀ ys : List (List Nat), TL.joinL [] ys = ys.flatten
  | [] => rfl
  | [y] => by simp [TL.joinL]
  | y :: z :: r => by
    have := joinL_nil (z :: r)
    simp [TL.joinL] at this ⊢
    rw [this]
theorem list_of_ok (T : Txt w K mg) : Cal P w K mg base 2 "list_of" sp_list_of := by
  refine mkCal T.f_list_of T.g_list_of sc_list_of (fun _ _ _ _ _ _ us hl => match us, hl with | [_], _ => rfl) (fun vs H Q E h => ?_) (fun cdv A outer s H vs Q E hr h => ?_)
  · obtain ⟨a, ts, rfl, _⟩ := h
    rfl
  · obtain ⟨a, ts, rfl, ha, hz, k⟩ := h
    rw [lst_sz] at hz
    refine ⟨_,
      (pss_one (ps_ret (pe_c (checked_trees_ok T) hr (by decide) rfl (pa_cons (pe_op o_addS (pe_jn pe_str (pe_lc (own := [(("tree" : Str), 1)]) (by rfl) sc_list_of.nd (pi_list (pv 0)) (blkOk_by (own := [(("tree" : Str), 1)]) (N := names_list_of) (sc := defScope s_list_of) (by decide +kernel)) (fun _ _ _ _ _ => (pg_nm 1 sc_list_of.nd)) (fun _ _ _ _ _ => pts_nil) (fun _ _ _ _ _ => (pe_op o_addS pe_str (pv 1))))) (pe_css rfl T.c_LEAF)) pa_nil)))), ?_⟩
    rw [z1, z0, zE]
    walk_at "go"
    refine ⟨a, rfl, ⟨_, SqL.of ha⟩, fun D hD => lc_it (walk_list (xs := ts.map fun t => V.str (S t.enc))) (fun i H' => Same H H' ∧ H' D = some (.lst ((ts.take i).map fun t => V.str (S (49 :: t.enc))))) ⟨same_new hD, upd_same⟩ (fun i H' _ h => SqL.of (h.1 _ _ ha)) ?_ ?_⟩
    · rintro i x H1 H' hi ⟨hs, hd⟩ ⟨rfl, hx⟩
      rw [List.length_map] at hi
      rw [List.getElem?_map, List.getElem?_eq_getElem hi] at hx
      obtain rfl := Option.some.inj hx
      have ht := sum_ge (List.getElem_mem hi)
      have hl := (ts[i]).len
      walk_at "go"
      refine r_addS (by simp; omega) ?_
      refine ⟨_, hd, ?_, same_mut hs hD, ?_⟩
      · rw [List.length_map, List.length_take]
        have := len_le (ts := ts)
        exact Nat.lt_of_le_of_lt (Nat.min_le_right _ _) (Nat.lt_of_lt_of_le (show ts.length < 1000000 by omega) (by decide))
      · rw [upd_same, List.take_add_one, List.getElem?_eq_getElem hi, List.map_append]
        rfl
    · rintro H' ⟨hs, hd⟩
      rw [List.length_map, List.take_length] at hd
      refine ⟨_, D, ts.map fun t => S (49 :: t.enc), rfl, rfl, .inl (SqL.of (by rw [List.map_map]; exact hd)), ?_, ?_⟩
      · rw [List.map_map, S_len, show (([] : List Nat).length) = 0 from rfl, Nat.mul_zero, Nat.add_zero]
        have e : (ts.map ((fun x : Str => x.length) ∘ fun t => S (49 :: t.enc))) = ts.map fun t => t.sz + 1 := List.map_congr_left fun t _ => by
          show (S (49 :: t.enc)).length = _
          rw [S_len, List.length_cons, t.len]
        rw [e]
        omega
      · rw [show (ts.map fun t => S (49 :: t.enc)) = (ts.map fun t => 49 :: t.enc).map S by rw [List.map_map]; rfl, join_S, joinL_nil]
        have e2 : (ts.map fun t => 49 :: t.enc).flatten.length = (ts.map fun t => t.sz + 1).sum := by
          rw [List.length_flatten, List.map_map]
          refine congrArg List.sum (List.map_congr_left fun t _ => ?_)
          show (49 :: t.enc).length = _
          rw [List.length_cons, t.len]
        walk_at "go"
        refine r_addS (by rw [e2]; simp; omega) ?_
        walk_at "go"
        rw [← lst_enc]
        refine ⟨_, rfl, ?_, ?_⟩
        · rw [(lst ts).len, lst_sz]
          exact hz
        · exact k _ hs
/-! ### isinstance -/
section
variable {H : Hp} {Q : VK} {p : Addr} {xs : List V}
theorem r_isi {x : V} {a b : String} {r : Bool} (ty : TyOf K H x (.type a)) (h : kitB a b = some r) (q : Q (.bl r) H) : rIsi K [x, .ty b] H Q := ⟨x, .ty b, .type a, .type b, r, rfl, .ty b, .base ty, kit_ty h, q⟩
theorem isi_ss {z : Str} (q : Q (.bl true) H) : rIsi K [.str z, .ty "str"] H Q := r_isi (a := "str") (.str _) (by decide +kernel) q
theorem isi_ii {z : Int} (q : Q (.bl true) H) : rIsi K [.int z, .ty "int"] H Q := r_isi (a := "int") (.int _) (by decide +kernel) q
theorem isi_ib {z : Int} (q : Q (.bl false) H) : rIsi K [.int z, .ty "bool"] H Q := r_isi (a := "int") (.int _) (by decide +kernel) q
theorem isi_tt (h : H p = some (.tup xs)) (q : Q (.bl true) H) : rIsi K [.ref p, .ty "tuple"] H Q := r_isi (a := "tuple") (.tup h) (by decide +kernel) q
theorem isi_ll (h : H p = some (.lst xs)) (q : Q (.bl true) H) : rIsi K [.ref p, .ty "list"] H Q := r_isi (a := "list") (.lst h) (by decide +kernel) q
end
/-! ### is_tree -/
def miss : List Nat → Int → Int
  | [], m => m
  | c :: l, m => miss l (if c = 49 then m + 1 else m - 1)
theorem miss_app : ∀ (a b : List Nat) (m : Int), miss (a ++ b) m = miss b (miss a m)
  | [], _, _ => rfl
  | c :: a, b, m => miss_app a b _
theorem miss_enc : ∀ (t : Tr) (m : Int), miss t.enc m = m - 1
  | .lf, m => rfl
  | .nd a b, m => by
    unfold Tr.enc
    show miss (a.enc ++ b.enc) (if (49 : Nat) = 49 then m + 1 else m - 1) = _
    rw [if_pos rfl, miss_app, miss_enc a, miss_enc b]
    omega
theorem miss_pre : ∀ (t : Tr) (m : Int) (i : Nat), i < t.enc.length → m ≤ miss (t.enc.take i) m
  | .lf, m, 0, _ => Int.le_refl _
  | .lf, m, i + 1, h => by simp [Tr.enc] at h
  | .nd a b, m, 0, _ => Int.le_refl _
  | .nd a b, m, i + 1, h => by
    unfold Tr.enc at h ⊢
    show m ≤ miss ((a.enc ++ b.enc).take i) (if (49 : Nat) = 49 then m + 1 else m - 1)
    rw [if_pos rfl, List.take_append]
    by_cases hi : i < a.enc.length
    · have e : b.enc.take (i - a.enc.length) = [] := by rw [show i - a.enc.length = 0 by omega]; rfl
      rw [e, List.append_nil]
      have := miss_pre a (m + 1) i hi
      omega
    · rw [List.take_of_length_le (by omega : a.enc.length ≤ i), miss_app, miss_enc]
      have := miss_pre b (m + 1 - 1) (i - a.enc.length) (by simp at h; omega)
      omega
theorem enc_01 : ∀ (t : Tr) (c : Nat), c ∈ t.enc → c = 48 ∨ c = 49
  | .lf, c, h => by
    simp [Tr.enc] at h
    exact .inl h
  | .nd a b, c, h => by
    unfold Tr.enc at h
    rcases List.mem_cons.mp h with h | h
    · exact .inr h
    · rcases List.mem_append.mp h with h | h
      · exact enc_01 a c h
      · exact enc_01 b c h
def sp_is_tree : Sp := fun vs H Q _ => ∃ t : Tr, vs = [.str (S t.enc)] ∧ t.sz ≤ 200000 ∧ Q (.bl true) H
theorem is_tree_ok (T : Txt w K mg) : Cal P w K mg base 1 "is_tree" sp_is_tree := by
  refine mkCal T.f_is_tree T.g_is_tree sc_is_tree (fun _ _ _ _ _ _ us hl => match us, hl with | [_], _ => rfl) (fun vs H Q E h => ?_) (fun cdv A outer s H vs Q E hr h => ?_)
  · obtain ⟨t, rfl, _⟩ := h
    rfl
  · obtain ⟨t, rfl, hz, k⟩ := h
    refine ⟨_,
      (pss_cons (ps_if (PW.pt (pw_or (pt_not (pt_val (pe_callB call_isi (by rfl) T.n_isinstance (by decide +kernel) (pa_cons (pv 0) (pa_cons (pe_bltn (v := .ty "str") (by rfl) T.n_str (by decide +kernel) rfl) pa_nil))))) (pw_or1 (pt_cmpR op_gt (pe_callB c_lenS (by rfl) T.n_len PySem.boot_len (pa_cons (pv 0) pa_nil)) (pe_csi rfl T.c_MOST_TREE) (nomark _))))) 
          (pss_one (ps_ret pe_bl)) pss_nil)
      (pss_cons (ps_st 1 sc_is_tree.nd pe_int)
      (pss_cons (ps_for PassesOwn.never rfl (pi_str (pv 0)) (pg_nm 2 sc_is_tree.nd) 
          (pss_cons (ps_if (PW.pt (pw_or (pt_cmpR op_eq (pv 1) pe_int (nomark _)) (pw_or1 (pt_cmpR o_notInSg (pv 2) pe_str (by rfl))))) 
              (pss_one (ps_ret pe_bl)) pss_nil)
          (pss_one (ps_if (pt_cmpR op_eq (pv 2) pe_str (nomark _)) 
              (pss_one (ps_aug (i := 1) sc_is_tree.nd rfl (.inl rfl) pe_int ip_add)) 
              (pss_one (ps_aug (i := 1) sc_is_tree.nd rfl (.inl rfl) pe_int ip_sub))))))
      (pss_one (ps_ret (pe_cmpR op_eq (pv 1) pe_int (nomark _))))))), ?_⟩
    have hl := t.len
    rw [z1, z01]
    walk_at "go"
    refine isi_ss ?_
    walk_at "go"
    refine r_lenS (by omega) ?_
    walk_at "go"
    refine r_isF (decide_eq_false (by omega)) ?_
    walk_at "go"
    refine ⟨_, rfl, for_it walk_str (fun i σ H' => H' = H ∧ ∃ x, σ = [some (.str (S t.enc)), some (.int (miss (t.enc.take i) 1)), x]) ⟨rfl, _, rfl⟩ (fun _ _ _ _ _ => trivial) ?_ ?_⟩
    · rintro i x σ H1 H2 hi ⟨rfl, y, rfl⟩ ⟨rfl, c, hc, rfl⟩
      have hi' : i < t.enc.length := hi
      have hc' : t.enc[i]? = some c := by
        rw [show (S t.enc).cps = t.enc.toArray from rfl] at hc
        simpa using hc
      have hp := miss_pre t 1 i hi'
      have hcm : c ∈ t.enc := List.mem_of_getElem? hc'
      have hc01 := enc_01 t c hcm
      have e1 : t.enc.take (i + 1) = t.enc.take i ++ [c] := by rw [List.take_add_one, hc']; rfl
      walk_at "go"
      refine r_isF (dI_F (by omega)) ?_
      walk_at "go"
      rcases hc01 with rfl | rfl
      · refine r_notInSg (b := true) (by decide) ?_
        walk_at "gd"
        refine ⟨rfl, some (.str ⟨#[48]⟩), ?_⟩
        rw [e1, miss_app]
        rfl
      · refine r_notInSg (b := true) (by decide) ?_
        walk_at "gd"
        refine ⟨rfl, some (.str ⟨#[49]⟩), ?_⟩
        rw [e1, miss_app]
        rfl
    · rintro σ H1 ⟨rfl, y, rfl⟩
      rw [show (S t.enc).cps.size = t.enc.length from rfl, List.take_length, miss_enc]
      walk_at "go"
      exact k
end
end K38
set_option Elab.async false
set_option linter.all false
set_option maxRecDepth 100000
set_option maxHeartbeats 4000000
namespace K38
open PySem PySem.Spec PyProof.Rows L2 He SX
/-! ### the walk's own steps -/
local macro_rules | `(tactic| walk_at "hp") => `(tactic| first
  | assumption
  | with_reducible exact upd_same
  | (refine Eq.trans (upd_ne (by first | assumption | exact Ne.symm (by assumption))) ?_; walk_at "hp"))
local macro_rules | `(tactic| walk_at "st") => `(tactic| with_reducible first
  | refine r_seq ?_ | refine r_asg ?_ | ((refine r_var (v := ?v) ?h ?_); (case h => with_unfolding_all exact rfl)) | refine r_c ?_ | refine r_op ?_ | refine r_cons ?_ | refine r_nil ?_ | refine r_gname ?_ | refine r_cb ?_ | refine r_call ?_
  | refine r_if ?_ | refine r_ret ?_ | refine r_test ?_ | refine r_bl ?_ | refine r_I0 ?_ | ((refine r_eq ?h ?_); (case h => with_unfolding_all exact rfl)) | ((refine r_ne ?h ?_); (case h => with_unfolding_all exact rfl))
  | refine r_T ?_ | refine r_F ?_ | refine r_nT ?_ | refine r_nF ?_ | refine r_not ?_ | refine r_and ?_ | refine r_or ?_ | refine r_B ?_ | refine r_next ?_ | refine r_drop ?_ | refine r_tup ?_ | refine r_lst ?_ | refine r_bm ?_ | refine r_bm0 ?_
  | refine r_chain ?_ | refine r_andV ?_ | refine r_notV ?_ | refine r_isN ?_ | refine r_notN ?_ | refine r_dget ?_ | refine r_din ?_ | refine r_dnotin ?_ | refine r_un ?_ | refine r_rU ?_ | refine r_gsub ?_
  | ((refine r_aug (x := ?x) ?h ?_); (case h => with_unfolding_all exact rfl)) | refine r_ipI ?_ | refine r_for ?_ | refine r_lc ?_ | refine r_iList ?_ | refine r_iTup ?_ | refine r_iStr ?_ | refine r_iRng1 ?_ | refine r_iRng2 ?_ | refine r_iEnum ?_ | ((refine r_wipe ?h ?_); (case h => with_unfolding_all exact rfl)) | refine r_yes ?_ | refine r_rng ?_ | refine r_part ?_ | refine r_nopart ?_ | refine r_exi ?_ | refine r_int1 ?_ | refine r_abs ?_ | refine r_m1 ?_ | refine r_trk ?_ | ((refine r_ixT0 (xs := ?xs) (v := ?v) ?h ?hv ?_); (case h => walk_at "hp"); (case hv => with_unfolding_all exact rfl)) | ((refine r_ixT1 (xs := ?xs) (v := ?v) ?h ?hv ?_); (case h => walk_at "hp"); (case hv => with_unfolding_all exact rfl)) | ((refine r_ixT2 (xs := ?xs) (v := ?v) ?h ?hv ?_); (case h => walk_at "hp"); (case hv => with_unfolding_all exact rfl)) | ((refine r_ixT3 (xs := ?xs) (v := ?v) ?h ?hv ?_); (case h => walk_at "hp"); (case hv => with_unfolding_all exact rfl)) | refine r_strv ?_)
local macro_rules | `(tactic| walk_at "go") => `(tactic| repeat walk_at "st")
local macro_rules | `(tactic| walk_at "dk") => `(tactic| first | refine r_isT (by decide +kernel) ?_ | refine r_isF (by decide +kernel) ?_)
local macro_rules | `(tactic| walk_at "gd") => `(tactic| repeat first | walk_at "st" | walk_at "dk")
section
variable {P : Program} {w : World} {K : PySem.W.Frag} {mg : Str → Option Value} {base : Heap}
/-! ### is_whole -/
def sp_is_whole : Sp := fun vs H Q _ => ∃ n : Int, vs = [.int n] ∧ Q (.bl true) H
theorem is_whole_ok (T : Txt w K mg) : Cal P w K mg base 1 "is_whole" sp_is_whole := by
  refine mkCal T.f_is_whole T.g_is_whole sc_is_whole (fun _ _ _ _ _ _ us hl => match us, hl with | [_], _ => rfl) (fun vs H Q E h => ?_) (fun cdv A outer s H vs Q E hr h => ?_)
  · obtain ⟨t, rfl, _⟩ := h
    rfl
  · obtain ⟨t, rfl, k⟩ := h
    refine ⟨_,
      (pss_one (ps_ret (pe_and (pe_callB call_isi (by rfl) T.n_isinstance (by decide +kernel) (pa_cons (pv 0) (pa_cons (pe_bltn (v := .ty "int") (by rfl) T.n_int (by decide +kernel) rfl) pa_nil))) (pe_one (pe_not (pe_callB call_isi (by rfl) T.n_isinstance (by decide +kernel) (pa_cons (pv 0) (pa_cons (pe_bltn (v := .ty "bool") (by rfl) T.n_bool (by decide +kernel) rfl) pa_nil)))))))), ?_⟩
    walk_at "go"
    refine isi_ii ?_
    walk_at "go"
    refine isi_ib ?_
    walk_at "go"
    exact k
/-! ### is_instruction -/
def Row.word : Row → Str
  | .set _ _ => "set"
  | .move _ _ => "move"
  | .cons _ _ _ => "cons"
  | .head _ _ => "head"
  | .tail _ _ => "tail"
  | .jump _ _ => "jump"
def Row.rest : Row → List V
  | .set a t => [.int a, .str (S t.enc)]
  | .move a b => [.int a, .int b]
  | .cons a b c => [.int a, .int b, .int c]
  | .head a b => [.int a, .int b]
  | .tail a b => [.int a, .int b]
  | .jump a n => [.int a, .int n]
def Row.mid : Row → List V
  | .set a _ => [.int a]
  | r => r.rest
theorem vals_eq (r : Row) : r.vals = .str r.word :: r.rest := by cases r <;> rfl
def wordsV : List V := [.str "set", .str "move", .str "cons", .str "head", .str "tail", .str "jump"]
theorem word_in (r : Row) : (if true = true then !inV (.str r.word) wordsV else inV (.str r.word) wordsV) = false := by
  cases r with
  | set a t => exact (show (if true = true then !inV (.str "set") wordsV else inV (.str "set") wordsV) = false by decide +kernel)
  | move a b => exact (show (if true = true then !inV (.str "move") wordsV else inV (.str "move") wordsV) = false by decide +kernel)
  | cons a b c => exact (show (if true = true then !inV (.str "cons") wordsV else inV (.str "cons") wordsV) = false by decide +kernel)
  | head a b => exact (show (if true = true then !inV (.str "head") wordsV else inV (.str "head") wordsV) = false by decide +kernel)
  | tail a b => exact (show (if true = true then !inV (.str "tail") wordsV else inV (.str "tail") wordsV) = false by decide +kernel)
  | jump a n => exact (show (if true = true then !inV (.str "jump") wordsV else inV (.str "jump") wordsV) = false by decide +kernel)
theorem Txt.parts (T : Txt w K mg) (r : Row) : KDct K w (ga K "PARTS") r.word (.int r.vals.length) := by
  cases r
  · exact T.p_set
  · exact T.p_move
  · exact T.p_cons
  · exact T.p_head
  · exact T.p_tail
  · exact T.p_jump
def Row.is_set : Row → Bool
  | .set _ _ => true
  | _ => false
theorem dw_set (r : Row) : decide (V.str r.word = V.str "set") = r.is_set := by
  cases r with
  | set a t => exact (show decide (V.str "set" = V.str "set") = true by decide +kernel)
  | move a b => exact (show decide (V.str "move" = V.str "set") = false by decide +kernel)
  | cons a b c => exact (show decide (V.str "cons" = V.str "set") = false by decide +kernel)
  | head a b => exact (show decide (V.str "head" = V.str "set") = false by decide +kernel)
  | tail a b => exact (show decide (V.str "tail" = V.str "set") = false by decide +kernel)
  | jump a n => exact (show decide (V.str "jump" = V.str "set") = false by decide +kernel)
def Row.is_move : Row → Bool
  | .move _ _ => true
  | _ => false
theorem dw_move (r : Row) : decide (V.str r.word = V.str "move") = r.is_move := by
  cases r with
  | set a t => exact (show decide (V.str "set" = V.str "move") = false by decide +kernel)
  | move a b => exact (show decide (V.str "move" = V.str "move") = true by decide +kernel)
  | cons a b c => exact (show decide (V.str "cons" = V.str "move") = false by decide +kernel)
  | head a b => exact (show decide (V.str "head" = V.str "move") = false by decide +kernel)
  | tail a b => exact (show decide (V.str "tail" = V.str "move") = false by decide +kernel)
  | jump a n => exact (show decide (V.str "jump" = V.str "move") = false by decide +kernel)
def Row.is_cons : Row → Bool
  | .cons _ _ _ => true
  | _ => false
theorem dw_cons (r : Row) : decide (V.str r.word = V.str "cons") = r.is_cons := by
  cases r with
  | set a t => exact (show decide (V.str "set" = V.str "cons") = false by decide +kernel)
  | move a b => exact (show decide (V.str "move" = V.str "cons") = false by decide +kernel)
  | cons a b c => exact (show decide (V.str "cons" = V.str "cons") = true by decide +kernel)
  | head a b => exact (show decide (V.str "head" = V.str "cons") = false by decide +kernel)
  | tail a b => exact (show decide (V.str "tail" = V.str "cons") = false by decide +kernel)
  | jump a n => exact (show decide (V.str "jump" = V.str "cons") = false by decide +kernel)
def Row.is_head : Row → Bool
  | .head _ _ => true
  | _ => false
theorem dw_head (r : Row) : decide (V.str r.word = V.str "head") = r.is_head := by
  cases r with
  | set a t => exact (show decide (V.str "set" = V.str "head") = false by decide +kernel)
  | move a b => exact (show decide (V.str "move" = V.str "head") = false by decide +kernel)
  | cons a b c => exact (show decide (V.str "cons" = V.str "head") = false by decide +kernel)
  | head a b => exact (show decide (V.str "head" = V.str "head") = true by decide +kernel)
  | tail a b => exact (show decide (V.str "tail" = V.str "head") = false by decide +kernel)
  | jump a n => exact (show decide (V.str "jump" = V.str "head") = false by decide +kernel)
def Row.is_tail : Row → Bool
  | .tail _ _ => true
  | _ => false
theorem dw_tail (r : Row) : decide (V.str r.word = V.str "tail") = r.is_tail := by
  cases r with
  | set a t => exact (show decide (V.str "set" = V.str "tail") = false by decide +kernel)
  | move a b => exact (show decide (V.str "move" = V.str "tail") = false by decide +kernel)
  | cons a b c => exact (show decide (V.str "cons" = V.str "tail") = false by decide +kernel)
  | head a b => exact (show decide (V.str "head" = V.str "tail") = false by decide +kernel)
  | tail a b => exact (show decide (V.str "tail" = V.str "tail") = true by decide +kernel)
  | jump a n => exact (show decide (V.str "jump" = V.str "tail") = false by decide +kernel)
def Row.is_jump : Row → Bool
  | .jump _ _ => true
  | _ => false
theorem dw_jump (r : Row) : decide (V.str r.word = V.str "jump") = r.is_jump := by
  cases r with
  | set a t => exact (show decide (V.str "set" = V.str "jump") = false by decide +kernel)
  | move a b => exact (show decide (V.str "move" = V.str "jump") = false by decide +kernel)
  | cons a b c => exact (show decide (V.str "cons" = V.str "jump") = false by decide +kernel)
  | head a b => exact (show decide (V.str "head" = V.str "jump") = false by decide +kernel)
  | tail a b => exact (show decide (V.str "tail" = V.str "jump") = false by decide +kernel)
  | jump a n => exact (show decide (V.str "jump" = V.str "jump") = true by decide +kernel)
def sp_is_instruction : Sp := fun vs H Q _ => ∃ (p : Addr) (r : Row) (i n : Nat), vs = [.ref p, .int i, .int n] ∧ H p = some (.tup r.vals) ∧ r.ok i n ∧ ∀ H', Same H H' → Q (.bl true) H'
theorem is_instruction_ok (T : Txt w K mg) : Cal P w K mg base 2 "is_instruction" sp_is_instruction := by
  refine mkCal T.f_is_instruction T.g_is_instruction sc_is_instruction (fun _ _ _ _ _ _ us hl => match us, hl with | [_, _, _], _ => rfl) (fun vs H Q E h => ?_) (fun cdv A outer s H vs Q E hr h => ?_)
  · obtain ⟨p, r, i, n, rfl, _⟩ := h
    rfl
  · obtain ⟨p, r, i, n, rfl, hp, hok, k⟩ := h
    refine ⟨_,
      (pss_cons (ps_if (PW.pt (pw_or (pt_not (pt_val (pe_callB call_isi (by rfl) T.n_isinstance (by decide +kernel) (pa_cons (pv 0) (pa_cons (pe_bltn (v := .ty "tuple") (by rfl) T.n_tuple (by decide +kernel) rfl) pa_nil))))) (pw_or (pt_not (pt_trk (pv 0))) (pw_or (pt_not (pt_val (pe_callB call_isi (by rfl) T.n_isinstance (by decide +kernel) (pa_cons (pe_it (pv 0) pe_int) (pa_cons (pe_bltn (v := .ty "str") (by rfl) T.n_str (by decide +kernel) rfl) pa_nil))))) (pw_or1 (pt_cmpR op_notIn_seq (pe_it (pv 0) pe_int) (pe_csr rfl T.c_WORDS) (by rfl))))))) 
          (pss_one (ps_ret pe_bl)) pss_nil)
      (pss_cons (ps_st 3 sc_is_instruction.nd (pe_it (pv 0) pe_int))
      (pss_cons (ps_if (pt_cmpR op_ne (pe_callB c_lenQ (by rfl) T.n_len PySem.boot_len (pa_cons (pv 0) pa_nil)) (pe_ix ix_kdict (pe_csr rfl T.c_PARTS) (pv 3) (fun _ _ => rfl)) (nomark _)) 
          (pss_one (ps_ret pe_bl)) pss_nil)
      (pss_cons (ps_st 4 sc_is_instruction.nd (pe_slice sl_tupA (pv 0) (po_some pe_int) po_none))
      (C8.pss_cut (ps_if (pt_cmpR op_eq (pv 3) pe_str (nomark _)) 
          (pss_cons (ps_if (pt_not (pt_val (pe_c (is_tree_ok T) hr (by decide) rfl (pa_cons (pe_it (pv 0) pe_int) pa_nil)))) 
              (pss_one (ps_ret pe_bl)) pss_nil)
          (pss_one (ps_st 4 sc_is_instruction.nd (pe_slice sl_tupA (pv 0) (po_some pe_int) (po_some pe_int))))) pss_nil)
      (C8.pss_cut (ps_if (pt_cmpR op_eq (pv 3) pe_str (nomark _)) 
          (pss_cons (ps_if (PW.pt (pw_or (pt_not (pt_val (pe_c (is_whole_ok T) hr (by decide) rfl (pa_cons (pe_it (pv 0) pe_int) pa_nil)))) (pw_or1 (pt_not (pt_chain op_le op_le pe_int (pe_op op_add (pv 1) (pe_it (pv 0) pe_int)) (pv 2)))))) 
              (pss_one (ps_ret pe_bl)) pss_nil)
          (pss_one (ps_st 4 sc_is_instruction.nd (pe_slice sl_tupA (pv 0) (po_some pe_int) (po_some pe_int))))) pss_nil)
      (pss_one (ps_ret (pe_callB (cr_all rfl) (by rfl) T.n_all (by decide +kernel) (pa_cons (pe_lc (own := [(("part" : Str), 5)]) (by rfl) sc_is_instruction.nd (pi_tup (pv 4)) (blkOk_by (own := [(("part" : Str), 5)]) (N := names_is_instruction) (sc := defScope s_is_instruction) (by decide +kernel)) (fun _ _ _ _ _ => (pg_nm 5 sc_is_instruction.nd)) (fun _ _ _ _ _ => pts_nil) (fun _ _ _ _ _ => (pe_and (pe_c (is_whole_ok T) hr (by decide) rfl (pa_cons (pv 5) pa_nil)) (pe_one (pe_chain op_le op_lt pe_int (pv 5) (pe_csi rfl T.c_REGISTERS)))))) pa_nil)))))))))), ?_⟩
    rw [vals_eq] at hp
    walk_at "go"
    refine isi_tt hp ?_
    walk_at "go"
    refine r_truT hp ?_
    walk_at "go"
    refine r_isF rfl ?_
    walk_at "go"
    refine isi_ss ?_
    walk_at "go"
    refine r_in (T.words _) rfl (by decide) (word_in r) ?_
    walk_at "go"
    refine r_lenT hp ?_
    walk_at "go"
    refine r_kd (T.parts r) ?_
    walk_at "go"
    refine r_isF (by rw [dI_T (by rw [vals_eq])]; rfl) ?_
    walk_at "go"
    refine r_sl1 hp fun l hl => ?_
    walk_at "go"
    have s1 : Same H (upd H l (.tup r.rest)) := same_new hl
    have e1 : (upd H l (.tup r.rest)) l = some (.tup r.rest) := upd_same
    generalize upd H l (.tup r.rest) = H1 at s1 e1
    have hp1 := s1 _ _ hp
    refine ⟨fun σ H' => Same H H' ∧ ∃ l, σ = [some (.ref p), some (.int i), some (.int n), some (.str r.word), some (.ref l), none] ∧ H' l = some (.tup r.mid), ?_, ?_⟩
    · cases r with
      | set a t =>
        walk_at "go"
        refine r_isT (dw_set (.set a t)) ?_
        walk_at "go"
        refine ⟨t, rfl, hok.2.1 a t rfl, ?_⟩
        walk_at "go"
        refine r_sl12 hp1 fun l2 hl2 => ?_
        walk_at "go"
        exact ⟨s1.trans (same_new hl2), l2, rfl, upd_same⟩
      | move a b =>
        walk_at "go"
        refine r_isF (dw_set (.move a b)) ?_
        walk_at "go"
        exact ⟨s1, l, rfl, e1⟩
      | cons a b c =>
        walk_at "go"
        refine r_isF (dw_set (.cons a b c)) ?_
        walk_at "go"
        exact ⟨s1, l, rfl, e1⟩
      | head a b =>
        walk_at "go"
        refine r_isF (dw_set (.head a b)) ?_
        walk_at "go"
        exact ⟨s1, l, rfl, e1⟩
      | tail a b =>
        walk_at "go"
        refine r_isF (dw_set (.tail a b)) ?_
        walk_at "go"
        exact ⟨s1, l, rfl, e1⟩
      | jump a n =>
        walk_at "go"
        refine r_isF (dw_set (.jump a n)) ?_
        walk_at "go"
        exact ⟨s1, l, rfl, e1⟩
    rintro σ H2 ⟨s2, l2, rfl, e2⟩
    have hp2 := s2 _ _ hp
    refine ⟨fun σ H' => Same H H' ∧ ∃ l, σ = [some (.ref p), some (.int i), some (.int n), some (.str r.word), some (.ref l), none] ∧ H' l = some (.tup (r.regs.map fun a : Nat => V.int (a : Int))), ?_, ?_⟩
    · cases r with
      | set a t =>
        walk_at "go"
        refine r_isF (dw_jump (.set a t)) ?_
        walk_at "go"
        exact ⟨s2, l2, rfl, e2⟩
      | move a b =>
        walk_at "go"
        refine r_isF (dw_jump (.move a b)) ?_
        walk_at "go"
        exact ⟨s2, l2, rfl, e2⟩
      | cons a b c =>
        walk_at "go"
        refine r_isF (dw_jump (.cons a b c)) ?_
        walk_at "go"
        exact ⟨s2, l2, rfl, e2⟩
      | head a b =>
        walk_at "go"
        refine r_isF (dw_jump (.head a b)) ?_
        walk_at "go"
        exact ⟨s2, l2, rfl, e2⟩
      | tail a b =>
        walk_at "go"
        refine r_isF (dw_jump (.tail a b)) ?_
        walk_at "go"
        exact ⟨s2, l2, rfl, e2⟩
      | jump a m =>
        have hj := hok.2.2 a m rfl
        walk_at "go"
        refine r_isT (dw_jump (.jump a m)) ?_
        walk_at "go"
        refine ⟨_, rfl, ?_⟩
        walk_at "go"
        refine r_isT (decide_eq_true hj.1) ?_
        walk_at "go"
        refine r_isF (by rw [decide_eq_true hj.2]; rfl) ?_
        walk_at "go"
        refine r_sl12 hp2 fun l3 hl3 => ?_
        walk_at "go"
        exact ⟨s2.trans (same_new hl3), l3, rfl, upd_same⟩
    rintro σ H3 ⟨s3, l3, rfl, e3⟩
    walk_at "go"
    have hlen : r.regs.length ≤ 3 := by cases r <;> simp [Row.regs]
    refine ⟨l3, rfl, ⟨_, SqT.of e3⟩, fun D hD => lc_it (walk_tup (xs := r.regs.map fun a : Nat => V.int (a : Int))) (fun i H' => Same H H' ∧ H' l3 = some (.tup (r.regs.map fun a : Nat => V.int (a : Int))) ∧ H' D = some (.lst ((List.replicate i true).map V.bl))) ⟨s3.trans (same_new hD), same_new hD _ _ e3, upd_same⟩ (fun i H' _ h => SqT.of h.2.1) ?_ ?_⟩
    · rintro i x H1 H' hi ⟨hs, ht, hd⟩ ⟨rfl, hx⟩
      rw [List.length_map] at hi
      rw [List.getElem?_map, List.getElem?_eq_getElem hi] at hx
      obtain rfl := Option.some.inj hx
      have hr20 := hok.1 _ (List.getElem_mem hi)
      walk_at "go"
      refine ⟨_, rfl, ?_⟩
      walk_at "go"
      refine r_isT (decide_eq_true (by omega)) ?_
      walk_at "go"
      have hne : l3 ≠ D := ne_of ht hd (by intro z; cases z)
      refine ⟨_, hd, ?_, same_mut hs (Same.free s3 hD), by rw [upd_ne hne]; exact ht, ?_⟩
      · rw [List.length_map, List.length_replicate]
        exact Nat.lt_of_lt_of_le (show i < 1000000 by omega) (by decide)
      · rw [upd_same, List.replicate_succ', List.map_append, decide_eq_true (show ((r.regs[i] : Nat) : Int) < 20 by omega)]
        rfl
    · rintro H' ⟨hs, ht, hd⟩
      walk_at "go"
      refine ⟨D, _, rfl, SqL.of hd, ?_⟩
      rw [show ((List.replicate (r.regs.map fun a : Nat => V.int (a : Int)).length true).all id) = true by simp]
      exact k _ hs
end
end K38
set_option Elab.async false
set_option linter.all false
set_option maxRecDepth 100000
set_option maxHeartbeats 4000000
namespace K38
open PySem PySem.Spec PyProof.Rows L2 He SX
/-! ### the walk's own steps -/
local macro_rules | `(tactic| walk_at "hp") => `(tactic| first
  | assumption
  | with_reducible exact upd_same
  | (refine Eq.trans (upd_ne (by first | assumption | exact Ne.symm (by assumption))) ?_; walk_at "hp"))
local macro_rules | `(tactic| walk_at "st") => `(tactic| with_reducible first
  | refine r_seq ?_ | refine r_asg ?_ | ((refine r_var (v := ?v) ?h ?_); (case h => with_unfolding_all exact rfl)) | refine r_c ?_ | refine r_op ?_ | refine r_cons ?_ | refine r_nil ?_ | refine r_gname ?_ | refine r_cb ?_ | refine r_call ?_
  | refine r_if ?_ | refine r_ret ?_ | refine r_test ?_ | refine r_bl ?_ | refine r_I0 ?_ | ((refine r_eq ?h ?_); (case h => with_unfolding_all exact rfl)) | ((refine r_ne ?h ?_); (case h => with_unfolding_all exact rfl))
  | refine r_T ?_ | refine r_F ?_ | refine r_nT ?_ | refine r_nF ?_ | refine r_not ?_ | refine r_and ?_ | refine r_or ?_ | refine r_B ?_ | refine r_next ?_ | refine r_drop ?_ | refine r_tup ?_ | refine r_lst ?_ | refine r_bm ?_ | refine r_bm0 ?_
  | refine r_chain ?_ | refine r_andV ?_ | refine r_notV ?_ | refine r_isN ?_ | refine r_notN ?_ | refine r_dget ?_ | refine r_din ?_ | refine r_dnotin ?_ | refine r_un ?_ | refine r_rU ?_ | refine r_gsub ?_
  | ((refine r_aug (x := ?x) ?h ?_); (case h => with_unfolding_all exact rfl)) | refine r_ipI ?_ | refine r_for ?_ | refine r_lc ?_ | refine r_iList ?_ | refine r_iTup ?_ | refine r_iStr ?_ | refine r_iRng1 ?_ | refine r_iRng2 ?_ | refine r_iEnum ?_ | ((refine r_wipe ?h ?_); (case h => with_unfolding_all exact rfl)) | refine r_yes ?_ | refine r_rng ?_ | refine r_part ?_ | refine r_nopart ?_ | refine r_exi ?_ | refine r_int1 ?_ | refine r_abs ?_ | refine r_m1 ?_ | refine r_trk ?_ | ((refine r_ixT0 (xs := ?xs) (v := ?v) ?h ?hv ?_); (case h => walk_at "hp"); (case hv => with_unfolding_all exact rfl)) | ((refine r_ixT1 (xs := ?xs) (v := ?v) ?h ?hv ?_); (case h => walk_at "hp"); (case hv => with_unfolding_all exact rfl)) | ((refine r_ixT2 (xs := ?xs) (v := ?v) ?h ?hv ?_); (case h => walk_at "hp"); (case hv => with_unfolding_all exact rfl)) | ((refine r_ixT3 (xs := ?xs) (v := ?v) ?h ?hv ?_); (case h => walk_at "hp"); (case hv => with_unfolding_all exact rfl)) | refine r_strv ?_)
local macro_rules | `(tactic| walk_at "go") => `(tactic| repeat walk_at "st")
local macro_rules | `(tactic| walk_at "dk") => `(tactic| first | refine r_isT (by decide +kernel) ?_ | refine r_isF (by decide +kernel) ?_)
local macro_rules | `(tactic| walk_at "gd") => `(tactic| repeat first | walk_at "st" | walk_at "dk")
section
variable {P : Program} {w : World} {K : PySem.W.Frag} {mg : Str → Option Value} {base : Heap}
/-! ### is_program -/
def Row.sz? : Row → Option Int
  | .set _ t => some (t.sz : Int)
  | _ => none
theorem sz_sum : ∀ rs : List Row, (rs.filterMap Row.sz?).sum = ((rs.map Row.tsz).sum : Int)
  | [] => rfl
  | r :: rs => by
    have ih := sz_sum rs
    cases r with
    | set a t =>
      rw [List.filterMap_cons, List.map_cons, List.sum_cons]
      show ((t.sz : Int) :: rs.filterMap Row.sz?).sum = _
      rw [List.sum_cons, ih]
      show (t.sz : Int) + ((rs.map Row.tsz).sum : Nat) = ((t.sz + (rs.map Row.tsz).sum : Nat) : Int)
      omega
    | _ =>
      rw [List.filterMap_cons, List.map_cons, List.sum_cons]
      show (rs.filterMap Row.sz?).sum = _
      rw [ih]
      show ((rs.map Row.tsz).sum : Int) = ((0 + (rs.map Row.tsz).sum : Nat) : Int)
      omega
def sp_is_program : Sp := fun vs H Q _ => ∃ (M : List Addr) (a : Addr) (rs : List Row), vs = [.ref a] ∧ PrAt M H a rs ∧ Ok rs ∧ ∀ H', Same H H' → Q (.bl true) H'
theorem is_program_ok (T : Txt w K mg) : Cal P w K mg base 3 "is_program" sp_is_program := by
  refine mkCal T.f_is_program T.g_is_program sc_is_program (fun _ _ _ _ _ _ us hl => match us, hl with | [_], _ => rfl) (fun vs H Q E h => ?_) (fun cdv A outer s H vs Q E hr h => ?_)
  · obtain ⟨M, a, rs, rfl, _⟩ := h
    rfl
  · obtain ⟨M, a, rs, rfl, ⟨hM, us, ha, hu⟩, ok, k⟩ := h
    refine ⟨_,
      (pss_cons (ps_if (PW.pt (pw_or (pt_not (pt_val (pe_callB call_isi (by rfl) T.n_isinstance (by decide +kernel) (pa_cons (pv 0) (pa_cons (pe_bltn (v := .ty "list") (by rfl) T.n_list (by decide +kernel) rfl) pa_nil))))) (pw_or1 (pt_cmpR op_gt (pe_callB c_lenQ (by rfl) T.n_len PySem.boot_len (pa_cons (pv 0) pa_nil)) (pe_csi rfl T.c_MOST_CODE) (nomark _))))) 
          (pss_one (ps_ret pe_bl)) pss_nil)
      (pss_cons (ps_if (pt_not (pt_val (pe_callB (cr_all rfl) (by rfl) T.n_all (by decide +kernel) (pa_cons (pe_lc (own := [(("at" : Str), 1), (("row" : Str), 2)]) (g := gTup K 2 (gCons (gName 1) (gCons (gName 2) gNil))) (by rfl) sc_is_program.nd (pi_enum (by rfl) T.n_enumerate (pa_cons (pv 0) pa_nil)) (blkOk_by (own := [(("at" : Str), 1), (("row" : Str), 2)]) (N := names_is_program) (sc := defScope s_is_program) (by decide +kernel)) (fun _ _ _ _ _ => (pg_tup (by rfl) (pgs_cons (pg_nm 1 sc_is_program.nd) (pgs_cons (pg_nm 2 sc_is_program.nd) pgs_nil)))) (fun _ _ _ _ _ => pts_nil) (fun _ _ _ _ _ => (pe_c (is_instruction_ok T) hr (by decide) rfl (pa_cons (pv 2) (pa_cons (pv 1) (pa_cons (pe_callB (c_lenQk K) (by rfl) T.n_len PySem.boot_len (pa_cons (pv 0) pa_nil)) pa_nil)))))) pa_nil)))) 
          (pss_one (ps_ret pe_bl)) pss_nil)
      (pss_one (ps_ret (pe_cmpR op_le (pe_callB (cr_sum rfl) (by rfl) T.n_sum (by decide +kernel) (pa_cons (pe_lc (own := [(("row" : Str), 2)]) (by rfl) sc_is_program.nd (pi_list (pv 0)) (blkOk_by (own := [(("row" : Str), 2)]) (N := names_is_program) (sc := defScope s_is_program) (by decide +kernel)) (fun _ _ _ _ _ => (pg_nm 2 sc_is_program.nd)) (fun _ _ _ _ _ => pts_one (pt_cmpR op_eq (pe_itk K (pv 2) pe_int) pe_str (nomark _))) (fun _ _ _ _ _ => (pe_callB c_lenS (by rfl) T.n_len PySem.boot_len (pa_cons (pe_itk K (pv 2) pe_int) pa_nil)))) pa_nil)) (pe_csi rfl T.c_MOST_TREE) (nomark _)))))), ?_⟩
    have hl := hu.len
    walk_at "go"
    refine isi_ll ha ?_
    walk_at "go"
    refine r_lenL ha ?_
    walk_at "go"
    have h600 := ok.len
    refine r_isF (decide_eq_false (by omega)) ?_
    walk_at "go"
    refine ⟨a, _, rfl, SqL.of ha, fun D hD => lc_it (walk_enum (xs := us)) (fun i H' => Same H H' ∧ H' D = some (.lst ((List.replicate i true).map V.bl))) ⟨same_new hD, upd_same⟩ (fun i H' _ h => SqL.of (h.1 _ _ ha)) ?_ ?_⟩
    · rintro i x H1 H' hi ⟨hs, hd⟩ ⟨T, x, y, rfl, nT, rfl, e1, e2⟩
      obtain rfl := Option.some.inj e1
      have e2' : us[i]? = some y := e2
      obtain ⟨r, hr', p, rfl, hpM, hp⟩ := RowsAt.get hu e2'
      have s1 : Same H (upd H1 T (.tup [.int (i : Nat), .ref p])) := hs.trans (same_new nT)
      refine r_gtup2 upd_same ?_
      have hd1 := same_new (o := .tup [.int (i : Nat), .ref p]) nT _ _ hd
      generalize upd H1 T (.tup [.int (i : Nat), .ref p]) = H2 at s1 hd1
      walk_at "go"
      refine r_lenL (s1 _ _ ha) ?_
      walk_at "go"
      refine ⟨p, r, i, us.length, rfl, s1 _ _ hp, ?_, fun H3 s3 => ?_⟩
      · rw [hl]
        exact ok.rows i r hr'
      · refine ⟨_, s3 _ _ hd1, ?_, same_mut (s1.trans s3) hD, ?_⟩
        · rw [List.length_map, List.length_replicate]
          exact Nat.lt_of_lt_of_le (show i < 1000000 by omega) (by decide)
        · rw [upd_same, List.replicate_succ', List.map_append]
          rfl
    rintro H1 ⟨s1, hd⟩
    walk_at "go"
    refine ⟨D, _, rfl, SqL.of hd, ?_⟩
    rw [show ((List.replicate us.length true).all id) = true by simp]
    walk_at "go"
    have ha1 := s1 _ _ ha
    refine ⟨a, rfl, ⟨_, SqL.of ha1⟩, fun D2 hD2 => lc_it (walk_list (xs := us)) (fun i H' => Same H1 H' ∧ H' D2 = some (.lst (((rs.take i).filterMap Row.sz?).map V.int))) ⟨same_new hD2, upd_same⟩ (fun i H' _ h => SqL.of (h.1 _ _ ha1)) ?_ ?_⟩
    · rintro i x H2 H' hi ⟨hs, hd2⟩ ⟨rfl, hx⟩
      obtain ⟨r, hr', p, rfl, hpM, hp⟩ := RowsAt.get hu hx
      have hp2 := hs _ _ (s1 _ _ hp)
      have hi' : i < rs.length := by omega
      have et : rs.take (i + 1) = rs.take i ++ [r] := by rw [List.take_add_one, hr']; rfl
      have hln : ((rs.take i).filterMap Row.sz?).length < 1000000 := by
        have h1 := List.length_filterMap_le Row.sz? (rs.take i)
        rw [List.length_take] at h1
        omega
      cases r with
      | set b t =>
        have ht := (ok.rows i _ hr').2.1 b t rfl
        have htl := t.len
        walk_at "gd"
        refine r_lenS (by omega) ?_
        refine ⟨_, hd2, by rw [List.length_map]; exact Nat.lt_of_lt_of_le hln (by decide), same_mut hs hD2, ?_⟩
        rw [upd_same, et, List.filterMap_append, List.map_append, htl]
        rfl
      | _ =>
        walk_at "gd"
        refine ⟨hs, ?_⟩
        rw [et, List.filterMap_append]
        show H' D2 = some (.lst (((rs.take i).filterMap Row.sz? ++ ([] : List Int)).map V.int))
        rw [List.append_nil]
        exact hd2
    rintro H2 ⟨s2, hd2⟩
    walk_at "go"
    refine ⟨D2, _, rfl, SqL.of hd2, ?_⟩
    rw [hl, List.take_length, sz_sum]
    walk_at "go"
    have := ok.sets
    rw [decide_eq_true (by omega)]
    exact k _ (s1.trans s2)
/-! ### registers_of, width -/
theorem word_in2 (r : Row) : (if false = true then !inV (.str r.word) [.str "set", .str "jump"] else inV (.str r.word) [.str "set", .str "jump"]) = (r.is_set || r.is_jump) := by
  cases r with
  | set a t => exact (show (if false = true then !inV (.str "set") [.str "set", .str "jump"] else inV (.str "set") [.str "set", .str "jump"]) = true by decide +kernel)
  | move a b => exact (show (if false = true then !inV (.str "move") [.str "set", .str "jump"] else inV (.str "move") [.str "set", .str "jump"]) = false by decide +kernel)
  | cons a b c => exact (show (if false = true then !inV (.str "cons") [.str "set", .str "jump"] else inV (.str "cons") [.str "set", .str "jump"]) = false by decide +kernel)
  | head a b => exact (show (if false = true then !inV (.str "head") [.str "set", .str "jump"] else inV (.str "head") [.str "set", .str "jump"]) = false by decide +kernel)
  | tail a b => exact (show (if false = true then !inV (.str "tail") [.str "set", .str "jump"] else inV (.str "tail") [.str "set", .str "jump"]) = false by decide +kernel)
  | jump a n => exact (show (if false = true then !inV (.str "jump") [.str "set", .str "jump"] else inV (.str "jump") [.str "set", .str "jump"]) = true by decide +kernel)
def sp_registers_of : Sp := fun vs H Q _ => ∃ (p : Addr) (r : Row), vs = [.ref p] ∧ H p = some (.tup r.vals) ∧ ∀ l H', H l = none → Same H H' → H' l = some (.tup (r.regs.map fun a : Nat => V.int (a : Int))) → Q (.ref l) H'
theorem registers_of_ok (T : Txt w K mg) : Cal P w K mg base 1 "registers_of" sp_registers_of := by
  refine mkCal T.f_registers_of T.g_registers_of sc_registers_of (fun _ _ _ _ _ _ us hl => match us, hl with | [_], _ => rfl) (fun vs H Q E h => ?_) (fun cdv A outer s H vs Q E hr h => ?_)
  · obtain ⟨p, r, rfl, _⟩ := h
    rfl
  · obtain ⟨p, r, rfl, hp, k⟩ := h
    refine ⟨_,
      (pss_cons (ps_if (pt_cmpR op_in_seq (pe_it (pv 0) pe_int) (pe_tup (pa_cons pe_str (pa_cons pe_str pa_nil))) (by rfl)) 
          (pss_one (ps_ret (pe_slice sl_tupA (pv 0) (po_some pe_int) (po_some pe_int)))) pss_nil)
      (pss_one (ps_ret (pe_slice sl_tupA (pv 0) (po_some pe_int) po_none)))), ?_⟩
    rw [vals_eq] at hp
    walk_at "go"
    refine ⟨by show 2 ≤ sizeLine; decide, fun t ht => ?_⟩
    walk_at "go"
    refine r_in (SqT.of upd_same) rfl (by decide) (word_in2 r) ?_
    walk_at "go"
    have s1 : Same H (upd H t (.tup [V.str "set", V.str "jump"])) := same_new ht
    generalize upd H t (.tup [V.str "set", V.str "jump"]) = H1 at s1
    have hp1 := s1 _ _ hp
    cases r with
    | set a t =>
      refine r_isT rfl ?_
      walk_at "go"
      exact r_sl12 hp1 fun l hl => k l _ (Same.free s1 hl) (s1.trans (same_new hl)) upd_same
    | jump a n =>
      refine r_isT rfl ?_
      walk_at "go"
      exact r_sl12 hp1 fun l hl => k l _ (Same.free s1 hl) (s1.trans (same_new hl)) upd_same
    | move a b =>
      refine r_isF rfl ?_
      walk_at "go"
      exact r_sl1 hp1 fun l hl => k l _ (Same.free s1 hl) (s1.trans (same_new hl)) upd_same
    | cons a b c =>
      refine r_isF rfl ?_
      walk_at "go"
      exact r_sl1 hp1 fun l hl => k l _ (Same.free s1 hl) (s1.trans (same_new hl)) upd_same
    | head a b =>
      refine r_isF rfl ?_
      walk_at "go"
      exact r_sl1 hp1 fun l hl => k l _ (Same.free s1 hl) (s1.trans (same_new hl)) upd_same
    | tail a b =>
      refine r_isF rfl ?_
      walk_at "go"
      exact r_sl1 hp1 fun l hl => k l _ (Same.free s1 hl) (s1.trans (same_new hl)) upd_same
/-- an inner loop of a comprehension -/
theorem lc_in {J : It} {n : Nat} {G : Hp → Prop} {Y : Nat → Hp → V → Hp → Prop} (w : Walk J n G Y) {g : TG} {tt : TT} {te : TE} {vs : List Nat} {σ : L2.St} {H1 : Hp} {D : Addr} {Qd : Hp → Prop} (Pv : Nat → Hp → Prop) (h0 : Pv 0 H1) (hG : ∀ i H, i ≤ n → Pv i H → G H)
    (hs : ∀ i x H H', i < n → Pv i H → Y i H x H' → g x (wipe σ vs) H' fun σ2 H2 => wipe σ2 vs = wipe σ vs ∧ tt σ2 H2 fun b H3 =>
      if b = true then te σ2 H3 fun y H4 => ∃ acc, H4 D = some (.lst acc) ∧ acc.length < sizeLine ∧ Pv (i + 1) (upd H4 D (.lst (acc ++ [y]))) else Pv (i + 1) H3) (hd : ∀ H, Pv n H → Qd H) :
    ∃ W : Nat → Nat → Hp → Prop, (∃ m, W 0 m H1) ∧ ∀ i m H, W i m H →
      (J.stop i H ∧ Qd H) ∨ (J.go i H ∧ ∃ Nx : Hp → Prop, (∀ H', Nx H' → ∃ m', m' < m ∧ W (i + 1) m' H') ∧ ∀ x H', J.yld i H x H' → g x (wipe σ vs) H' fun σ2 H2 => wipe σ2 vs = wipe σ vs ∧ tt σ2 H2 fun b H3 =>
        if b = true then te σ2 H3 fun y H4 => ∃ acc, H4 D = some (.lst acc) ∧ acc.length < sizeLine ∧ Nx (upd H4 D (.lst (acc ++ [y]))) else Nx H3) := by
  refine ⟨fun i m H => m = n - i ∧ i ≤ n ∧ Pv i H, ⟨n, by simp, Nat.zero_le _, h0⟩, ?_⟩
  rintro i m H ⟨rfl, hi, p⟩
  have q := hG i H hi p
  by_cases hlt : i < n
  · exact .inr ⟨w.goes i H hlt q, Pv (i + 1), fun H' p' => ⟨n - (i + 1), by omega, rfl, hlt, p'⟩, fun x H' y => hs i x H H' hlt p (w.yields i H x H' hlt q y)⟩
  · have e : i = n := by omega
    subst e
    exact .inl ⟨w.stops H q, hd H p⟩
/-- the outer one: any inner walk -/
theorem lc_out {J : It} {n : Nat} {G : Hp → Prop} {Y : Nat → Hp → V → Hp → Prop} (w : Walk J n G Y) {B : V → Hp → (Hp → Prop) → Prop} {H1 : Hp} {Qd : Hp → Prop} (Pv : Nat → Hp → Prop) (h0 : Pv 0 H1) (hG : ∀ i H, i ≤ n → Pv i H → G H)
    (hs : ∀ i x H H', i < n → Pv i H → Y i H x H' → B x H' (Pv (i + 1))) (hd : ∀ H, Pv n H → Qd H) :
    ∃ W : Nat → Nat → Hp → Prop, (∃ m, W 0 m H1) ∧ ∀ i m H, W i m H →
      (J.stop i H ∧ Qd H) ∨ (J.go i H ∧ ∃ Nx : Hp → Prop, (∀ H', Nx H' → ∃ m', m' < m ∧ W (i + 1) m' H') ∧ ∀ x H', J.yld i H x H' → B x H' Nx) := by
  refine ⟨fun i m H => m = n - i ∧ i ≤ n ∧ Pv i H, ⟨n, by simp, Nat.zero_le _, h0⟩, ?_⟩
  rintro i m H ⟨rfl, hi, p⟩
  have q := hG i H hi p
  by_cases hlt : i < n
  · exact .inr ⟨w.goes i H hlt q, Pv (i + 1), fun H' p' => ⟨n - (i + 1), by omega, rfl, hlt, p'⟩, fun x H' y => hs i x H H' hlt p (w.yields i H x H' hlt q y)⟩
  · have e : i = n := by omega
    subst e
    exact .inl ⟨w.stops H q, hd H p⟩
def regsI (rs : List Row) : List Int := rs.flatMap fun r => r.regs.map fun a : Nat => 1 + (a : Int)
theorem regsI_mem (rs : List Row) (m : Nat) : ((m : Int) ∈ regsI rs) ↔ m ∈ rs.flatMap fun r => r.regs.map (· + 1) := by
  unfold regsI
  rw [List.mem_flatMap, List.mem_flatMap]
  constructor
  · rintro ⟨r, h1, h2⟩
    obtain ⟨a, h3, h4⟩ := List.mem_map.mp h2
    exact ⟨r, h1, List.mem_map.mpr ⟨a, h3, by omega⟩⟩
  · rintro ⟨r, h1, h2⟩
    obtain ⟨a, h3, h4⟩ := List.mem_map.mp h2
    exact ⟨r, h1, List.mem_map.mpr ⟨a, h3, by omega⟩⟩
theorem wd_max (rs : List Row) (m : Int) (h1 : m ∈ [1] ++ regsI rs) (h2 : ∀ y, y ∈ [1] ++ regsI rs → y ≤ m) : m = (wd rs : Int) := by
  have hp : 1 ≤ m := h2 1 (by simp)
  obtain ⟨k, rfl⟩ : ∃ k : Nat, m = (k : Int) := ⟨m.toNat, by omega⟩
  have e1 : k ≤ wd rs := by
    rcases List.mem_append.mp h1 with h | h
    · have : k = 1 := by simp at h; omega
      rw [this]
      exact fm_ge _ _
    · exact fm_all _ _ _ ((regsI_mem rs k).mp h)
  have e2 : (wd rs : Int) ≤ k := by
    refine h2 _ (List.mem_append.mpr ?_)
    rcases fm_mem (rs.flatMap fun r => r.regs.map (· + 1)) 1 with e | e
    · exact .inl (by unfold wd; rw [e]; simp)
    · exact .inr ((regsI_mem rs _).mpr e)
  omega
theorem regs_len (r : Row) : r.regs.length ≤ 3 := by cases r <;> simp [Row.regs]
theorem regsI_len : ∀ rs : List Row, (regsI rs).length ≤ 3 * rs.length
  | [] => by simp [regsI]
  | r :: rs => by
    have ih := regsI_len rs
    have := regs_len r
    unfold regsI at ih ⊢
    rw [List.flatMap_cons, List.length_append, List.length_map, List.length_cons]
    omega
def sp_width : Sp := fun vs H Q _ => ∃ (M : List Addr) (a : Addr) (rs : List Row), vs = [.ref a] ∧ PrAt M H a rs ∧ rs.length ≤ 1000 ∧ ∀ H', Same H H' → Q (.int (wd rs : Int)) H'
theorem width_ok (T : Txt w K mg) : Cal P w K mg base 2 "width" sp_width := by
  refine mkCal T.f_width T.g_width sc_width (fun _ _ _ _ _ _ us hl => match us, hl with | [_], _ => rfl) (fun vs H Q E h => ?_) (fun cdv A outer s H vs Q E hr h => ?_)
  · obtain ⟨M, a, rs, rfl, _⟩ := h
    rfl
  · obtain ⟨M, a, rs, rfl, ⟨hM, us, ha, hu⟩, hlen, k⟩ := h
    refine ⟨_,
      (pss_one (ps_ret (pe_callB (cr_max rfl) (by rfl) T.n_max (by decide +kernel) (pa_cons (pe_op op_cat (pe_lst (pa_cons pe_int pa_nil)) (pe_lc2 (own := [(("row" : Str), 1), (("part" : Str), 2)]) (by rfl) sc_width.nd (pi_list (pv 0)) (blkOk_by (own := [(("row" : Str), 1), (("part" : Str), 2)]) (N := names_width) (sc := defScope s_width) (by decide +kernel)) (vs1 := [2]) (by decide) (fun _ _ _ _ _ => (pg_nm 1 sc_width.nd)) (fun _ _ _ _ _ => pts_nil) (fun _ _ _ _ _ => (pi_tupk K (pe_c (registers_of_ok T) hr (by decide) rfl (pa_cons (pv 1) pa_nil)))) (fun _ _ _ _ _ => (pg_nm 2 sc_width.nd)) (fun _ _ _ _ _ => pts_nil) (fun _ _ _ _ _ => (pe_op op_add pe_int (pv 2))))) pa_nil)))), ?_⟩
    have hl := hu.len
    walk_at "go"
    refine ⟨by show 1 ≤ sizeLine; decide, fun o ho => ?_⟩
    have s1 : Same H (upd H o (.lst [.int 1])) := same_new ho
    have e1 : (upd H o (.lst [.int 1])) o = some (.lst [.int 1]) := upd_same
    generalize upd H o (.lst [.int 1]) = H1 at s1 e1
    have ha1 := s1 _ _ ha
    refine ⟨_, rfl, a, rfl, ⟨_, SqL.of ha1⟩, fun D hD => lc_out (walk_list (xs := us)) (fun i H' => Same H1 H' ∧ H' D = some (.lst ((regsI (rs.take i)).map V.int))) ⟨same_new hD, upd_same⟩ (fun i H' _ h => SqL.of (h.1 _ _ ha1)) ?_ ?_⟩
    · rintro i x H2 H' hi ⟨hs, hd⟩ ⟨rfl, hx⟩
      obtain ⟨r, hr', p, rfl, hpM, hp⟩ := RowsAt.get hu hx
      have hi' : i < rs.length := by omega
      have et : regsI (rs.take (i + 1)) = regsI (rs.take i) ++ r.regs.map fun a : Nat => 1 + (a : Int) := by
        rw [List.take_add_one, hr']
        simp [regsI]
      walk_at "go"
      refine ⟨p, r, rfl, hs _ _ (s1 _ _ hp), fun l H3 hl3 s3 e3 => ?_⟩
      have hnl : ((regsI (rs.take i)).length) ≤ 3000 := by
        have := regsI_len (rs.take i)
        rw [List.length_take] at this
        omega
      have hrl := regs_len r
      have hne : l ≠ D := fun z => by
        rw [z, hd] at hl3
        cases hl3
      refine ⟨l, rfl, ⟨_, SqT.of e3⟩, lc_in (walk_tup (xs := r.regs.map fun a : Nat => V.int (a : Int))) (fun j H' => Same H1 H' ∧ H' l = some (.tup (r.regs.map fun a : Nat => V.int (a : Int))) ∧ H' D = some (.lst ((regsI (rs.take i) ++ (r.regs.take j).map fun a : Nat => 1 + (a : Int)).map V.int))) ⟨hs.trans s3, e3, by simpa using s3 _ _ hd⟩ (fun j H' _ h => SqT.of h.2.1) ?_ ?_⟩
      · rintro j x H4 H' hj ⟨hs4, ht4, hd4⟩ ⟨rfl, hx⟩
        rw [List.length_map] at hj
        rw [List.getElem?_map, List.getElem?_eq_getElem hj] at hx
        obtain rfl := Option.some.inj hx
        walk_at "go"
        refine ⟨_, hd4, ?_, same_mut hs4 hD, by rw [upd_ne hne]; exact ht4, ?_⟩
        · rw [List.length_map, List.length_append, List.length_map, List.length_take]
          exact Nat.lt_of_lt_of_le (show _ < 1000000 by omega) (by decide)
        · rw [upd_same, List.take_add_one, List.getElem?_eq_getElem hj]
          simp only [List.map_append, Option.toList, List.map_cons, List.map_nil, List.append_assoc]
      · rintro H4 ⟨hs4, ht4, hd4⟩
        refine ⟨hs4, ?_⟩
        rw [hd4, et]
        simp
    rintro H2 ⟨s2, hd2⟩
    rw [hl, List.take_length] at hd2
    have hnl := regsI_len rs
    refine r_cat (s2 _ _ e1) hd2 (by simp; omega) fun q hq => ?_
    walk_at "go"
    refine ⟨q, [1] ++ regsI rs, rfl, SqL.of (by rw [upd_same, List.map_append]; rfl), by simp, fun m h1 h2 => ?_⟩
    rw [wd_max rs m h1 h2]
    exact k _ ((s1.trans s2).trans (same_new hq))
end
end K38
set_option Elab.async false
set_option linter.all false
set_option maxRecDepth 100000
set_option maxHeartbeats 4000000
namespace K38
open PySem PySem.Spec PyProof.Rows L2 He SX
/-! ### the walk's own steps -/
local macro_rules | `(tactic| walk_at "hp") => `(tactic| first
  | assumption
  | with_reducible exact upd_same
  | (refine Eq.trans (upd_ne (by first | assumption | exact Ne.symm (by assumption))) ?_; walk_at "hp"))
local macro_rules | `(tactic| walk_at "st") => `(tactic| with_reducible first
  | refine r_seq ?_ | refine r_asg ?_ | ((refine r_var (v := ?v) ?h ?_); (case h => with_unfolding_all exact rfl)) | refine r_c ?_ | refine r_op ?_ | refine r_cons ?_ | refine r_nil ?_ | refine r_gname ?_ | refine r_cb ?_ | refine r_call ?_
  | refine r_if ?_ | refine r_ret ?_ | refine r_test ?_ | refine r_bl ?_ | refine r_I0 ?_ | ((refine r_eq ?h ?_); (case h => with_unfolding_all exact rfl)) | ((refine r_ne ?h ?_); (case h => with_unfolding_all exact rfl))
  | refine r_T ?_ | refine r_F ?_ | refine r_nT ?_ | refine r_nF ?_ | refine r_not ?_ | refine r_and ?_ | refine r_or ?_ | refine r_B ?_ | refine r_next ?_ | refine r_drop ?_ | refine r_tup ?_ | refine r_lst ?_ | refine r_bm ?_ | refine r_bm0 ?_
  | refine r_chain ?_ | refine r_andV ?_ | refine r_notV ?_ | refine r_isN ?_ | refine r_notN ?_ | refine r_dget ?_ | refine r_din ?_ | refine r_dnotin ?_ | refine r_un ?_ | refine r_rU ?_ | refine r_gsub ?_
  | ((refine r_aug (x := ?x) ?h ?_); (case h => with_unfolding_all exact rfl)) | refine r_ipI ?_ | refine r_for ?_ | refine r_lc ?_ | refine r_iList ?_ | refine r_iTup ?_ | refine r_iStr ?_ | refine r_iRng1 ?_ | refine r_iRng2 ?_ | refine r_iEnum ?_ | ((refine r_wipe ?h ?_); (case h => with_unfolding_all exact rfl)) | refine r_yes ?_ | refine r_rng ?_ | refine r_part ?_ | refine r_nopart ?_ | refine r_exi ?_ | refine r_int1 ?_ | refine r_abs ?_ | refine r_m1 ?_ | refine r_trk ?_ | ((refine r_ixT0 (xs := ?xs) (v := ?v) ?h ?hv ?_); (case h => walk_at "hp"); (case hv => with_unfolding_all exact rfl)) | ((refine r_ixT1 (xs := ?xs) (v := ?v) ?h ?hv ?_); (case h => walk_at "hp"); (case hv => with_unfolding_all exact rfl)) | ((refine r_ixT2 (xs := ?xs) (v := ?v) ?h ?hv ?_); (case h => walk_at "hp"); (case hv => with_unfolding_all exact rfl)) | ((refine r_ixT3 (xs := ?xs) (v := ?v) ?h ?hv ?_); (case h => walk_at "hp"); (case hv => with_unfolding_all exact rfl)) | refine r_strv ?_)
local macro_rules | `(tactic| walk_at "go") => `(tactic| repeat walk_at "st")
local macro_rules | `(tactic| walk_at "dk") => `(tactic| first | refine r_isT (by decide +kernel) ?_ | refine r_isF (by decide +kernel) ?_)
local macro_rules | `(tactic| walk_at "gd") => `(tactic| repeat first | walk_at "st" | walk_at "dk")
section
variable {P : Program} {w : World} {K : PySem.W.Frag} {mg : Str → Option Value} {base : Heap}
/-! ### row_code, code -/
def Row.kind : Row → Nat
  | .set _ _ => 0
  | .move _ _ => 1
  | .cons _ _ _ => 2
  | .head _ _ => 3
  | .tail _ _ => 4
  | .jump _ _ => 5
def Row.arg : Row → Nat
  | .set a _ => a
  | .move a _ => a
  | .cons a _ _ => a
  | .head a _ => a
  | .tail a _ => a
  | .jump a _ => a
def Row.body : Row → Tr
  | .set _ t => t
  | .move _ b => num b
  | .cons _ b c => .nd (num b) (num c)
  | .head _ b => num b
  | .tail _ b => num b
  | .jump _ n => .nd (if n < 0 then one else .lf) (num n.natAbs)
theorem code_eq (r : Row) : r.code = .nd (num r.kind) (.nd (num r.arg) r.body) := by cases r <;> rfl
def wordsL : List Str := ["set", "move", "cons", "head", "tail", "jump"]
theorem words_at (r : Row) : wordsL[r.kind]? = some r.word ∧ ∀ m, m < r.kind → wordsL[m]? ≠ some r.word := by
  have key : ∀ j : Nat, j < 6 → ∀ m : Nat, m < j → wordsL[m]? ≠ wordsL[j]? := by decide +kernel
  have h : wordsL[r.kind]? = some r.word := by cases r <;> rfl
  refine ⟨h, fun m hm => ?_⟩
  rw [← h]
  have h6 : r.kind < 6 := by
    cases r <;> simp [Row.kind]
  exact key _ h6 m hm
theorem tyV_words (T : Txt w K mg) (H : Hp) : tyV K "tuple" (.ref (ga K "WORDS")) H := .inr (.inl ⟨rfl, T.wordsO⟩)
theorem abs_nat (n : Int) : (if n < 0 then -n else n) = (n.natAbs : Int) := by
  by_cases h : n < 0
  · rw [if_pos h]
    omega
  · rw [if_neg h]
    omega
def sp_row_code : Sp := fun vs H Q _ => ∃ (p : Addr) (r : Row), vs = [.ref p] ∧ H p = some (.tup r.vals) ∧ r.code.sz ≤ 200000 ∧ Q (.str (S r.code.enc)) H
theorem row_code_ok (T : Txt w K mg) : Cal P w K mg base 3 "row_code" sp_row_code := by
  refine mkCal T.f_row_code T.g_row_code sc_row_code (fun _ _ _ _ _ _ us hl => match us, hl with | [_], _ => rfl) (fun vs H Q E h => ?_) (fun cdv A outer s H vs Q E hr h => ?_)
  · obtain ⟨p, r, rfl, _⟩ := h
    rfl
  · obtain ⟨p, r, rfl, hp, hz, k⟩ := h
    refine ⟨_,
      (pss_cons (ps_st 1 sc_row_code.nd (pe_it (pv 0) pe_int))
      (pss_cons (ps_st 2 sc_row_code.nd (pe_c (number_ok T) hr (by decide) rfl (pa_cons (pe_it (pv 0) pe_int) pa_nil)))
      (C8.pss_cut (ps_if (pt_cmpR op_eq (pv 1) pe_str (nomark _)) 
          (pss_one (ps_st 3 sc_row_code.nd (pe_it (pv 0) pe_int))) 
          (pss_one (ps_if (pt_cmpR op_eq (pv 1) pe_str (nomark _)) 
              (pss_one (ps_st 3 sc_row_code.nd (pe_c (cons_ok T) hr (by decide) rfl (pa_cons (pe_c (number_ok T) hr (by decide) rfl (pa_cons (pe_it (pv 0) pe_int) pa_nil)) (pa_cons (pe_c (number_ok T) hr (by decide) rfl (pa_cons (pe_it (pv 0) pe_int) pa_nil)) pa_nil))))) 
              (pss_one (ps_if (pt_cmpR op_eq (pv 1) pe_str (nomark _)) 
                  (pss_cons (ps_st 4 sc_row_code.nd (pe_css rfl T.c_LEAF))
                  (pss_cons (ps_if (pt_cmpR op_lt (pe_it (pv 0) pe_int) pe_int (nomark _)) 
                      (pss_one (ps_st 4 sc_row_code.nd (pe_css rfl T.c_MINUS))) pss_nil)
                  (pss_one (ps_st 3 sc_row_code.nd (pe_c (cons_ok T) hr (by decide) rfl (pa_cons (pv 4) (pa_cons (pe_c (number_ok T) hr (by decide) rfl (pa_cons (pe_callB c_abs (by rfl) T.n_abs (by decide +kernel) (pa_cons (pe_it (pv 0) pe_int) pa_nil)) pa_nil)) pa_nil))))))) 
                  (pss_one (ps_st 3 sc_row_code.nd (pe_c (number_ok T) hr (by decide) rfl (pa_cons (pe_it (pv 0) pe_int) pa_nil)))))))))
      (pss_one (ps_ret (pe_c (cons_ok T) hr (by decide) rfl (pa_cons (pe_c (number_ok T) hr (by decide) rfl (pa_cons (pe_bm PySem.F.plainAttrs_tuple PySem.F.slot_tuple_index PySem.F.type_tuple_index mt_tix (pe_csr rfl T.c_WORDS) (pa_cons (pv 1) pa_nil)) pa_nil)) (pa_cons (pe_c (cons_ok T) hr (by decide) rfl (pa_cons (pv 2) (pa_cons (pv 3) pa_nil))) pa_nil)))))))), ?_⟩
    have hz2 := hz
    rw [code_eq] at hz2
    simp only [Tr.sz, num_sz] at hz2
    have hargs : ∃ rest, r.vals = .str r.word :: .int (r.arg : Nat) :: rest := by cases r <;> exact ⟨_, rfl⟩
    obtain ⟨rest, hv⟩ := hargs
    rw [hv] at hp
    walk_at "go"
    refine ⟨r.arg, rfl, by omega, ?_⟩
    walk_at "go"
    rw [← hv] at hp
    refine ⟨fun σ H' => H' = H ∧ ∃ x, σ = [some (.ref p), some (.str r.word), some (.str (S (num r.arg).enc)), some (.str (S r.body.enc)), x], ?_, ?_⟩
    · cases r with
      | set a t =>
        walk_at "go"
        refine r_isT (dw_set (.set a t)) ?_
        walk_at "go"
        exact ⟨rfl, _, rfl⟩
      | cons a b c =>
        simp only [Row.body, Tr.sz, num_sz] at hz2
        walk_at "go"
        refine r_isF (dw_set (.cons a b c)) ?_
        walk_at "go"
        refine r_isT (dw_cons (.cons a b c)) ?_
        walk_at "go"
        refine ⟨b, rfl, by omega, ?_⟩
        walk_at "go"
        refine ⟨c, rfl, by omega, ?_⟩
        walk_at "go"
        refine ⟨num b, num c, rfl, by rw [num_sz, num_sz]; omega, ?_⟩
        walk_at "go"
        exact ⟨rfl, _, rfl⟩
      | jump a n =>
        walk_at "go"
        refine r_isF (dw_set (.jump a n)) ?_
        walk_at "go"
        refine r_isF (dw_cons (.jump a n)) ?_
        walk_at "go"
        refine r_isT (dw_jump (.jump a n)) ?_
        rw [z0, z100]
        walk_at "go"
        have hn : num n.natAbs = num n.natAbs := rfl
        simp only [Row.body, Tr.sz, num_sz] at hz2
        refine r_2 (fun e => ?_) (fun e => ?_)
        · have hneg : n < 0 := of_decide_eq_true e
          rw [if_pos hneg] at hz2
          simp only [Tr.sz] at hz2
          walk_at "go"
          rw [abs_nat]
          refine ⟨n.natAbs, rfl, by omega, ?_⟩
          walk_at "go"
          refine ⟨one, num n.natAbs, rfl, by simp only [Tr.sz, num_sz]; omega, ?_⟩
          walk_at "go"
          refine ⟨rfl, some (.str (S [49, 48, 48])), ?_⟩
          show _ = [some (V.ref p), some (.str (Row.jump a n).word), some (.str (S (num a).enc)), some (.str (S (Tr.nd (if n < 0 then one else .lf) (num n.natAbs)).enc)), _]
          rw [if_pos hneg]
          rfl
        · have hneg : ¬ n < 0 := of_decide_eq_false e
          rw [if_neg hneg] at hz2
          simp only [Tr.sz] at hz2
          walk_at "go"
          rw [abs_nat]
          refine ⟨n.natAbs, rfl, by omega, ?_⟩
          walk_at "go"
          refine ⟨.lf, num n.natAbs, rfl, by simp only [Tr.sz, num_sz]; omega, ?_⟩
          walk_at "go"
          refine ⟨rfl, some (.str (S [48])), ?_⟩
          show _ = [some (V.ref p), some (.str (Row.jump a n).word), some (.str (S (num a).enc)), some (.str (S (Tr.nd (if n < 0 then one else .lf) (num n.natAbs)).enc)), _]
          rw [if_neg hneg]
          rfl
      | move a b =>
        walk_at "go"
        refine r_isF (dw_set (.move a b)) ?_
        walk_at "go"
        refine r_isF (dw_cons (.move a b)) ?_
        walk_at "go"
        refine r_isF (dw_jump (.move a b)) ?_
        walk_at "go"
        simp only [Row.body, num_sz] at hz2
        refine ⟨b, rfl, by omega, ?_⟩
        walk_at "go"
        exact ⟨rfl, _, rfl⟩
      | head a b =>
        walk_at "go"
        refine r_isF (dw_set (.head a b)) ?_
        walk_at "go"
        refine r_isF (dw_cons (.head a b)) ?_
        walk_at "go"
        refine r_isF (dw_jump (.head a b)) ?_
        walk_at "go"
        simp only [Row.body, num_sz] at hz2
        refine ⟨b, rfl, by omega, ?_⟩
        walk_at "go"
        exact ⟨rfl, _, rfl⟩
      | tail a b =>
        walk_at "go"
        refine r_isF (dw_set (.tail a b)) ?_
        walk_at "go"
        refine r_isF (dw_cons (.tail a b)) ?_
        walk_at "go"
        refine r_isF (dw_jump (.tail a b)) ?_
        walk_at "go"
        simp only [Row.body, num_sz] at hz2
        refine ⟨b, rfl, by omega, ?_⟩
        walk_at "go"
        exact ⟨rfl, _, rfl⟩
    · rintro σ H' ⟨rfl, x, rfl⟩
      walk_at "go"
      refine ⟨tyV_words T _, ?_⟩
      walk_at "go"
      refine ⟨_, wordsL, r.word, r.kind, rfl, rfl, T.words _, (words_at r).1, (words_at r).2, ?_⟩
      walk_at "go"
      refine ⟨r.kind, rfl, by omega, ?_⟩
      walk_at "go"
      refine ⟨num r.arg, r.body, rfl, by rw [num_sz]; omega, ?_⟩
      walk_at "go"
      refine ⟨num r.kind, .nd (num r.arg) r.body, rfl, by simp only [Tr.sz, num_sz]; omega, ?_⟩
      rw [← code_eq]
      exact k
theorem code_len (rs : List Row) : rs.length ≤ (codeT rs).sz := by
  unfold codeT
  rw [lst_sz]
  have := len_le (ts := rs.map Row.code)
  rw [List.length_map] at this
  omega
theorem code_row {rs : List Row} {i : Nat} {r : Row} (h : rs[i]? = some r) : r.code.sz ≤ (codeT rs).sz := by
  unfold codeT
  rw [lst_sz]
  have := sum_ge (ts := rs.map Row.code) (t := r.code) (List.mem_map.mpr ⟨r, List.mem_of_getElem? h, rfl⟩)
  omega
def sp_code : Sp := fun vs H Q _ => ∃ (M : List Addr) (a : Addr) (rs : List Row), vs = [.ref a] ∧ PrAt M H a rs ∧ (codeT rs).sz ≤ 200000 ∧ ∀ H', Same H H' → Q (.str (S (codeT rs).enc)) H'
theorem code_ok (T : Txt w K mg) : Cal P w K mg base 4 "code" sp_code := by
  refine mkCal T.f_code T.g_code sc_code (fun _ _ _ _ _ _ us hl => match us, hl with | [_], _ => rfl) (fun vs H Q E h => ?_) (fun cdv A outer s H vs Q E hr h => ?_)
  · obtain ⟨M, a, rs, rfl, _⟩ := h
    rfl
  · obtain ⟨M, a, rs, rfl, ⟨hM, us, ha, hu⟩, hz, k⟩ := h
    refine ⟨_,
      (pss_one (ps_ret (pe_c (list_of_ok T) hr (by decide) rfl (pa_cons (pe_lc (own := [(("row" : Str), 1)]) (by rfl) sc_code.nd (pi_list (pv 0)) (blkOk_by (own := [(("row" : Str), 1)]) (N := names_code) (sc := defScope s_code) (by decide +kernel)) (fun _ _ _ _ _ => (pg_nm 1 sc_code.nd)) (fun _ _ _ _ _ => pts_nil) (fun _ _ _ _ _ => (pe_c (row_code_ok T) hr (by decide) rfl (pa_cons (pv 1) pa_nil)))) pa_nil)))), ?_⟩
    have hl := hu.len
    have hcl := code_len rs
    walk_at "go"
    refine ⟨a, rfl, ⟨_, SqL.of ha⟩, fun D hD => lc_it (walk_list (xs := us)) (fun i H' => Same H H' ∧ H' D = some (.lst ((rs.take i).map fun r => V.str (S r.code.enc)))) ⟨same_new hD, upd_same⟩ (fun i H' _ h => SqL.of (h.1 _ _ ha)) ?_ ?_⟩
    · rintro i x H1 H' hi ⟨hs, hd⟩ ⟨rfl, hx⟩
      obtain ⟨r, hr', p, rfl, hpM, hp⟩ := RowsAt.get hu hx
      have hi' : i < rs.length := by omega
      walk_at "go"
      refine ⟨p, r, rfl, hs _ _ hp, Nat.le_trans (code_row hr') hz, ?_⟩
      refine ⟨_, hd, ?_, same_mut hs hD, ?_⟩
      · rw [List.length_map, List.length_take]
        exact Nat.lt_of_lt_of_le (show _ < 1000000 by omega) (by decide)
      · rw [upd_same, List.take_add_one, hr', List.map_append]
        rfl
    · rintro H' ⟨hs, hd⟩
      rw [hl, List.take_length] at hd
      walk_at "go"
      exact ⟨D, rs.map Row.code, rfl, by rw [List.map_map]; exact hd, hz, fun H2 s2 => k _ (hs.trans s2)⟩
end
end K38
set_option Elab.async false
set_option linter.all false
set_option maxRecDepth 100000
set_option maxHeartbeats 4000000
namespace K38
open PySem PySem.Spec PyProof.Rows L2 He SX
/-! ### the walk's own steps -/
local macro_rules | `(tactic| walk_at "hp") => `(tactic| first
  | assumption
  | with_reducible exact upd_same
  | (refine Eq.trans (upd_ne (by first | assumption | exact Ne.symm (by assumption))) ?_; walk_at "hp"))
local macro_rules | `(tactic| walk_at "st0") => `(tactic| with_reducible first
  | refine r_seq ?_ | refine r_asg ?_ | ((refine r_var (v := ?v) ?h ?_); (case h => with_unfolding_all exact rfl)) | refine r_c ?_ | refine r_op ?_ | refine r_cons ?_ | refine r_nil ?_ | refine r_gname ?_ | refine r_cb ?_ | refine r_call ?_
  | refine r_if ?_ | refine r_ret ?_ | refine r_test ?_ | refine r_bl ?_ | refine r_I0 ?_ | ((refine r_eq ?h ?_); (case h => with_unfolding_all exact rfl)) | ((refine r_ne ?h ?_); (case h => with_unfolding_all exact rfl))
  | refine r_T ?_ | refine r_F ?_ | refine r_nT ?_ | refine r_nF ?_ | refine r_not ?_ | refine r_and ?_ | refine r_or ?_ | refine r_B ?_ | refine r_next ?_ | refine r_drop ?_ | refine r_tup ?_ | refine r_bm ?_ | refine r_bm0 ?_
  | refine r_chain ?_ | refine r_andV ?_ | refine r_notV ?_ | refine r_isN ?_ | refine r_notN ?_ | refine r_dget ?_ | refine r_din ?_ | refine r_dnotin ?_ | refine r_un ?_ | refine r_rU ?_ | refine r_gsub ?_
  | ((refine r_aug (x := ?x) ?h ?_); (case h => with_unfolding_all exact rfl)) | refine r_ipI ?_ | refine r_for ?_ | refine r_lc ?_ | refine r_iList ?_ | refine r_iTup ?_ | refine r_iStr ?_ | refine r_iRng1 ?_ | refine r_iRng2 ?_ | refine r_iEnum ?_ | ((refine r_wipe ?h ?_); (case h => with_unfolding_all exact rfl)) | refine r_yes ?_ | refine r_rng ?_ | refine r_part ?_ | refine r_nopart ?_ | refine r_exi ?_ | refine r_int1 ?_ | refine r_abs ?_ | refine r_m1 ?_ | refine r_trk ?_ | ((refine r_ixT0 (xs := ?xs) (v := ?v) ?h ?hv ?_); (case h => walk_at "hp"); (case hv => with_unfolding_all exact rfl)) | ((refine r_ixT1 (xs := ?xs) (v := ?v) ?h ?hv ?_); (case h => walk_at "hp"); (case hv => with_unfolding_all exact rfl)) | ((refine r_ixT2 (xs := ?xs) (v := ?v) ?h ?hv ?_); (case h => walk_at "hp"); (case hv => with_unfolding_all exact rfl)) | ((refine r_ixT3 (xs := ?xs) (v := ?v) ?h ?hv ?_); (case h => walk_at "hp"); (case hv => with_unfolding_all exact rfl)) | refine r_strv ?_)
local macro_rules | `(tactic| walk_at "st") => `(tactic| first | walk_at "st0" | with_reducible refine r_lst ?_)
local macro_rules | `(tactic| walk_at "g0") => `(tactic| repeat walk_at "st0")
local macro_rules | `(tactic| walk_at "go") => `(tactic| repeat walk_at "st")
local macro_rules | `(tactic| walk_at "dk") => `(tactic| first | refine r_isT (by decide +kernel) ?_ | refine r_isF (by decide +kernel) ?_)
local macro_rules | `(tactic| walk_at "gd") => `(tactic| repeat first | walk_at "st" | walk_at "dk")
/-! ### written rows -/
theorem row_new {M : List Addr} {H : Hp} {p : Addr} {xs : List V} {r : Row} (d : Dom M H) (hp : H p = none) (e : xs = r.vals) : RowAt M (upd H p (.tup xs)) (.ref p) r := ⟨p, rfl, d.out hp, by rw [upd_same, e]⟩
def RE (B : Hp) (M : List Addr) (σ : L2.St) (te : TE) (r : Row) : Prop := ∀ (H : Hp) (Q : VK), Same B H → Dom M H → (∀ v H', Same H H' → RowAt M H' v r → Q v H') → te σ H Q
def RD (B : Hp) (M : List Addr) (σ : L2.St) (ta : TA) (rs : List Row) : Prop := ∀ (H : Hp) (Q : List V → Hp → Prop), Same B H → Dom M H → (∀ vs H', Same H H' → RowsAt M H' vs rs → Q vs H') → ta σ H Q
theorem re_tup {B : Hp} {M : List Addr} {σ : L2.St} {ta : TA} {xs : List V} {r : Row} (h : ∀ (H : Hp) (QA : List V → Hp → Prop), Same B H → QA xs H → ta σ H QA) (e : xs = r.vals) (hl : xs.length ≤ 10) : RE B M σ (tTup ta) r := fun H Q s d k =>
  h H _ s ⟨Nat.le_trans hl (by decide), fun p hp => k _ _ (same_new hp) (row_new d hp e)⟩
theorem RD.nil {B : Hp} {M : List Addr} {σ : L2.St} : RD B M σ tNil [] := fun H Q _ _ k => k [] H (Same.refl H) .nil
theorem RD.cons {B : Hp} {M : List Addr} {σ : L2.St} {te : TE} {ta : TA} {r : Row} {rs : List Row} (h1 : RE B M σ te r) (h2 : RD B M σ ta rs) : RD B M σ (tCons te ta) (r :: rs) := fun H Q s d k =>
  h1 H _ s d fun v H1 s1 e1 => h2 H1 _ (s.trans s1) (same_dom s1 d) fun vs H2 s2 e2 => k (v :: vs) H2 (s1.trans s2) (.cons (e1.keep (same_keep s2)) e2)
/-- a written list of rows: a new list -/
theorem rd_lst {M : List Addr} {σ : L2.St} {ta : TA} {rs : List Row} {H : Hp} {Q : VK} (h : RD H M σ ta rs) (hl : rs.length ≤ 1000) (d : Dom M H) (k : ∀ p H', H p = none → Same H H' → PrAt M H' p rs → Q (.ref p) H') : tLst ta σ H Q :=
  h H _ (Same.refl H) d fun vs H1 s1 e1 => ⟨by rw [RowsAt.len e1]; exact Nat.le_trans hl (by decide), fun p hp => k p _ (Same.free s1 hp) (s1.trans (same_new hp)) ⟨(same_dom s1 d).out hp, vs, upd_same, RowsAt.keep e1 (same_keep (same_new hp))⟩⟩
/-- two lists of rows: a new list -/
theorem rd_cat {M : List Addr} {H : Hp} {Q : VK} {a b : Addr} {rs qs : List Row} (d : Dom M H) (ha : PrAt M H a rs) (hb : PrAt M H b qs) (hl : rs.length + qs.length ≤ 100000) (k : ∀ p H', H p = none → Same H H' → PrAt M H' p (rs ++ qs) → Q (.ref p) H') : rCat (.ref a) (.ref b) H Q := by
  obtain ⟨n1, us, h1, u1⟩ := ha
  obtain ⟨n2, ws, h2, u2⟩ := hb
  refine r_cat h1 h2 (by rw [RowsAt.len u1, RowsAt.len u2]; omega) fun p hp => k p _ hp (same_new hp) ⟨d.out hp, _, upd_same, RowsAt.keep (RowsAt.app u1 u2) (same_keep (same_new hp))⟩
local macro_rules | `(tactic| walk_at "row") => `(tactic| exact re_tup (fun _ _ _ q => by (walk_at "go"; exact q)) rfl (Nat.le_of_ble_eq_true rfl))
section
variable {P : Program} {w : World} {K : PySem.W.Frag} {mg : Str → Option Value} {base : Heap}
/-! ### checked (building, knowing), filled -/
def sp_checked_building : Sp := fun vs H Q _ => ∃ (M : List Addr) (a : Addr) (rs : List Row), vs = [.ref a] ∧ PrAt M H a rs ∧ Ok rs ∧ ∀ H', Same H H' → Q (.ref a) H'
theorem checked_building_ok (T : Txt w K mg) : Cal P w K mg base 4 "checked_building" sp_checked_building := by
  refine mkCal T.f_checked_building T.g_checked_building sc_checked_building (fun _ _ _ _ _ _ us hl => match us, hl with | [_], _ => rfl) (fun vs H Q E h => ?_) (fun cdv A outer s H vs Q E hr h => ?_)
  · obtain ⟨M, a, rs, rfl, _⟩ := h
    rfl
  · obtain ⟨M, a, rs, rfl, pr, ok, k⟩ := h
    refine ⟨_,
      (pss_cons (ps_if (PW.pt (pw_or (pt_cmpR op_gt (pe_callB c_lenQ (by rfl) T.n_len PySem.boot_len (pa_cons (pv 0) pa_nil)) (pe_csi rfl T.c_MOST_CODE) (nomark _)) (pw_or1 (pt_not (pt_val (pe_c (is_program_ok T) hr (by decide) rfl (pa_cons (pv 0) pa_nil))))))) 
          (pss_one ps_never) pss_nil)
      (pss_one (ps_ret (pv 0)))), ?_⟩
    have h600 := ok.len
    obtain ⟨us, ha, hu⟩ := pr.2
    have hl := hu.len
    walk_at "go"
    refine r_lenL ha ?_
    walk_at "go"
    refine r_isF (decide_eq_false (by omega)) ?_
    walk_at "go"
    refine ⟨M, a, rs, rfl, pr, ok, fun H1 s1 => ?_⟩
    walk_at "go"
    exact k _ s1
abbrev sp_checked_knowing : Sp := sp_checked_building
theorem checked_knowing_ok (T : Txt w K mg) : Cal P w K mg base 4 "checked_knowing" sp_checked_knowing := by
  refine mkCal T.f_checked_knowing T.g_checked_knowing sc_checked_knowing (fun _ _ _ _ _ _ us hl => match us, hl with | [_], _ => rfl) (fun vs H Q E h => ?_) (fun cdv A outer s H vs Q E hr h => ?_)
  · obtain ⟨M, a, rs, rfl, _⟩ := h
    rfl
  · obtain ⟨M, a, rs, rfl, pr, ok, k⟩ := h
    refine ⟨_,
      (pss_cons (ps_if (PW.pt (pw_or (pt_cmpR op_gt (pe_callB c_lenQ (by rfl) T.n_len PySem.boot_len (pa_cons (pv 0) pa_nil)) (pe_csi rfl T.c_MOST_CODE) (nomark _)) (pw_or1 (pt_not (pt_val (pe_c (is_program_ok T) hr (by decide) rfl (pa_cons (pv 0) pa_nil))))))) 
          (pss_one ps_never) pss_nil)
      (pss_one (ps_ret (pv 0)))), ?_⟩
    have h600 := ok.len
    obtain ⟨us, ha, hu⟩ := pr.2
    have hl := hu.len
    walk_at "go"
    refine r_lenL ha ?_
    walk_at "go"
    refine r_isF (decide_eq_false (by omega)) ?_
    walk_at "go"
    refine ⟨M, a, rs, rfl, pr, ok, fun H1 s1 => ?_⟩
    walk_at "go"
    exact k _ s1
def fill (rs : List Row) (t : Tr) : List Row := [.set 1 t, .cons 0 1 0, .set 1 .lf] ++ rs
def sp_filled : Sp := fun vs H Q _ => ∃ (M : List Addr) (a : Addr) (rs : List Row) (t : Tr), vs = [.ref a, .str (S t.enc)] ∧ Dom M H ∧ PrAt M H a rs ∧ Ok (fill rs t) ∧ ∀ p H', H p = none → Same H H' → PrAt M H' p (fill rs t) → Q (.ref p) H'
theorem filled_ok (T : Txt w K mg) : Cal P w K mg base 5 "filled" sp_filled := by
  refine mkCal T.f_filled T.g_filled sc_filled (fun _ _ _ _ _ _ us hl => match us, hl with | [_, _], _ => rfl) (fun vs H Q E h => ?_) (fun cdv A outer s H vs Q E hr h => ?_)
  · obtain ⟨M, a, rs, t, rfl, _⟩ := h
    rfl
  · obtain ⟨M, a, rs, t, rfl, d, pr, ok, k⟩ := h
    refine ⟨_,
      (pss_one (ps_ret (pe_c (checked_building_ok T) hr (by decide) rfl (pa_cons (pe_op op_cat (pe_lst (pa_cons (pe_tup (pa_cons pe_str (pa_cons pe_int (pa_cons (pv 1) pa_nil)))) (pa_cons (pe_tup (pa_cons pe_str (pa_cons pe_int (pa_cons pe_int (pa_cons pe_int pa_nil))))) (pa_cons (pe_tup (pa_cons pe_str (pa_cons pe_int (pa_cons (pe_css rfl T.c_LEAF) pa_nil)))) pa_nil)))) (pv 0)) pa_nil)))), ?_⟩
    have h600 := ok.len
    unfold fill at h600
    rw [List.length_append] at h600
    rw [z0]
    walk_at "st"
    walk_at "st"
    walk_at "st"
    walk_at "st"
    refine rd_lst (rs := [.set 1 t, .cons 0 1 0, .set 1 .lf]) (RD.cons (by walk_at "row") (RD.cons (by walk_at "row") (RD.cons (by walk_at "row") RD.nil))) (Nat.le_of_ble_eq_true rfl) d fun p H1 hp s1 e1 => ?_
    walk_at "go"
    refine rd_cat (same_dom s1 d) e1 (pr.keep (same_keep s1)) (by omega) fun q H2 hq s2 e2 => ?_
    walk_at "go"
    exact ⟨M, q, fill rs t, rfl, e2, ok, fun H3 s3 => k q H3 (Same.free s1 hq) ((s1.trans s2).trans s3) (e2.keep (same_keep s3))⟩
/-! ### narrow, clearing, one_code -/
def sp_narrow : Sp := fun vs H Q _ => ∃ (M : List Addr) (a : Addr) (rs : List Row), vs = [.ref a] ∧ PrAt M H a rs ∧ rs.length ≤ 1000 ∧ wd rs ≤ 16 ∧ ∀ H', Same H H' → Q (.int (wd rs : Int)) H'
theorem narrow_ok (T : Txt w K mg) : Cal P w K mg base 3 "narrow" sp_narrow := by
  refine mkCal T.f_narrow T.g_narrow sc_narrow (fun _ _ _ _ _ _ us hl => match us, hl with | [_], _ => rfl) (fun vs H Q E h => ?_) (fun cdv A outer s H vs Q E hr h => ?_)
  · obtain ⟨M, a, rs, rfl, _⟩ := h
    rfl
  · obtain ⟨M, a, rs, rfl, pr, hl, hw, k⟩ := h
    refine ⟨_,
      (pss_cons (ps_st 1 sc_narrow.nd (pe_c (width_ok T) hr (by decide) rfl (pa_cons (pv 0) pa_nil)))
      (pss_cons (ps_if (pt_cmpR op_gt (pv 1) (pe_csi rfl T.c_MOST_WIDTH) (nomark _)) 
          (pss_one ps_never) pss_nil)
      (pss_one (ps_ret (pv 1))))), ?_⟩
    walk_at "go"
    refine ⟨M, a, rs, rfl, pr, hl, fun H1 s1 => ?_⟩
    walk_at "go"
    refine r_isF (decide_eq_false (by omega)) ?_
    walk_at "go"
    exact k _ s1
def clr (f n : Nat) : List Row := (List.range n).map fun i => Row.set (f + i) .lf
def sp_clearing : Sp := fun vs H Q _ => ∃ (M : List Addr) (f n : Nat) (e : Int), vs = [.int f, .int e] ∧ e + 1 = f + n ∧ f ≤ 1000 ∧ n ≤ 1000 ∧ Dom M H ∧ ∀ p H', H p = none → Same H H' → PrAt M H' p (clr f n) → Q (.ref p) H'
theorem clearing_ok (T : Txt w K mg) : Cal P w K mg base 1 "clearing" sp_clearing := by
  refine mkCal T.f_clearing T.g_clearing sc_clearing (fun _ _ _ _ _ _ us hl => match us, hl with | [_, _], _ => rfl) (fun vs H Q E h => ?_) (fun cdv A outer s H vs Q E hr h => ?_)
  · obtain ⟨M, f, n, e, rfl, _⟩ := h
    rfl
  · obtain ⟨M, f, n, e, rfl, he, hf, hn, d, k⟩ := h
    refine ⟨_,
      (pss_one (ps_ret (pe_lc (own := [(("place" : Str), 2)]) (by rfl) sc_clearing.nd (pi_range2 (by rfl) T.n_range (pa_cons (pv 0) (pa_cons (pe_op op_add (pv 1) pe_int) pa_nil))) (blkOk_by (own := [(("place" : Str), 2)]) (N := names_clearing) (sc := defScope s_clearing) (by decide +kernel)) (fun _ _ _ _ _ => (pg_nm 2 sc_clearing.nd)) (fun _ _ _ _ _ => pts_nil) (fun _ _ _ _ _ => (pe_tup (pa_cons pe_str (pa_cons (pv 2) (pa_cons pe_str pa_nil)))))))), ?_⟩
    rw [z0]
    walk_at "go"
    refine ⟨_, _, rfl, ⟨by omega, by omega, by omega, by omega⟩, fun D hD => ?_⟩
    rw [show (e + 1 - (f : Int)).toNat = n by omega]
    refine lc_it walk_range (fun i H' => Same H H' ∧ D ∉ M ∧ ∃ us, H' D = some (.lst us) ∧ RowsAt (D :: M) H' us ((List.range i).map fun i => Row.set (f + i) .lf)) ⟨same_new hD, d.out hD, [], upd_same, .nil⟩ (fun _ _ _ _ => trivial) ?_ ?_
    · rintro i x H1 H' hi ⟨s1, hDM, us, hd, hu⟩ ⟨rfl, rfl⟩
      have dD : Dom (D :: M) H' := fun m hm e => by
        rcases List.mem_cons.mp hm with z | z
        · rw [z, hd] at e
          cases e
        · exact same_dom s1 d m z e
      walk_at "go"
      refine ⟨by show 3 ≤ sizeLine; decide, fun p hp => ?_⟩
      have e1 : RowAt (D :: M) (upd H' p (.tup [.str "set", .int ((f : Int) + i), .str (S [48])])) (.ref p) (.set (f + i) .lf) := row_new dD hp rfl
      have s2 : Same H' (upd H' p (.tup [.str "set", .int ((f : Int) + i), .str (S [48])])) := same_new hp
      generalize upd H' p (.tup [.str "set", .int ((f : Int) + i), .str (S [48])]) = H2 at e1 s2
      have hul := RowsAt.len hu
      rw [List.length_map, List.length_range] at hul
      refine ⟨us, s2 _ _ hd, Nat.lt_of_lt_of_le (show us.length < 1000000 by omega) (by decide), same_mut (s1.trans s2) hD, hDM, _, upd_same, ?_⟩
      rw [List.range_succ, List.map_append]
      exact RowsAt.keep (RowsAt.app (RowsAt.keep hu (same_keep s2)) (.cons e1 .nil)) (Keep.put (List.mem_cons_self ..))
    · rintro H' ⟨s1, hDM, us, hd, hu⟩
      exact k D H' hD s1 ⟨hDM, us, hd, RowsAt.mono hu fun m hm => List.mem_cons_of_mem _ hm⟩
def sp_one_code : Sp := fun vs H Q _ => ∃ (p : Addr) (r : Row), vs = [.ref p] ∧ H p = some (.tup r.vals) ∧ r.code.sz ≤ 100000 ∧ ∀ H', Same H H' → Q (.str (S r.code.enc)) H'
theorem cut_code (l : List Nat) : cutS (S (49 :: (l ++ [48]))) (some 1) (some (-1)) = S l := by
  unfold cutS
  have h1 : (S (49 :: (l ++ [48]))).length = l.length + 2 := by
    rw [S_len]
    simp
  have e1 : HT.sIx (l.length + 2) 0 (some 1) = 1 := sIx1 (l.length + 1)
  have e2 : HT.sIx (l.length + 2) (l.length + 2) (some (-1)) = l.length + 1 := by
    show (if (-1 : Int) < 0 then ((-1 : Int) + ((l.length + 2 : Nat) : Int)).toNat else min (-1 : Int).toNat (l.length + 2)) = _
    rw [if_pos (by decide)]
    omega
  rw [h1, e1, e2]
  show S (((49 :: (l ++ [48])).drop 1).take (l.length + 1 - 1)) = _
  simp
theorem one_code_ok (T : Txt w K mg) : Cal P w K mg base 5 "one_code" sp_one_code := by
  refine mkCal T.f_one_code T.g_one_code sc_one_code (fun _ _ _ _ _ _ us hl => match us, hl with | [_], _ => rfl) (fun vs H Q E h => ?_) (fun cdv A outer s H vs Q E hr h => ?_)
  · obtain ⟨p, r, rfl, _⟩ := h
    rfl
  · obtain ⟨p, r, rfl, hp, hz, k⟩ := h
    refine ⟨_,
      (pss_one (ps_ret (pe_slice sl_str (pe_c (code_ok T) hr (by decide) rfl (pa_cons (pe_lst (pa_cons (pv 0) pa_nil)) pa_nil)) (po_some pe_int) (po_some (pe_un un_neg pe_int))))), ?_⟩
    walk_at "go"
    refine ⟨by show 1 ≤ sizeLine; decide, fun q hq => ?_⟩
    walk_at "go"
    have ez : (codeT [r]).sz = r.code.sz + 2 := by
      unfold codeT
      rw [lst_sz]
      simp
    refine ⟨[], q, [r], rfl, ⟨by simp, [.ref p], upd_same, .cons ⟨p, rfl, by simp, same_new hq _ _ hp⟩ .nil⟩, by rw [ez]; omega, fun H1 s1 => ?_⟩
    walk_at "go"
    have el := (codeT [r]).len
    refine ⟨_, rfl, by rw [S_len, el, ez]; exact Nat.le_trans (show _ ≤ 1000000 by omega) (by decide), ?_⟩
    rw [show (codeT [r]).enc = 49 :: (r.code.enc ++ [48]) from rfl, show (-(1 : Int)) = -1 from rfl, cut_code]
    exact k _ ((same_new hq).trans s1)
end
end K38
set_option Elab.async false
set_option linter.all false
set_option maxRecDepth 100000
set_option maxHeartbeats 4000000
namespace K38
open PySem PySem.Spec PyProof.Rows L2 He SX
/-! ### the walk's own steps -/
local macro_rules | `(tactic| walk_at "hp") => `(tactic| first
  | assumption
  | with_reducible exact upd_same
  | (refine Eq.trans (upd_ne (by first | assumption | exact Ne.symm (by assumption))) ?_; walk_at "hp"))
local macro_rules | `(tactic| walk_at "st0") => `(tactic| with_reducible first
  | refine r_seq ?_ | refine r_asg ?_ | ((refine r_var (v := ?v) ?h ?_); (case h => with_unfolding_all exact rfl)) | refine r_c ?_ | refine r_op ?_ | refine r_cons ?_ | refine r_nil ?_ | refine r_gname ?_ | refine r_cb ?_ | refine r_call ?_
  | refine r_if ?_ | refine r_ret ?_ | refine r_test ?_ | refine r_bl ?_ | refine r_I0 ?_ | ((refine r_eq ?h ?_); (case h => with_unfolding_all exact rfl)) | ((refine r_ne ?h ?_); (case h => with_unfolding_all exact rfl))
  | refine r_T ?_ | refine r_F ?_ | refine r_nT ?_ | refine r_nF ?_ | refine r_not ?_ | refine r_and ?_ | refine r_or ?_ | refine r_B ?_ | refine r_next ?_ | refine r_drop ?_ | refine r_tup ?_ | refine r_bm ?_ | refine r_bm0 ?_
  | refine r_chain ?_ | refine r_andV ?_ | refine r_notV ?_ | refine r_isN ?_ | refine r_notN ?_ | refine r_dget ?_ | refine r_din ?_ | refine r_dnotin ?_ | refine r_un ?_ | refine r_rU ?_ | refine r_gsub ?_
  | ((refine r_aug (x := ?x) ?h ?_); (case h => with_unfolding_all exact rfl)) | refine r_ipI ?_ | refine r_for ?_ | refine r_lc ?_ | refine r_iList ?_ | refine r_iTup ?_ | refine r_iStr ?_ | refine r_iRng1 ?_ | refine r_iRng2 ?_ | refine r_iEnum ?_ | ((refine r_wipe ?h ?_); (case h => with_unfolding_all exact rfl)) | refine r_yes ?_ | refine r_rng ?_ | refine r_part ?_ | refine r_nopart ?_ | refine r_exi ?_ | refine r_int1 ?_ | refine r_abs ?_ | refine r_m1 ?_ | refine r_trk ?_ | ((refine r_ixT0 (xs := ?xs) (v := ?v) ?h ?hv ?_); (case h => walk_at "hp"); (case hv => with_unfolding_all exact rfl)) | ((refine r_ixT1 (xs := ?xs) (v := ?v) ?h ?hv ?_); (case h => walk_at "hp"); (case hv => with_unfolding_all exact rfl)) | ((refine r_ixT2 (xs := ?xs) (v := ?v) ?h ?hv ?_); (case h => walk_at "hp"); (case hv => with_unfolding_all exact rfl)) | ((refine r_ixT3 (xs := ?xs) (v := ?v) ?h ?hv ?_); (case h => walk_at "hp"); (case hv => with_unfolding_all exact rfl)) | refine r_strv ?_)
local macro_rules | `(tactic| walk_at "st") => `(tactic| first | walk_at "st0" | with_reducible refine r_lst ?_)
local macro_rules | `(tactic| walk_at "g0") => `(tactic| repeat walk_at "st0")
local macro_rules | `(tactic| walk_at "go") => `(tactic| repeat walk_at "st")
local macro_rules | `(tactic| walk_at "dk") => `(tactic| first | refine r_isT (by decide +kernel) ?_ | refine r_isF (by decide +kernel) ?_)
local macro_rules | `(tactic| walk_at "gd") => `(tactic| repeat first | walk_at "st" | walk_at "dk")
local macro_rules | `(tactic| walk_at "row") => `(tactic| exact re_tup (fun _ _ _ q => by (walk_at "go"; exact q)) rfl (Nat.le_of_ble_eq_true rfl))
/-! ### a list of rows that is being made -/
def ML (M : List Addr) (H : Hp) (f : Addr) (rs : List Row) : Prop := f ∉ M ∧ ∃ vs, H f = some (.lst vs) ∧ RowsAt (f :: M) H vs rs
section
variable {M : List Addr} {H H' : Hp} {f p : Addr} {rs qs : List Row} {vs : List V} {v : V} {r : Row}
theorem rows_fresh (h : RowsAt M H vs rs) (hp : H p = none) : RowsAt (p :: M) H vs rs := Paired.mapP h fun v r ⟨q, e, n, hq⟩ => ⟨q, e, fun z => by
  rcases List.mem_cons.mp z with z | z
  · rw [z, hp] at hq
    cases hq
  · exact n z, hq⟩
theorem ML.pr (h : ML M H f rs) : PrAt M H f rs := let ⟨n, vs, e, u⟩ := h; ⟨n, vs, e, RowsAt.mono u fun m hm => List.mem_cons_of_mem _ hm⟩
theorem ML.keep (h : ML M H f rs) (s : Same H H') : ML M H' f rs := let ⟨n, vs, e, u⟩ := h; ⟨n, vs, s _ _ e, RowsAt.keep u (same_keep s)⟩
theorem ML.dom (h : ML M H f rs) (d : Dom M H) : Dom (f :: M) H := fun m hm e => by
  rcases List.mem_cons.mp hm with z | z
  · obtain ⟨_, vs, q, _⟩ := h
    rw [z, q] at e
    cases e
  · exact d m z e
theorem ml_new {σ : L2.St} {ta : TA} {Q : VK} (h : RD H M σ ta rs) (hl : rs.length ≤ 1000) (d : Dom M H) (k : ∀ f H', H f = none → Same H H' → ML M H' f rs → Q (.ref f) H') : tLst ta σ H Q :=
  h H _ (Same.refl H) d fun vs H1 s1 e1 => ⟨by rw [RowsAt.len e1]; exact Nat.le_trans hl (by decide), fun p hp => k p _ (Same.free s1 hp) (s1.trans (same_new hp)) ⟨(same_dom s1 d).out hp, vs, upd_same, RowsAt.keep (rows_fresh e1 hp) (same_keep (same_new hp))⟩⟩
theorem ml_nil {Q : VK} (d : Dom M H) (k : ∀ f H', H f = none → Same H H' → ML M H' f [] → Q (.ref f) H') {σ : L2.St} : tLst tNil σ H Q := ml_new RD.nil (by decide) d k
/-- a row goes behind the list -/
theorem ml_app {Q : VK} (m : ML M H f rs) (h : RowAt (f :: M) H v r) (hl : rs.length ≤ 10000) (k : ∀ H', (∀ H0, Same H0 H → H0 f = none → Same H0 H') → Keep [f] H H' → ML M H' f (rs ++ [r]) → Q .non H') : rAppend (.ref f) [v] H Q := by
  obtain ⟨n, vs, e, u⟩ := m
  refine r_app e (Nat.lt_of_lt_of_le (show vs.length < 1000000 by rw [RowsAt.len u]; omega) (by decide)) ?_
  refine k _ (fun H0 s hn => same_mut s hn) (Keep.put (List.mem_cons_self ..)) ⟨n, _, upd_same, ?_⟩
  exact RowsAt.keep (RowsAt.app u (.cons h .nil)) (Keep.put (List.mem_cons_self ..))
theorem r_ext {Q : VK} {q : Addr} (m : ML M H f rs) (h : PrAt (f :: M) H q qs) (hl : rs.length + qs.length ≤ 10000) (k : ∀ H', (∀ H0, Same H0 H → H0 f = none → Same H0 H') → Keep [f] H H' → ML M H' f (rs ++ qs) → Q .non H') : rExtend (.ref f) [.ref q] H Q := by
  obtain ⟨n, vs, e, u⟩ := m
  obtain ⟨n2, ws, e2, u2⟩ := h
  refine ⟨f, q, vs, ws, rfl, rfl, e, e2, Nat.le_trans (show _ ≤ 1000000 by rw [RowsAt.len u, RowsAt.len u2]; omega) (by decide), ?_⟩
  refine k _ (fun H0 s hn => same_mut s hn) (Keep.put (List.mem_cons_self ..)) ⟨n, _, upd_same, ?_⟩
  exact RowsAt.keep (RowsAt.app u u2) (Keep.put (List.mem_cons_self ..))
theorem ML.ty {B : Prop} {K : PySem.W.Frag} (m : ML M H f rs) (q : B) : tyV K "list" (.ref f) H ∧ B := let ⟨_, vs, e, _⟩ := m; r_tyL e q
end
section
variable {P : Program} {w : World} {K : PySem.W.Frag} {mg : Str → Option Value} {base : Heap}
/-! ### opening -/
abbrev c1 : Tr := (Row.set 1 .lf).code
abbrev c2 : Tr := (Row.cons 0 1 0).code
def opn0 : List Row := [.head 2 0, .tail 3 0, .set 4 one, .cons 4 4 2, .cons 4 1 4, .set 5 c1, .cons 5 5 2, .set 6 c2, .cons 5 6 5, .cons 5 4 5, .cons 0 5 3]
def opn : List Row := opn0 ++ clr 2 5
def sp_opening : Sp := fun vs H Q _ => ∃ M : List Addr, vs = [] ∧ Dom M H ∧ ∀ p H', H p = none → Same H H' → PrAt M H' p opn → Q (.ref p) H'
theorem opening_ok (T : Txt w K mg) : Cal P w K mg base 6 "opening" sp_opening := by
  refine mkCal T.f_opening T.g_opening sc_opening (fun _ _ _ _ _ _ us hl => match us, hl with | [], _ => rfl) (fun vs H Q E h => ?_) (fun cdv A outer s H vs Q E hr h => ?_)
  · obtain ⟨M, rfl, _⟩ := h
    rfl
  · obtain ⟨M, rfl, d, k⟩ := h
    refine ⟨_,
      (pss_cons (ps_st 0 sc_opening.nd (pe_lst (pa_cons (pe_tup (pa_cons pe_str (pa_cons pe_int (pa_cons pe_int pa_nil)))) (pa_cons (pe_tup (pa_cons pe_str (pa_cons pe_int (pa_cons pe_int pa_nil)))) (pa_cons (pe_tup (pa_cons pe_str (pa_cons pe_int (pa_cons pe_str pa_nil)))) (pa_cons (pe_tup (pa_cons pe_str (pa_cons pe_int (pa_cons pe_int (pa_cons pe_int pa_nil))))) (pa_cons (pe_tup (pa_cons pe_str (pa_cons pe_int (pa_cons pe_int (pa_cons pe_int pa_nil))))) pa_nil)))))))
      (pss_cons (ps_expr (pe_app (pv 0) (pe_tup (pa_cons pe_str (pa_cons pe_int (pa_cons (pe_c (one_code_ok T) hr (by decide) rfl (pa_cons (pe_tup (pa_cons pe_str (pa_cons pe_int (pa_cons pe_str pa_nil)))) pa_nil)) pa_nil))))))
      (pss_cons (ps_expr (pe_app (pv 0) (pe_tup (pa_cons pe_str (pa_cons pe_int (pa_cons pe_int (pa_cons pe_int pa_nil)))))))
      (pss_cons (ps_expr (pe_app (pv 0) (pe_tup (pa_cons pe_str (pa_cons pe_int (pa_cons (pe_c (one_code_ok T) hr (by decide) rfl (pa_cons (pe_tup (pa_cons pe_str (pa_cons pe_int (pa_cons pe_int (pa_cons pe_int pa_nil))))) pa_nil)) pa_nil))))))
      (pss_cons (ps_expr (pe_ext (pv 0) (pe_lst (pa_cons (pe_tup (pa_cons pe_str (pa_cons pe_int (pa_cons pe_int (pa_cons pe_int pa_nil))))) (pa_cons (pe_tup (pa_cons pe_str (pa_cons pe_int (pa_cons pe_int (pa_cons pe_int pa_nil))))) (pa_cons (pe_tup (pa_cons pe_str (pa_cons pe_int (pa_cons pe_int (pa_cons pe_int pa_nil))))) pa_nil))))))
      (pss_one (ps_ret (pe_op op_cat (pv 0) (pe_c (clearing_ok T) hr (by decide) rfl (pa_cons pe_int (pa_cons pe_int pa_nil))))))))))), ?_⟩
    rw [z100, z0]
    walk_at "st"
    walk_at "st"
    refine ml_new (rs := [.head 2 0, .tail 3 0, .set 4 one, .cons 4 4 2, .cons 4 1 4]) (RD.cons (by walk_at "row") (RD.cons (by walk_at "row") (RD.cons (by walk_at "row") (RD.cons (by walk_at "row") (RD.cons (by walk_at "row") RD.nil))))) (Nat.le_of_ble_eq_true rfl) d fun f H1 hf s1 m1 => ?_
    walk_at "go"
    refine m1.ty ?_
    walk_at "go"
    refine ⟨by show 3 ≤ sizeLine; decide, fun p2 hp2 => ?_⟩
    have s2 := same_new (o := .tup [.str "set", .int 1, .str (S [48])]) hp2
    have e2 : (upd H1 p2 (.tup [.str "set", .int 1, .str (S [48])])) p2 = some (.tup (Row.set 1 .lf).vals) := upd_same
    generalize upd H1 p2 (.tup [.str "set", .int 1, .str (S [48])]) = H2 at s2 e2
    walk_at "go"
    refine ⟨p2, .set 1 .lf, rfl, e2, by decide, fun H3 s3 => ?_⟩
    have m3 := m1.keep (s2.trans s3)
    have t3 := s1.trans (s2.trans s3)
    walk_at "go"
    refine ⟨by show 3 ≤ sizeLine; decide, fun p4 hp4 => ?_⟩
    have r4 : RowAt (f :: M) (upd H3 p4 (.tup [.str "set", .int 5, .str (S c1.enc)])) (.ref p4) (.set 5 c1) := row_new (m3.dom (same_dom t3 d)) hp4 rfl
    have s4 := same_new (o := .tup [.str "set", .int 5, .str (S c1.enc)]) hp4
    have m4 := m3.keep s4
    have t4 := t3.trans s4
    clear m3 t3 m1 s1 s2 e2 s3 s4
    walk_at "go"
    refine ml_app m4 r4 (Nat.le_of_ble_eq_true rfl) fun H5 t5 _ m5 => ?_
    have t5 := t5 _ t4 hf
    clear m4 r4 t4
    walk_at "go"
    refine m5.ty ?_
    walk_at "go"
    refine ⟨by show 4 ≤ sizeLine; decide, fun p6 hp6 => ?_⟩
    have r6 : RowAt (f :: M) (upd H5 p6 (.tup [.str "cons", .int 5, .int 5, .int 2])) (.ref p6) (.cons 5 5 2) := row_new (m5.dom (same_dom t5 d)) hp6 rfl
    have s6 := same_new (o := .tup [.str "cons", .int 5, .int 5, .int 2]) hp6
    have m6 := m5.keep s6
    have t6 := t5.trans s6
    clear m5 t5 s6
    walk_at "go"
    refine ml_app m6 r6 (Nat.le_of_ble_eq_true rfl) fun H7 t7 _ m7 => ?_
    have t7 := t7 _ t6 hf
    clear m6 r6 t6
    walk_at "go"
    refine m7.ty ?_
    walk_at "go"
    refine ⟨by show 4 ≤ sizeLine; decide, fun p8 hp8 => ?_⟩
    have s8 := same_new (o := .tup [.str "cons", .int 0, .int 1, .int 0]) hp8
    have e8 : (upd H7 p8 (.tup [.str "cons", .int 0, .int 1, .int 0])) p8 = some (.tup (Row.cons 0 1 0).vals) := upd_same
    generalize upd H7 p8 (.tup [.str "cons", .int 0, .int 1, .int 0]) = H8 at s8 e8
    walk_at "go"
    refine ⟨p8, .cons 0 1 0, rfl, e8, by decide, fun H9 s9 => ?_⟩
    have m9 := m7.keep (s8.trans s9)
    have t9 := t7.trans (s8.trans s9)
    walk_at "go"
    refine ⟨by show 3 ≤ sizeLine; decide, fun p10 hp10 => ?_⟩
    have r10 : RowAt (f :: M) (upd H9 p10 (.tup [.str "set", .int 6, .str (S c2.enc)])) (.ref p10) (.set 6 c2) := row_new (m9.dom (same_dom t9 d)) hp10 rfl
    have s10 := same_new (o := .tup [.str "set", .int 6, .str (S c2.enc)]) hp10
    have m10 := m9.keep s10
    have t10 := t9.trans s10
    clear m9 t9 m7 t7 s8 e8 s9 s10
    walk_at "go"
    refine ml_app m10 r10 (Nat.le_of_ble_eq_true rfl) fun H11 t11 _ m11 => ?_
    have t11 := t11 _ t10 hf
    clear m10 r10 t10
    walk_at "go"
    refine m11.ty ?_
    walk_at "st"
    refine rd_lst (rs := [.cons 5 6 5, .cons 5 4 5, .cons 0 5 3]) (RD.cons (by walk_at "row") (RD.cons (by walk_at "row") (RD.cons (by walk_at "row") RD.nil))) (Nat.le_of_ble_eq_true rfl) (m11.dom (same_dom t11 d)) fun q H12 hq s12 e12 => ?_
    have m12 := m11.keep s12
    have t12 := t11.trans s12
    clear m11 t11 s12
    walk_at "go"
    refine r_ext m12 e12 (Nat.le_of_ble_eq_true rfl) fun H13 t13 _ m13 => ?_
    have t13 := t13 _ t12 hf
    clear m12 e12 t12
    walk_at "go"
    refine ⟨M, 2, 5, 6, rfl, by decide, by decide, by decide, same_dom t13 d, fun c H14 hc s14 e14 => ?_⟩
    refine rd_cat (same_dom (t13.trans s14) d) (m13.pr.keep (same_keep s14)) e14 (Nat.le_of_ble_eq_true rfl) fun g H15 hg s15 e15 => ?_
    exact k g H15 (Same.free (t13.trans s14) hg) ((t13.trans s14).trans s15) e15
end
end K38
set_option Elab.async false
set_option linter.all false
set_option maxRecDepth 100000
set_option maxHeartbeats 4000000
namespace K38
open PySem PySem.Spec PyProof.Rows L2 He SX
/-! ### the walk's own steps -/
local macro_rules | `(tactic| walk_at "hp") => `(tactic| first
  | assumption
  | with_reducible exact upd_same
  | (refine Eq.trans (upd_ne (by first | assumption | exact Ne.symm (by assumption))) ?_; walk_at "hp"))
local macro_rules | `(tactic| walk_at "st0") => `(tactic| with_reducible first
  | refine r_seq ?_ | refine r_asg ?_ | ((refine r_var (v := ?v) ?h ?_); (case h => with_unfolding_all exact rfl)) | refine r_c ?_ | refine r_op ?_ | refine r_cons ?_ | refine r_nil ?_ | refine r_gname ?_ | refine r_cb ?_ | refine r_call ?_
  | refine r_if ?_ | refine r_ret ?_ | refine r_test ?_ | refine r_bl ?_ | refine r_I0 ?_ | ((refine r_eq ?h ?_); (case h => with_unfolding_all exact rfl)) | ((refine r_ne ?h ?_); (case h => with_unfolding_all exact rfl))
  | refine r_T ?_ | refine r_F ?_ | refine r_nT ?_ | refine r_nF ?_ | refine r_not ?_ | refine r_and ?_ | refine r_or ?_ | refine r_B ?_ | refine r_next ?_ | refine r_drop ?_ | refine r_tup ?_ | refine r_bm ?_ | refine r_bm0 ?_
  | refine r_chain ?_ | refine r_andV ?_ | refine r_notV ?_ | refine r_isN ?_ | refine r_notN ?_ | refine r_dget ?_ | refine r_din ?_ | refine r_dnotin ?_ | refine r_un ?_ | refine r_rU ?_ | refine r_gsub ?_
  | ((refine r_aug (x := ?x) ?h ?_); (case h => with_unfolding_all exact rfl)) | refine r_ipI ?_ | refine r_for ?_ | refine r_lc ?_ | refine r_iList ?_ | refine r_iTup ?_ | refine r_iStr ?_ | refine r_iRng1 ?_ | refine r_iRng2 ?_ | refine r_iEnum ?_ | ((refine r_wipe ?h ?_); (case h => with_unfolding_all exact rfl)) | refine r_yes ?_ | refine r_rng ?_ | refine r_part ?_ | refine r_nopart ?_ | refine r_exi ?_ | refine r_int1 ?_ | refine r_abs ?_ | refine r_m1 ?_ | refine r_trk ?_ | ((refine r_ixT0 (xs := ?xs) (v := ?v) ?h ?hv ?_); (case h => walk_at "hp"); (case hv => with_unfolding_all exact rfl)) | ((refine r_ixT1 (xs := ?xs) (v := ?v) ?h ?hv ?_); (case h => walk_at "hp"); (case hv => with_unfolding_all exact rfl)) | ((refine r_ixT2 (xs := ?xs) (v := ?v) ?h ?hv ?_); (case h => walk_at "hp"); (case hv => with_unfolding_all exact rfl)) | ((refine r_ixT3 (xs := ?xs) (v := ?v) ?h ?hv ?_); (case h => walk_at "hp"); (case hv => with_unfolding_all exact rfl)) | refine r_strv ?_)
local macro_rules | `(tactic| walk_at "st") => `(tactic| first | walk_at "st0" | with_reducible refine r_lst ?_)
local macro_rules | `(tactic| walk_at "g0") => `(tactic| repeat walk_at "st0")
local macro_rules | `(tactic| walk_at "go") => `(tactic| repeat walk_at "st")
local macro_rules | `(tactic| walk_at "dk") => `(tactic| first | refine r_isT (by decide +kernel) ?_ | refine r_isF (by decide +kernel) ?_)
local macro_rules | `(tactic| walk_at "gd") => `(tactic| repeat first | walk_at "st" | walk_at "dk")
local macro_rules | `(tactic| walk_at "row") => `(tactic| exact re_tup (fun _ _ _ q => by (walk_at "go"; exact q)) rfl (Nat.le_of_ble_eq_true rfl))
section
variable {P : Program} {w : World} {K : PySem.W.Frag} {mg : Str → Option Value} {base : Heap}
/-! ### knowing_any -/
def kn (rs : List Row) : List Row := fill (opn ++ rs) (codeT (opn ++ rs))
structure KOk (rs : List Row) : Prop where
  ok1 : Ok (opn ++ rs)
  ok2 : Ok (kn rs)
  sz1 : (codeT (opn ++ rs)).sz ≤ 200000
  sz2 : (codeT (kn rs)).sz ≤ 200000
def sp_knowing_any : Sp := fun vs H Q _ => ∃ (M : List Addr) (a : Addr) (rs : List Row), vs = [.ref a] ∧ Dom M H ∧ PrAt M H a rs ∧ KOk rs ∧ ∀ p H', H p = none → Same H H' → PrAt M H' p (kn rs) → Q (.ref p) H'
theorem knowing_any_ok (T : Txt w K mg) : Cal P w K mg base 7 "knowing_any" sp_knowing_any := by
  refine mkCal T.f_knowing_any T.g_knowing_any sc_knowing_any (fun _ _ _ _ _ _ us hl => match us, hl with | [_], _ => rfl) (fun vs H Q E h => ?_) (fun cdv A outer s H vs Q E hr h => ?_)
  · obtain ⟨M, a, rs, rfl, _⟩ := h
    rfl
  · obtain ⟨M, a, rs, rfl, d, pr, ok, k⟩ := h
    refine ⟨_,
      (pss_cons (ps_st 1 sc_knowing_any.nd (pe_c (checked_knowing_ok T) hr (by decide) rfl (pa_cons (pe_op op_cat (pe_c0 (opening_ok T) hr (by decide) rfl) (pv 0)) pa_nil)))
      (pss_cons (ps_st 2 sc_knowing_any.nd (pe_c (checked_knowing_ok T) hr (by decide) rfl (pa_cons (pe_c (filled_ok T) hr (by decide) rfl (pa_cons (pv 1) (pa_cons (pe_c (code_ok T) hr (by decide) rfl (pa_cons (pv 1) pa_nil)) pa_nil))) pa_nil)))
      (pss_cons (ps_expr (pe_c (code_ok T) hr (by decide) rfl (pa_cons (pv 2) pa_nil)))
      (pss_one (ps_ret (pv 2)))))), ?_⟩
    have h600 := ok.ok1.len
    rw [List.length_append] at h600
    walk_at "go"
    refine ⟨M, rfl, d, fun p1 H1 hp1 s1 e1 => ?_⟩
    walk_at "go"
    refine rd_cat (same_dom s1 d) e1 (pr.keep (same_keep s1)) (by omega) fun p2 H2 hp2 s2 e2 => ?_
    have t2 := s1.trans s2
    walk_at "go"
    refine ⟨M, p2, _, rfl, e2, ok.ok1, fun H3 s3 => ?_⟩
    have t3 := t2.trans s3
    walk_at "go"
    refine ⟨M, p2, _, rfl, e2.keep (same_keep s3), ok.sz1, fun H4 s4 => ?_⟩
    have t4 := t3.trans s4
    walk_at "go"
    refine ⟨M, p2, _, _, rfl, same_dom t4 d, (e2.keep (same_keep s3)).keep (same_keep s4), ok.ok2, fun p5 H5 hp5 s5 e5 => ?_⟩
    have t5 := t4.trans s5
    walk_at "go"
    refine ⟨M, p5, _, rfl, e5, ok.ok2, fun H6 s6 => ?_⟩
    walk_at "go"
    refine ⟨M, p5, _, rfl, e5.keep (same_keep s6), ok.sz2, fun H7 s7 => ?_⟩
    walk_at "go"
    exact k p5 H7 (Same.free t4 hp5) ((t5.trans s6).trans s7) ((e5.keep (same_keep s6)).keep (same_keep s7))
/-! ### defeat -/
def pl (d y n : List Row) : Nat := max (wd d) (max (wd y) (wd n))
def dft (d y n : List Row) : List Row :=
  ((((((([.tail (pl d y n) 0, .head 0 0] ++ d) ++ [.move (pl d y n + 1) 0]) ++ clr 1 (pl d y n - 1)) ++ [.move 0 (pl d y n), .jump (pl d y n + 1) ((y.length : Int) + 3)]) ++ y) ++ [.set (pl d y n + 1) one, .jump (pl d y n + 1) ((n.length : Int) + 1)]) ++ n)
structure DOk (d y n : List Row) : Prop where
  wd_ : wd d ≤ 16
  wy : wd y ≤ 16
  wn : wd n ≤ 16
  ld : d.length ≤ 200
  ly : y.length ≤ 200
  ln : n.length ≤ 200
  ok : Ok (dft d y n)
  kok : KOk (dft d y n)
theorem wd_pos (rs : List Row) : 1 ≤ wd rs := fm_ge _ _
def sp_defeat : Sp := fun vs H Q _ => ∃ (M : List Addr) (a b c : Addr) (d y n : List Row), vs = [.ref a, .ref b, .ref c] ∧ Dom M H ∧ PrAt M H a d ∧ PrAt M H b y ∧ PrAt M H c n ∧ DOk d y n ∧ ∀ p H', H p = none → Same H H' → PrAt M H' p (kn (dft d y n)) → Q (.ref p) H'
theorem defeat_ok (T : Txt w K mg) : Cal P w K mg base 8 "defeat" sp_defeat := by
  refine mkCal T.f_defeat T.g_defeat sc_defeat (fun _ _ _ _ _ _ us hl => match us, hl with | [_, _, _], _ => rfl) (fun vs H Q E h => ?_) (fun cdv A outer s H vs Q E hr h => ?_)
  · obtain ⟨M, a, b, c, d, y, n, rfl, _⟩ := h
    rfl
  · obtain ⟨M, a, b, c, d, y, n, rfl, dom, pd, py, pn, ok, k⟩ := h
    refine ⟨_,
      (pss_cons (ps_st 3 sc_defeat.nd (pe_callB (cr_max rfl) (by rfl) T.n_max (by decide +kernel) (pa_cons (pe_lst (pa_cons (pe_c (narrow_ok T) hr (by decide) rfl (pa_cons (pv 0) pa_nil)) (pa_cons (pe_c (narrow_ok T) hr (by decide) rfl (pa_cons (pv 1) pa_nil)) (pa_cons (pe_c (narrow_ok T) hr (by decide) rfl (pa_cons (pv 2) pa_nil)) pa_nil)))) pa_nil)))
      (pss_cons (ps_st 4 sc_defeat.nd (pe_op op_add (pv 3) pe_int))
      (pss_cons (ps_st 5 sc_defeat.nd (pe_op op_cat (pe_op op_cat (pe_lst (pa_cons (pe_tup (pa_cons pe_str (pa_cons (pv 3) (pa_cons pe_int pa_nil)))) (pa_cons (pe_tup (pa_cons pe_str (pa_cons pe_int (pa_cons pe_int pa_nil)))) pa_nil))) (pv 0)) (pe_lst (pa_cons (pe_tup (pa_cons pe_str (pa_cons (pv 4) (pa_cons pe_int pa_nil)))) pa_nil))))
      (pss_cons (ps_st 5 sc_defeat.nd (pe_op op_cat (pe_op op_cat (pv 5) (pe_c (clearing_ok T) hr (by decide) rfl (pa_cons pe_int (pa_cons (pe_op op_sub (pv 3) pe_int) pa_nil)))) (pe_lst (pa_cons (pe_tup (pa_cons pe_str (pa_cons pe_int (pa_cons (pv 3) pa_nil)))) (pa_cons (pe_tup (pa_cons pe_str (pa_cons (pv 4) (pa_cons (pe_op op_add (pe_callB c_lenQ (by rfl) T.n_len PySem.boot_len (pa_cons (pv 1) pa_nil)) pe_int) pa_nil)))) pa_nil)))))
      (pss_cons (ps_st 5 sc_defeat.nd (pe_op op_cat (pe_op op_cat (pe_op op_cat (pv 5) (pv 1)) (pe_lst (pa_cons (pe_tup (pa_cons pe_str (pa_cons (pv 4) (pa_cons pe_str pa_nil)))) (pa_cons (pe_tup (pa_cons pe_str (pa_cons (pv 4) (pa_cons (pe_op op_add (pe_callB c_lenQ (by rfl) T.n_len PySem.boot_len (pa_cons (pv 2) pa_nil)) pe_int) pa_nil)))) pa_nil)))) (pv 2)))
      (pss_one (ps_ret (pe_c (knowing_any_ok T) hr (by decide) rfl (pa_cons (pe_c (checked_knowing_ok T) hr (by decide) rfl (pa_cons (pv 5) pa_nil)) pa_nil))))))))), ?_⟩
    have hwd := ok.wd_
    have hwy := ok.wy
    have hwn := ok.wn
    have hld := ok.ld
    have hly := ok.ly
    have hln := ok.ln
    have hpos := wd_pos d
    rw [z100]
    walk_at "go"
    refine ⟨M, a, d, rfl, pd, by omega, hwd, fun H1 s1 => ?_⟩
    walk_at "go"
    refine ⟨M, b, y, rfl, py.keep (same_keep s1), by omega, hwy, fun H2 s2 => ?_⟩
    have t2 := s1.trans s2
    walk_at "go"
    refine ⟨M, c, n, rfl, pn.keep (same_keep t2), by omega, hwn, fun H3 s3 => ?_⟩
    have t3 := t2.trans s3
    walk_at "go"
    refine ⟨by show 3 ≤ sizeLine; decide, fun q4 hq4 => ?_⟩
    walk_at "go"
    refine ⟨q4, [(wd d : Int), (wd y : Int), (wd n : Int)], rfl, SqL.of upd_same, by show 0 < 3; decide, fun m hm1 hm2 => ?_⟩
    have em : m = (pl d y n : Int) := by
      unfold pl
      have g1 := hm2 _ (List.mem_cons_self ..)
      have g2 := hm2 _ (List.mem_cons_of_mem _ (List.mem_cons_self ..))
      have g3 := hm2 _ (List.mem_cons_of_mem _ (List.mem_cons_of_mem _ (List.mem_cons_self ..)))
      simp only [List.mem_cons, List.not_mem_nil, or_false] at hm1
      omega
    subst em
    have t4 := t3.trans (same_new (o := .lst [.int (wd d : Int), .int (wd y : Int), .int (wd n : Int)]) hq4)
    have epl : [V.int (wd d : Int), V.int (wd y : Int), V.int (wd n : Int)] = [V.int (wd d : Int), V.int (wd y : Int), V.int (wd n : Int)] := rfl
    generalize upd H3 q4 (.lst [.int (wd d : Int), .int (wd y : Int), .int (wd n : Int)]) = H4 at t4 ⊢
    have hpl : pl d y n ≤ 16 ∧ 1 ≤ pl d y n := by
      unfold pl
      omega
    have edf : dft d y n = dft d y n := rfl
    conv at edf => rhs; unfold dft
    generalize epp : pl d y n = pp at edf hpl ⊢
    have dom4 := same_dom t4 dom
    walk_at "g0"
    refine rd_lst (rs := [.tail pp 0, .head 0 0]) (RD.cons (by walk_at "row") (RD.cons (by walk_at "row") RD.nil)) (Nat.le_of_ble_eq_true rfl) dom4 fun p5 H5 hp5 s5 e5 => ?_
    have t5 := t4.trans s5
    walk_at "g0"
    refine rd_cat (same_dom t5 dom) e5 (pd.keep (same_keep t5)) (by simp; omega) fun p6 H6 hp6 s6 e6 => ?_
    have t6 := t5.trans s6
    walk_at "g0"
    refine rd_lst (rs := [.move (pp + 1) 0]) (RD.cons (by walk_at "row") RD.nil) (Nat.le_of_ble_eq_true rfl) (same_dom t6 dom) fun p7 H7 hp7 s7 e7 => ?_
    have t7 := t6.trans s7
    walk_at "g0"
    refine rd_cat (same_dom t7 dom) (e6.keep (same_keep s7)) e7 (by simp; omega) fun p8 H8 hp8 s8 e8 => ?_
    have t8 := t7.trans s8
    walk_at "g0"
    refine ⟨M, 1, pp - 1, _, rfl, by omega, by decide, by omega, same_dom t8 dom, fun p9 H9 hp9 s9 e9 => ?_⟩
    have t9 := t8.trans s9
    walk_at "g0"
    have hcl : (clr 1 (pp - 1)).length ≤ 16 := by
      unfold clr
      rw [List.length_map, List.length_range]
      omega
    refine rd_cat (same_dom t9 dom) (e8.keep (same_keep s9)) e9 (by simp; omega) fun p10 H10 hp10 s10 e10 => ?_
    have t10 := t9.trans s10
    walk_at "g0"
    have dom10 := same_dom t10 dom
    obtain ⟨ub, hb, hub⟩ := (py.keep (same_keep t10)).2
    have lb := RowsAt.len hub
    refine rd_lst (rs := [.move 0 pp, .jump (pp + 1) ((y.length : Int) + 3)]) (RD.cons (by walk_at "row") (RD.cons (re_tup (xs := [.str "jump", .int (pp + 1), .int ((ub.length : Int) + 3)]) (fun H' QA s q => by (walk_at "go"; refine r_lenL (s _ _ hb) ?_; walk_at "go"; exact q)) (by rw [lb]; rfl) (Nat.le_of_ble_eq_true rfl)) RD.nil)) (Nat.le_of_ble_eq_true rfl) dom10 fun p11 H11 hp11 s11 e11 => ?_
    have t11 := t10.trans s11
    walk_at "g0"
    refine rd_cat (same_dom t11 dom) (e10.keep (same_keep s11)) e11 (by simp; omega) fun p12 H12 hp12 s12 e12 => ?_
    have t12 := t11.trans s12
    walk_at "g0"
    refine rd_cat (same_dom t12 dom) e12 (py.keep (same_keep t12)) (by simp; omega) fun p13 H13 hp13 s13 e13 => ?_
    have t13 := t12.trans s13
    have dom13 := same_dom t13 dom
    walk_at "g0"
    obtain ⟨uc, hc, huc⟩ := (pn.keep (same_keep t13)).2
    have lc := RowsAt.len huc
    refine rd_lst (rs := [.set (pp + 1) one, .jump (pp + 1) ((n.length : Int) + 1)]) (RD.cons (by walk_at "row") (RD.cons (re_tup (xs := [.str "jump", .int (pp + 1), .int ((uc.length : Int) + 1)]) (fun H' QA s q => by (walk_at "go"; refine r_lenL (s _ _ hc) ?_; walk_at "go"; exact q)) (by rw [lc]; rfl) (Nat.le_of_ble_eq_true rfl)) RD.nil)) (Nat.le_of_ble_eq_true rfl) dom13 fun p14 H14 hp14 s14 e14 => ?_
    have t14 := t13.trans s14
    walk_at "g0"
    refine rd_cat (same_dom t14 dom) (e13.keep (same_keep s14)) e14 (by simp; omega) fun p15 H15 hp15 s15 e15 => ?_
    have t15 := t14.trans s15
    walk_at "g0"
    refine rd_cat (same_dom t15 dom) e15 (pn.keep (same_keep t15)) (by simp; omega) fun p16 H16 hp16 s16 e16 => ?_
    have t16 := t15.trans s16
    rw [← edf] at e16
    walk_at "g0"
    refine ⟨M, p16, _, rfl, e16, ok.ok, fun H17 s17 => ?_⟩
    have t17 := t16.trans s17
    walk_at "g0"
    refine ⟨M, p16, _, rfl, same_dom t17 dom, e16.keep (same_keep s17), ok.kok, fun p18 H18 hp18 s18 e18 => ?_⟩
    exact k p18 H18 (Same.free t17 hp18) (t17.trans s18) e18
end
end K38
set_option Elab.async false
set_option linter.all false
set_option maxRecDepth 100000
set_option maxHeartbeats 4000000
namespace K38
open PySem PySem.Spec PyProof.Rows L2 He SX
/-! ### the walk's own steps -/
local macro_rules | `(tactic| walk_at "hp") => `(tactic| first
  | assumption
  | with_reducible exact upd_same
  | (refine Eq.trans (upd_ne (by first | assumption | exact Ne.symm (by assumption))) ?_; walk_at "hp"))
local macro_rules | `(tactic| walk_at "st0") => `(tactic| with_reducible first
  | refine r_seq ?_ | refine r_asg ?_ | ((refine r_var (v := ?v) ?h ?_); (case h => with_unfolding_all exact rfl)) | refine r_c ?_ | refine r_op ?_ | refine r_cons ?_ | refine r_nil ?_ | refine r_gname ?_ | refine r_cb ?_ | refine r_call ?_
  | refine r_if ?_ | refine r_ret ?_ | refine r_test ?_ | refine r_bl ?_ | refine r_I0 ?_ | ((refine r_eq ?h ?_); (case h => with_unfolding_all exact rfl)) | ((refine r_ne ?h ?_); (case h => with_unfolding_all exact rfl))
  | refine r_T ?_ | refine r_F ?_ | refine r_nT ?_ | refine r_nF ?_ | refine r_not ?_ | refine r_and ?_ | refine r_or ?_ | refine r_B ?_ | refine r_next ?_ | refine r_drop ?_ | refine r_tup ?_ | refine r_bm ?_ | refine r_bm0 ?_
  | refine r_chain ?_ | refine r_andV ?_ | refine r_notV ?_ | refine r_isN ?_ | refine r_notN ?_ | refine r_dget ?_ | refine r_din ?_ | refine r_dnotin ?_ | refine r_un ?_ | refine r_rU ?_ | refine r_gsub ?_
  | ((refine r_aug (x := ?x) ?h ?_); (case h => with_unfolding_all exact rfl)) | refine r_ipI ?_ | refine r_for ?_ | refine r_lc ?_ | refine r_iList ?_ | refine r_iTup ?_ | refine r_iStr ?_ | refine r_iRng1 ?_ | refine r_iRng2 ?_ | refine r_iEnum ?_ | ((refine r_wipe ?h ?_); (case h => with_unfolding_all exact rfl)) | refine r_yes ?_ | refine r_rng ?_ | refine r_part ?_ | refine r_nopart ?_ | refine r_exi ?_ | refine r_int1 ?_ | refine r_abs ?_ | refine r_m1 ?_ | refine r_pairs ?_ | refine r_pairs0 ?_ | refine r_dput ?_ | refine r_trk ?_ | ((refine r_ixT0 (xs := ?xs) (v := ?v) ?h ?hv ?_); (case h => walk_at "hp"); (case hv => with_unfolding_all exact rfl)) | ((refine r_ixT1 (xs := ?xs) (v := ?v) ?h ?hv ?_); (case h => walk_at "hp"); (case hv => with_unfolding_all exact rfl)) | ((refine r_ixT2 (xs := ?xs) (v := ?v) ?h ?hv ?_); (case h => walk_at "hp"); (case hv => with_unfolding_all exact rfl)) | ((refine r_ixT3 (xs := ?xs) (v := ?v) ?h ?hv ?_); (case h => walk_at "hp"); (case hv => with_unfolding_all exact rfl)) | refine r_strv ?_)
local macro_rules | `(tactic| walk_at "st") => `(tactic| first | walk_at "st0" | with_reducible refine r_lst ?_)
local macro_rules | `(tactic| walk_at "g0") => `(tactic| repeat walk_at "st0")
local macro_rules | `(tactic| walk_at "go") => `(tactic| repeat walk_at "st")
local macro_rules | `(tactic| walk_at "dk") => `(tactic| first | refine r_isT (by decide +kernel) ?_ | refine r_isF (by decide +kernel) ?_)
local macro_rules | `(tactic| walk_at "gd") => `(tactic| repeat first | walk_at "st" | walk_at "dk")
section
variable {σ : L2.St} {H : Hp} {D : Ends} {tk tv td ty : TE} {r : List (TE × TE)}
theorem r_pairs {QP : List (V × V) → Hp → Prop} (h : tk σ H fun x H1 => tv σ H1 fun y H2 => tPairs r σ H2 fun ps H3 => QP ((x, y) :: ps) H3) : tPairs ((tk, tv) :: r) σ H QP := h
theorem r_pairs0 {QP : List (V × V) → Hp → Prop} (h : QP [] H) : tPairs [] σ H QP := h
theorem r_dput (h : tv σ H fun v H1 => td σ H1 fun x H2 => ty σ H2 fun y H3 => ∃ a H4, x = .ref a ∧ DPut H3 a y v H4 ∧ D.nx σ H4) : sDPut td ty tv D σ H := h
end
/-! ### the walk's own steps -/
local macro_rules | `(tactic| walk_at "hp") => `(tactic| first
  | assumption
  | with_reducible exact upd_same
  | (refine Eq.trans (upd_ne (by first | assumption | exact Ne.symm (by assumption))) ?_; walk_at "hp"))
local macro_rules | `(tactic| walk_at "st0") => `(tactic| with_reducible first
  | refine r_seq ?_ | refine r_asg ?_ | ((refine r_var (v := ?v) ?h ?_); (case h => with_unfolding_all exact rfl)) | refine r_c ?_ | refine r_op ?_ | refine r_cons ?_ | refine r_nil ?_ | refine r_gname ?_ | refine r_cb ?_ | refine r_call ?_
  | refine r_if ?_ | refine r_ret ?_ | refine r_test ?_ | refine r_bl ?_ | refine r_I0 ?_ | ((refine r_eq ?h ?_); (case h => with_unfolding_all exact rfl)) | ((refine r_ne ?h ?_); (case h => with_unfolding_all exact rfl))
  | refine r_T ?_ | refine r_F ?_ | refine r_nT ?_ | refine r_nF ?_ | refine r_not ?_ | refine r_and ?_ | refine r_or ?_ | refine r_B ?_ | refine r_next ?_ | refine r_drop ?_ | refine r_tup ?_ | refine r_bm ?_ | refine r_bm0 ?_
  | refine r_chain ?_ | refine r_andV ?_ | refine r_notV ?_ | refine r_isN ?_ | refine r_notN ?_ | refine r_dget ?_ | refine r_din ?_ | refine r_dnotin ?_ | refine r_un ?_ | refine r_rU ?_ | refine r_gsub ?_
  | ((refine r_aug (x := ?x) ?h ?_); (case h => with_unfolding_all exact rfl)) | refine r_ipI ?_ | refine r_for ?_ | refine r_lc ?_ | refine r_iList ?_ | refine r_iTup ?_ | refine r_iStr ?_ | refine r_iRng1 ?_ | refine r_iRng2 ?_ | refine r_iEnum ?_ | ((refine r_wipe ?h ?_); (case h => with_unfolding_all exact rfl)) | refine r_yes ?_ | refine r_rng ?_ | refine r_part ?_ | refine r_nopart ?_ | refine r_exi ?_ | refine r_int1 ?_ | refine r_abs ?_ | refine r_m1 ?_ | refine r_pairs ?_ | refine r_pairs0 ?_ | refine r_dput ?_ | refine r_trk ?_ | ((refine r_ixT0 (xs := ?xs) (v := ?v) ?h ?hv ?_); (case h => walk_at "hp"); (case hv => with_unfolding_all exact rfl)) | ((refine r_ixT1 (xs := ?xs) (v := ?v) ?h ?hv ?_); (case h => walk_at "hp"); (case hv => with_unfolding_all exact rfl)) | ((refine r_ixT2 (xs := ?xs) (v := ?v) ?h ?hv ?_); (case h => walk_at "hp"); (case hv => with_unfolding_all exact rfl)) | ((refine r_ixT3 (xs := ?xs) (v := ?v) ?h ?hv ?_); (case h => walk_at "hp"); (case hv => with_unfolding_all exact rfl)) | refine r_strv ?_)
local macro_rules | `(tactic| walk_at "st") => `(tactic| first | walk_at "st0" | with_reducible refine r_lst ?_)
local macro_rules | `(tactic| walk_at "g0") => `(tactic| repeat walk_at "st0")
local macro_rules | `(tactic| walk_at "go") => `(tactic| repeat walk_at "st")
local macro_rules | `(tactic| walk_at "dk") => `(tactic| first | refine r_isT (by decide +kernel) ?_ | refine r_isF (by decide +kernel) ?_)
local macro_rules | `(tactic| walk_at "gd") => `(tactic| repeat first | walk_at "st" | walk_at "dk")
/-! ### the world -/
structure Wd where
  w : Addr
  h : Addr
  t : Addr
  s : Addr
  p : Addr
abbrev Wd.m (W : Wd) : List Addr := [W.h, W.t, W.s, W.p]
def nV (l : List Nat) : List V := l.map fun i : Nat => V.int (i : Int)
def dV (W : Wd) : List (Key × V) := [(.inr "heads", .ref W.h), (.inr "tails", .ref W.t), (.inr "sizes", .ref W.s), (.inr "pairs", .ref W.p)]
/-- the plain part -/
structure WOk (ts : List Tr) (hs tls : List Nat) (kvs : List (List Key × V)) : Prop where
  zero : ts[0]? = some .lf
  nodup : ts.Nodup
  lh : hs.length = ts.length
  lt : tls.length = ts.length
  at_ : ∀ (i : Nat) (t : Tr), ts[i]? = some t → ∃ j k : Nat, hs[i]? = some j ∧ tls[i]? = some k ∧ ts[j]? = some t.hd ∧ ts[k]? = some t.tl
  lk : kvs.length ≤ ts.length
  kv : ∀ (key : List Key) (v : V), valV kvs key = some v ↔ ∃ (j k i : Nat) (a b : Tr), key = [.inl (j : Int), .inl (k : Int)] ∧ v = .int (i : Int) ∧ ts[j]? = some a ∧ ts[k]? = some b ∧ ts[i]? = some (.nd a b)
structure WAt (H : Hp) (W : Wd) (ts : List Tr) : Prop where
  dict : H W.w = some (.dK (dV W))
  ne1 : W.h ≠ W.t
  ne2 : W.h ≠ W.s
  ne3 : W.t ≠ W.s
  ex : ∃ (hs tls : List Nat) (kvs : List (List Key × V)), H W.h = some (.lst (nV hs)) ∧ H W.t = some (.lst (nV tls)) ∧ H W.s = some (.lst (nV (ts.map Tr.sz))) ∧ H W.p = some (.dT kvs) ∧ WOk ts hs tls kvs
theorem nd_get {α : Type} {l : List α} (h : l.Nodup) {i j : Nat} {x : α} (a : l[i]? = some x) (b : l[j]? = some x) : i = j := nd_ix h a b
theorem pre_get {ts ts' : List Tr} (h : ts <+: ts') {i : Nat} {x : Tr} (e : ts[i]? = some x) : ts'[i]? = some x := by
  obtain ⟨r, rfl⟩ := h
  have hi : i < ts.length := (List.getElem?_eq_some_iff.mp e).1
  rw [List.getElem?_append_left hi]
  exact e
theorem nV_get {l : List Nat} {i j : Nat} (h : l[i]? = some j) : (nV l)[i]? = some (.int (j : Int)) := by
  unfold nV
  rw [List.getElem?_map, h]
  rfl
theorem putK_new {κ : Type} [DecidableEq κ] {kvs : List (κ × V)} {k : κ} {v : V} (h : valV kvs k = none) : putK kvs k v = kvs ++ [(k, v)] := by
  unfold putK
  rw [valV_any, h]
  rfl
theorem WOk.push {ts : List Tr} {hs tls : List Nat} {kvs : List (List Key × V)} (h : WOk ts hs tls kvs) {j k : Nat} {a b : Tr} (ha : ts[j]? = some a) (hb : ts[k]? = some b) (hn : valV kvs [.inl (j : Int), .inl (k : Int)] = none) :
    WOk (ts ++ [.nd a b]) (hs ++ [j]) (tls ++ [k]) (putK kvs [.inl (j : Int), .inl (k : Int)] (.int (ts.length : Int))) := by
  have hp : ts <+: ts ++ [.nd a b] := List.prefix_append ..
  have hni : Tr.nd a b ∉ ts := fun z => by
    obtain ⟨i, hi⟩ := List.mem_iff_getElem?.mp z
    have := (h.kv [.inl (j : Int), .inl (k : Int)] (.int (i : Int))).mpr ⟨j, k, i, a, b, rfl, rfl, ha, hb, hi⟩
    rw [hn] at this
    cases this
  have hnd : (ts ++ [Tr.nd a b]).Nodup := by
    rw [List.nodup_append]
    refine ⟨h.nodup, by simp, fun x hx y hy e => ?_⟩
    rw [List.mem_singleton.mp hy] at e
    exact hni (e ▸ hx)
  have hlast : (ts ++ [Tr.nd a b])[ts.length]? = some (.nd a b) := by simp
  refine ⟨pre_get hp h.zero, hnd, by simp [h.lh], by simp [h.lt], fun i t hi => ?_, ?_, fun key v => ?_⟩
  · by_cases hlt : i < ts.length
    · rw [List.getElem?_append_left hlt] at hi
      obtain ⟨j', k', e1, e2, e3, e4⟩ := h.at_ i t hi
      refine ⟨j', k', ?_, ?_, pre_get hp e3, pre_get hp e4⟩
      · rw [List.getElem?_append_left (by rw [h.lh]; exact hlt)]
        exact e1
      · rw [List.getElem?_append_left (by rw [h.lt]; exact hlt)]
        exact e2
    · have hi' : i = ts.length := by
        have := (List.getElem?_eq_some_iff.mp hi).1
        simp at this
        omega
      subst hi'
      rw [hlast] at hi
      obtain rfl := Option.some.inj hi
      refine ⟨j, k, ?_, ?_, pre_get hp ha, pre_get hp hb⟩
      · rw [← h.lh]
        simp
      · rw [← h.lt]
        simp
  · rw [putK_new hn]
    simp [h.lk]
  · rw [putK_new hn, valV_snoc _ _ _ _ hn]
    by_cases hk : key = [.inl (j : Int), .inl (k : Int)]
    · rw [if_pos hk]
      constructor
      · intro e
        exact ⟨j, k, ts.length, a, b, hk, (Option.some.inj e).symm, pre_get hp ha, pre_get hp hb, hlast⟩
      · rintro ⟨j', k', i', a', b', e1, rfl, e3, e4, e5⟩
        rw [hk] at e1
        have ej : j = j' := by
          injection e1 with e1 _
          injection e1 with e1
          omega
        have ek : k = k' := by
          injection e1 with _ e1
          injection e1 with e1 _
          injection e1 with e1
          omega
        subst ej ek
        rw [pre_get hp ha] at e3
        rw [pre_get hp hb] at e4
        obtain rfl := Option.some.inj e3
        obtain rfl := Option.some.inj e4
        rw [nd_get hnd hlast e5]
    · rw [if_neg hk, h.kv]
      constructor
      · rintro ⟨j', k', i', a', b', e1, e2, e3, e4, e5⟩
        exact ⟨j', k', i', a', b', e1, e2, pre_get hp e3, pre_get hp e4, pre_get hp e5⟩
      · rintro ⟨j', k', i', a', b', e1, e2, e3, e4, e5⟩
        by_cases hi : i' < ts.length
        · rw [List.getElem?_append_left hi] at e5
          obtain ⟨j2, k2, _, _, g3, g4⟩ := h.at_ i' _ e5
          have ej := nd_get hnd e3 (pre_get hp g3)
          have ek := nd_get hnd e4 (pre_get hp g4)
          subst ej ek
          exact ⟨j', k', i', a', b', e1, e2, g3, g4, e5⟩
        · have hi' : i' = ts.length := by
            have := (List.getElem?_eq_some_iff.mp e5).1
            simp at this
            omega
          subst hi'
          rw [hlast] at e5
          injection e5 with e5
          injection e5 with e5 e6
          subst e5 e6
          have ej := nd_get hnd e3 (pre_get hp ha)
          have ek := nd_get hnd e4 (pre_get hp hb)
          subst ej ek
          exact absurd e1 hk
section
variable {H H' : Hp} {W : Wd} {ts : List Tr} {Q : VK}
theorem dV_h (W : Wd) : valV (dV W) (.inr "heads") = some (.ref W.h) := by kernel_rfl
theorem dV_t (W : Wd) : valV (dV W) (.inr "tails") = some (.ref W.t) := by kernel_rfl
theorem dV_s (W : Wd) : valV (dV W) (.inr "sizes") = some (.ref W.s) := by kernel_rfl
theorem dV_p (W : Wd) : valV (dV W) (.inr "pairs") = some (.ref W.p) := by kernel_rfl
theorem dV_m (W : Wd) : mergeK [] (dV W) = dV W := by kernel_rfl
theorem dg_h {R : V → Prop} (h : H W.w = some (.dK (dV W))) (q : R (.ref W.h)) : ∃ a v, V.ref W.w = .ref a ∧ DGet H a (.str "heads") (some v) ∧ R v := ⟨_, _, rfl, by rw [← dV_h W]; exact DGet.k (k := .inr "heads") h, q⟩
theorem dg_t {R : V → Prop} (h : H W.w = some (.dK (dV W))) (q : R (.ref W.t)) : ∃ a v, V.ref W.w = .ref a ∧ DGet H a (.str "tails") (some v) ∧ R v := ⟨_, _, rfl, by rw [← dV_t W]; exact DGet.k (k := .inr "tails") h, q⟩
theorem dg_s {R : V → Prop} (h : H W.w = some (.dK (dV W))) (q : R (.ref W.s)) : ∃ a v, V.ref W.w = .ref a ∧ DGet H a (.str "sizes") (some v) ∧ R v := ⟨_, _, rfl, by rw [← dV_s W]; exact DGet.k (k := .inr "sizes") h, q⟩
theorem dg_p {R : V → Prop} (h : H W.w = some (.dK (dV W))) (q : R (.ref W.p)) : ∃ a v, V.ref W.w = .ref a ∧ DGet H a (.str "pairs") (some v) ∧ R v := ⟨_, _, rfl, by rw [← dV_p W]; exact DGet.k (k := .inr "pairs") h, q⟩
theorem WAt.same (h : WAt H W ts) (s : Same H H') : WAt H' W ts := by
  obtain ⟨hs, tls, kvs, e1, e2, e3, e4, e5⟩ := h.ex
  exact ⟨s _ _ h.dict, h.ne1, h.ne2, h.ne3, hs, tls, kvs, s _ _ e1, s _ _ e2, s _ _ e3, s _ _ e4, e5⟩
theorem WAt.dom (h : WAt H W ts) : Dom W.m H := by
  obtain ⟨hs, tls, kvs, e1, e2, e3, e4, e5⟩ := h.ex
  intro m hm e
  simp only [Wd.m, List.mem_cons, List.not_mem_nil, or_false] at hm
  rcases hm with rfl | rfl | rfl | rfl
  · rw [e1] at e
    cases e
  · rw [e2] at e
    cases e
  · rw [e3] at e
    cases e
  · rw [e4] at e
    cases e
/-- what is neither a list nor a dict stands apart from the world -/
theorem WAt.out (h : WAt H W ts) {q : Addr} {o : HO} (e : H q = some o) (hl : ∀ xs, o ≠ .lst xs) (hd : ∀ kvs, o ≠ .dT kvs) : q ∉ W.m := by
  obtain ⟨hs, tls, kvs, e1, e2, e3, e4, e5⟩ := h.ex
  intro hm
  simp only [Wd.m, List.mem_cons, List.not_mem_nil, or_false] at hm
  rcases hm with rfl | rfl | rfl | rfl
  · rw [e1] at e
    exact hl _ (Option.some.inj e).symm
  · rw [e2] at e
    exact hl _ (Option.some.inj e).symm
  · rw [e3] at e
    exact hl _ (Option.some.inj e).symm
  · rw [e4] at e
    exact hd _ (Option.some.inj e).symm
theorem WAt.wout (h : WAt H W ts) : W.w ∉ W.m := h.out h.dict (fun _ z => by cases z) fun _ z => by cases z
/-- a change of what is not the world's -/
theorem WAt.keep {M : List Addr} (h : WAt H W ts) (k : Keep M H H') (ho : ∀ m ∈ M, m ≠ W.w ∧ m ∉ W.m) : WAt H' W ts := by
  obtain ⟨hs, tls, kvs, e1, e2, e3, e4, e5⟩ := h.ex
  have hn : ∀ q, (q = W.w ∨ q ∈ W.m) → q ∉ M := fun q hq hm => by
    rcases hq with rfl | hq
    · exact (ho _ hm).1 rfl
    · exact (ho _ hm).2 hq
  exact ⟨k _ _ h.dict (hn _ (.inl rfl)), h.ne1, h.ne2, h.ne3, hs, tls, kvs, k _ _ e1 (hn _ (.inr (by simp))), k _ _ e2 (hn _ (.inr (by simp))), k _ _ e3 (hn _ (.inr (by simp))), k _ _ e4 (hn _ (.inr (by simp))), e5⟩
theorem WAt.ok (h : WAt H W ts) : ∃ hs tls kvs, WOk ts hs tls kvs := let ⟨hs, tls, kvs, _, _, _, _, e⟩ := h.ex; ⟨hs, tls, kvs, e⟩
theorem WAt.nodup (h : WAt H W ts) : ts.Nodup := let ⟨_, _, _, e⟩ := h.ok; e.nodup
theorem WAt.zero (h : WAt H W ts) : ts[0]? = some .lf := let ⟨_, _, _, e⟩ := h.ok; e.zero
end
section
variable {P : Program} {w : World} {K : PySem.W.Frag} {mg : Str → Option Value} {base : Heap}
/-! ### _law_world, _law_cons -/
def sp_law_world : Sp := fun vs H Q _ => vs = [] ∧ ∀ (W : Wd) (H' : Hp), Same H H' → (∀ m ∈ W.w :: W.m, H m = none) → WAt H' W [.lf] → Q (.ref W.w) H'
theorem law_world_ok (T : Txt w K mg) : Cal P w K mg base 1 "_law_world" sp_law_world := by
  refine mkCal T.f_law_world T.g_law_world sc_law_world (fun _ _ _ _ _ _ us hl => match us, hl with | [], _ => rfl) (fun vs H Q E h => ?_) (fun cdv A outer s H vs Q E hr h => ?_)
  · obtain ⟨rfl, _⟩ := h
    rfl
  · obtain ⟨rfl, k⟩ := h
    refine ⟨_,
      (pss_one (ps_ret (pe_disp (pps_cons pe_str (pe_lst (pa_cons pe_int pa_nil)) (pps_cons pe_str (pe_lst (pa_cons pe_int pa_nil)) (pps_cons pe_str (pe_lst (pa_cons pe_int pa_nil)) (pps_cons pe_str pe_dnewT pps_nil)))) (by rfl) (by rfl) (fun z => by cases z) (by decide)))), ?_⟩
    walk_at "go"
    intro w0 hw0
    have s0 : Same H (upd H w0 (.dK [])) := same_new hw0
    have e0 : (upd H w0 (.dK [])) w0 = some (.dK []) := upd_same
    generalize upd H w0 (.dK []) = H0 at s0 e0
    walk_at "go"
    refine ⟨by show 1 ≤ sizeLine; decide, fun h hh => ?_⟩
    have s1 : Same H0 (upd H0 h (.lst [.int 0])) := same_new hh
    have e1 : (upd H0 h (.lst [.int 0])) h = some (.lst (nV [0])) := upd_same
    generalize upd H0 h (.lst [.int 0]) = H1 at s1 e1
    walk_at "go"
    refine ⟨by show 1 ≤ sizeLine; decide, fun t ht => ?_⟩
    have s2 : Same H1 (upd H1 t (.lst [.int 0])) := same_new ht
    have e2 : (upd H1 t (.lst [.int 0])) t = some (.lst (nV [0])) := upd_same
    generalize upd H1 t (.lst [.int 0]) = H2 at s2 e2
    walk_at "go"
    refine ⟨by show 1 ≤ sizeLine; decide, fun z hz => ?_⟩
    have s3 : Same H2 (upd H2 z (.lst [.int 1])) := same_new hz
    have e3 : (upd H2 z (.lst [.int 1])) z = some (.lst (nV ([Tr.lf].map Tr.sz))) := upd_same
    generalize upd H2 z (.lst [.int 1]) = H3 at s3 e3
    walk_at "go"
    intro p hp
    have s4 : Same H3 (upd H3 p (.dT [])) := same_new hp
    have e4 : (upd H3 p (.dT [])) p = some (.dT []) := upd_same
    generalize upd H3 p (.dT []) = H4 at s4 e4
    walk_at "go"
    have t4 : Same H0 H4 := ((s1.trans s2).trans s3).trans s4
    refine ⟨t4 _ _ e0, dV ⟨w0, h, t, z, p⟩, rfl, by show 4 ≤ 15; decide, ?_⟩
    rw [dV_m]
    have n1 : ∀ {a : Addr} {o : HO}, H4 a = some o → (∀ kvs, o ≠ .dK kvs) → a ≠ w0 := fun e hk z => by
      rw [z, t4 _ _ e0] at e
      exact hk _ (Option.some.inj e).symm
    have g1 : H4 h = some (.lst (nV [0])) := s4 _ _ (s3 _ _ (s2 _ _ e1))
    have g2 : H4 t = some (.lst (nV [0])) := s4 _ _ (s3 _ _ e2)
    have g3 : H4 z = some (.lst (nV ([Tr.lf].map Tr.sz))) := s4 _ _ e3
    have ht0 : H0 t = none := Same.free s1 ht
    have hz0 : H0 z = none := Same.free (s1.trans s2) hz
    have hp0 : H0 p = none := Same.free ((s1.trans s2).trans s3) hp
    refine k ⟨w0, h, t, z, p⟩ _ (same_mut (s0.trans t4) hw0) (fun m hm => ?_) ⟨upd_same, ?_, ?_, ?_, [0], [0], [], ?_, ?_, ?_, ?_, ?_⟩
    · simp only [List.mem_cons, List.not_mem_nil, or_false] at hm
      rcases hm with rfl | rfl | rfl | rfl | rfl
      · exact hw0
      · exact Same.free s0 hh
      · exact Same.free s0 ht0
      · exact Same.free s0 hz0
      · exact Same.free s0 hp0
    · exact ne_of_none e1 ht
    · exact ne_of_none (s2 _ _ e1) hz
    · exact ne_of_none e2 hz
    · show (upd H4 w0 _) h = _
      rw [upd_ne (n1 g1 fun _ z => by cases z)]
      exact g1
    · show (upd H4 w0 _) t = _
      rw [upd_ne (n1 g2 fun _ z => by cases z)]
      exact g2
    · show (upd H4 w0 _) z = _
      rw [upd_ne (n1 g3 fun _ z => by cases z)]
      exact g3
    · show (upd H4 w0 _) p = _
      rw [upd_ne (n1 e4 fun _ z => by cases z)]
      exact e4
    · refine ⟨rfl, by simp, rfl, rfl, fun i t hi => ?_, Nat.zero_le _, fun key v => ⟨fun e => (by cases e), ?_⟩⟩
      · have h0 : i = 0 := by
          have := (List.getElem?_eq_some_iff.mp hi).1
          simp at this
          omega
        subst h0
        obtain rfl := Option.some.inj hi
        exact ⟨0, 0, rfl, rfl, rfl, rfl⟩
      · rintro ⟨j, k, i, a, b, _, _, _, _, e⟩
        have h0 : i = 0 := by
          have := (List.getElem?_eq_some_iff.mp e).1
          simp at this
          omega
        subst h0
        cases e
def sp_law_cons : Sp := fun vs H Q _ => ∃ (W : Wd) (ts : List Tr) (j k : Nat) (a b : Tr), vs = [.ref W.w, .int j, .int k] ∧ WAt H W ts ∧ ts[j]? = some a ∧ ts[k]? = some b ∧ ts.length < 16000000 ∧
  ∀ (i : Nat) (ts' : List Tr) (H' : Hp), Keep W.m H H' → WAt H' W ts' → ts <+: ts' → ts'.length ≤ ts.length + 1 → ts'[i]? = some (.nd a b) → Q (.int i) H'
theorem sz_get {ts : List Tr} {i : Nat} {t : Tr} (h : ts[i]? = some t) : (nV (ts.map Tr.sz))[i]? = some (.int (t.sz : Int)) := nV_get (by rw [List.getElem?_map, h]; rfl)
theorem law_cons_ok (T : Txt w K mg) : Cal P w K mg base 1 "_law_cons" sp_law_cons := by
  refine mkCal T.f_law_cons T.g_law_cons sc_law_cons (fun _ _ _ _ _ _ us hl => match us, hl with | [_, _, _], _ => rfl) (fun vs H Q E h => ?_) (fun cdv A outer s H vs Q E hr h => ?_)
  · obtain ⟨W, ts, j, k, a, b, rfl, _⟩ := h
    rfl
  · obtain ⟨W, ts, j, k, a, b, rfl, hW, ha, hb, hl, q⟩ := h
    refine ⟨_,
      (pss_cons (ps_st 3 sc_law_cons.nd (pe_tup (pa_cons (pv 1) (pa_cons (pv 2) pa_nil))))
      (pss_cons (ps_if (pt_cmp (pc_dnotin (hu_of hr) (pv 3) (pe_dg hr (pv 0) pe_str)) rfl) 
          (pss_cons (ps_st 4 sc_law_cons.nd (pe_dg hr (pv 0) pe_str))
          (pss_cons (ps_dput (hu_of hr) (pv 4) (pv 3) (pe_callB c_lenQ (by rfl) T.n_len PySem.boot_len (pa_cons (pe_dg hr (pv 0) pe_str) pa_nil)) rfl)
          (pss_cons (ps_expr (pe_app (pe_dg hr (pv 0) pe_str) (pv 1)))
          (pss_cons (ps_expr (pe_app (pe_dg hr (pv 0) pe_str) (pv 2)))
          (pss_one (ps_expr (pe_app (pe_dg hr (pv 0) pe_str) (pe_op op_add (pe_op op_add pe_int (pe_il (pe_dg hr (pv 0) pe_str) (pv 1))) (pe_il (pe_dg hr (pv 0) pe_str) (pv 2)))))))))) pss_nil)
      (pss_one (ps_ret (pe_dg hr (pe_dg hr (pv 0) pe_str) (pv 3)))))), ?_⟩
    walk_at "go"
    refine ⟨by show 2 ≤ sizeLine; decide, fun kp hkp => ?_⟩
    have s0 : Same H (upd H kp (.tup [.int (j : Int), .int (k : Int)])) := same_new hkp
    have ek : (upd H kp (.tup [.int (j : Int), .int (k : Int)])) kp = some (.tup (([.inl (j : Int), .inl (k : Int)] : List Key).map kV)) := upd_same
    have dom := hW.dom
    generalize upd H kp (.tup [.int (j : Int), .int (k : Int)]) = H0 at s0 ek
    have hW0 := hW.same s0
    have kout := hW0.out ek (fun _ z => by cases z) (fun _ z => by cases z)
    obtain ⟨hs, tls, kvs, e1, e2, e3, e4, ok⟩ := hW0.ex
    walk_at "go"
    refine dg_p hW0.dict ?_
    refine ⟨W.p, _, rfl, DGet.t e4 ek, ?_⟩
    walk_at "go"
    cases hv : valV kvs [.inl (j : Int), .inl (k : Int)] with
    | some v =>
      obtain ⟨j', k', i, a', b', g1, rfl, g3, g4, g5⟩ := (ok.kv _ _).mp hv
      have ej : j = j' := by
        injection g1 with g1 _
        injection g1 with g1
        omega
      have ekk : k = k' := by
        injection g1 with _ g1
        injection g1 with g1 _
        injection g1 with g1
        omega
      subst ej ekk
      rw [ha] at g3
      rw [hb] at g4
      obtain rfl := Option.some.inj g3
      obtain rfl := Option.some.inj g4
      refine r_isF rfl ?_
      walk_at "go"
      refine dg_p hW0.dict ?_
      walk_at "go"
      refine ⟨W.p, .int (i : Int), rfl, by rw [← hv]; exact DGet.t e4 ek, ?_⟩
      exact q i ts H0 (same_keep s0) hW0 (List.prefix_refl _) (Nat.le_succ _) g5
    | none =>
      have ok' := ok.push ha hb hv
      have hnew : valV (putK kvs [.inl (j : Int), .inl (k : Int)] (.int (ts.length : Int))) [.inl (j : Int), .inl (k : Int)] = some (.int (ts.length : Int)) := by
        rw [putK_new hv, valV_snoc _ _ _ _ hv, if_pos rfl]
      have hpre : ts <+: ts ++ [.nd a b] := List.prefix_append ..
      refine r_isT rfl ?_
      walk_at "go"
      refine dg_p hW0.dict ?_
      walk_at "go"
      refine dg_h hW0.dict ?_
      walk_at "go"
      refine r_lenL e1 ?_
      walk_at "go"
      have elen : ((nV hs).length : Int) = (ts.length : Int) := by
        unfold nV
        rw [List.length_map, ok.lh]
      rw [elen]
      have sz : (sizeLine : Nat) = 16777216 := by rw [sizeLine_eq]
      refine ⟨W.p, _, rfl, DPut.t e4 ek (by have := ok.lk; omega), ?_⟩
      have nhp : W.h ≠ W.p := ne_of e1 e4 (fun z => by cases z)
      have ntp : W.t ≠ W.p := ne_of e2 e4 (fun z => by cases z)
      have nsp : W.s ≠ W.p := ne_of e3 e4 (fun z => by cases z)
      have nwp : W.w ≠ W.p := ne_of hW0.dict e4 (fun z => by cases z)
      have nwh : W.w ≠ W.h := ne_of hW0.dict e1 (fun z => by cases z)
      have nwt : W.w ≠ W.t := ne_of hW0.dict e2 (fun z => by cases z)
      have nws : W.w ≠ W.s := ne_of hW0.dict e3 (fun z => by cases z)
      have n1 := hW0.ne1
      have n2 := hW0.ne2
      have n3 := hW0.ne3
      have kp1 := ne_of ek e4 (fun z => by cases z)
      have kp2 := ne_of ek e1 (fun z => by cases z)
      have kp3 := ne_of ek e2 (fun z => by cases z)
      have kp4 := ne_of ek e3 (fun z => by cases z)
      have d1 := Eq.trans (upd_ne (o := .dT (putK kvs [.inl (j : Int), .inl (k : Int)] (.int (ts.length : Int)))) nwp) hW0.dict
      have f1 := Eq.trans (upd_ne (o := .dT (putK kvs [.inl (j : Int), .inl (k : Int)] (.int (ts.length : Int)))) nhp) e1
      have f2 := Eq.trans (upd_ne (o := .dT (putK kvs [.inl (j : Int), .inl (k : Int)] (.int (ts.length : Int)))) ntp) e2
      have f3 := Eq.trans (upd_ne (o := .dT (putK kvs [.inl (j : Int), .inl (k : Int)] (.int (ts.length : Int)))) nsp) e3
      have f5 := Eq.trans (upd_ne (o := .dT (putK kvs [.inl (j : Int), .inl (k : Int)] (.int (ts.length : Int)))) kp1) ek
      have f4 : (upd H0 W.p (.dT (putK kvs [.inl (j : Int), .inl (k : Int)] (.int (ts.length : Int))))) W.p = _ := upd_same
      have k1 : Keep W.m H0 (upd H0 W.p (.dT (putK kvs [.inl (j : Int), .inl (k : Int)] (.int (ts.length : Int))))) := Keep.put (by simp)
      generalize upd H0 W.p (.dT (putK kvs [.inl (j : Int), .inl (k : Int)] (.int (ts.length : Int)))) = H1 at d1 f1 f2 f3 f4 f5 k1 ⊢
      have lhs : (nV hs).length < sizeLine := by
        unfold nV
        rw [List.length_map, ok.lh]
        omega
      have lts : (nV tls).length < sizeLine := by
        unfold nV
        rw [List.length_map, ok.lt]
        omega
      have lss : (nV (ts.map Tr.sz)).length < sizeLine := by
        unfold nV
        rw [List.length_map, List.length_map]
        omega
      walk_at "go"
      refine dg_h d1 ?_
      refine r_tyL f1 ?_
      walk_at "go"
      refine r_app f1 lhs ?_
      have d2 := Eq.trans (upd_ne (o := .lst (nV hs ++ [.int (j : Int)])) nwh) d1
      have g1 : (upd H1 W.h (.lst (nV hs ++ [.int (j : Int)]))) W.h = _ := upd_same
      have g2 := Eq.trans (upd_ne (o := .lst (nV hs ++ [.int (j : Int)])) n1.symm) f2
      have g3 := Eq.trans (upd_ne (o := .lst (nV hs ++ [.int (j : Int)])) n2.symm) f3
      have g4 := Eq.trans (upd_ne (o := .lst (nV hs ++ [.int (j : Int)])) nhp.symm) f4
      have g5 := Eq.trans (upd_ne (o := .lst (nV hs ++ [.int (j : Int)])) kp2) f5
      have k2 : Keep W.m H0 (upd H1 W.h (.lst (nV hs ++ [.int (j : Int)]))) := k1.trans (Keep.put (by simp))
      generalize upd H1 W.h (.lst (nV hs ++ [.int (j : Int)])) = H2 at d2 g1 g2 g3 g4 g5 k2 ⊢
      clear d1 f1 f2 f3 f4 f5 k1
      walk_at "go"
      refine dg_t d2 ?_
      refine r_tyL g2 ?_
      walk_at "go"
      refine r_app g2 lts ?_
      have d3 := Eq.trans (upd_ne (o := .lst (nV tls ++ [.int (k : Int)])) nwt) d2
      have f1 := Eq.trans (upd_ne (o := .lst (nV tls ++ [.int (k : Int)])) n1) g1
      have f2 : (upd H2 W.t (.lst (nV tls ++ [.int (k : Int)]))) W.t = _ := upd_same
      have f3 := Eq.trans (upd_ne (o := .lst (nV tls ++ [.int (k : Int)])) n3.symm) g3
      have f4 := Eq.trans (upd_ne (o := .lst (nV tls ++ [.int (k : Int)])) ntp.symm) g4
      have f5 := Eq.trans (upd_ne (o := .lst (nV tls ++ [.int (k : Int)])) kp3) g5
      have k3 : Keep W.m H0 (upd H2 W.t (.lst (nV tls ++ [.int (k : Int)]))) := k2.trans (Keep.put (by simp))
      generalize upd H2 W.t (.lst (nV tls ++ [.int (k : Int)])) = H3 at d3 f1 f2 f3 f4 f5 k3 ⊢
      clear d2 g1 g2 g3 g4 g5 k2
      walk_at "go"
      refine dg_s d3 ?_
      refine r_tyL f3 ?_
      walk_at "go"
      refine dg_s d3 ?_
      walk_at "go"
      refine r_ixL f3 rfl (sz_get ha) ?_
      walk_at "go"
      refine dg_s d3 ?_
      walk_at "go"
      refine r_ixL f3 rfl (sz_get hb) ?_
      walk_at "go"
      refine r_app f3 lss ?_
      have esz : nV (ts.map Tr.sz) ++ [V.int (1 + (a.sz : Int) + (b.sz : Int))] = nV ((ts ++ [Tr.nd a b]).map Tr.sz) := by
        unfold nV
        rw [List.map_append, List.map_append]
        rfl
      rw [esz]
      have d4 := Eq.trans (upd_ne (o := .lst (nV ((ts ++ [Tr.nd a b]).map Tr.sz))) nws) d3
      have g1 := Eq.trans (upd_ne (o := .lst (nV ((ts ++ [Tr.nd a b]).map Tr.sz))) n2) f1
      have g2 := Eq.trans (upd_ne (o := .lst (nV ((ts ++ [Tr.nd a b]).map Tr.sz))) n3) f2
      have g3 : (upd H3 W.s (.lst (nV ((ts ++ [Tr.nd a b]).map Tr.sz)))) W.s = _ := upd_same
      have g4 := Eq.trans (upd_ne (o := .lst (nV ((ts ++ [Tr.nd a b]).map Tr.sz))) nsp.symm) f4
      have g5 := Eq.trans (upd_ne (o := .lst (nV ((ts ++ [Tr.nd a b]).map Tr.sz))) kp4) f5
      have k4 : Keep W.m H0 (upd H3 W.s (.lst (nV ((ts ++ [Tr.nd a b]).map Tr.sz)))) := k3.trans (Keep.put (by simp))
      generalize upd H3 W.s (.lst (nV ((ts ++ [Tr.nd a b]).map Tr.sz))) = H4 at d4 g1 g2 g3 g4 g5 k4 ⊢
      clear d3 f1 f2 f3 f4 f5 k3
      have hW4 : WAt H4 W (ts ++ [.nd a b]) := ⟨d4, n1, n2, n3, hs ++ [j], tls ++ [k], _, by rw [g1]; simp [nV], by rw [g2]; simp [nV], g3, g4, ok'⟩
      walk_at "go"
      refine dg_p d4 ?_
      walk_at "go"
      refine ⟨W.p, .int (ts.length : Int), rfl, by rw [← hnew]; exact DGet.t g4 g5, ?_⟩
      exact q ts.length _ H4 ((same_keep s0).trans k4) hW4 hpre (by simp) (by simp)
end
end K38
set_option Elab.async false
set_option linter.all false
set_option maxRecDepth 100000
set_option maxHeartbeats 4000000
namespace K38
open PySem PySem.Spec PyProof.Rows L2 He SX
/-! ### the walk's own steps -/
local macro_rules | `(tactic| walk_at "hp") => `(tactic| first
  | assumption
  | with_reducible exact upd_same
  | (refine Eq.trans (upd_ne (by first | assumption | exact Ne.symm (by assumption))) ?_; walk_at "hp"))
local macro_rules | `(tactic| walk_at "st0") => `(tactic| with_reducible first
  | refine r_seq ?_ | refine r_asg ?_ | ((refine r_var (v := ?v) ?h ?_); (case h => with_unfolding_all exact rfl)) | refine r_c ?_ | refine r_op ?_ | refine r_cons ?_ | refine r_nil ?_ | refine r_gname ?_ | refine r_cb ?_ | refine r_call ?_
  | refine r_if ?_ | refine r_ret ?_ | refine r_test ?_ | refine r_bl ?_ | refine r_I0 ?_ | ((refine r_eq ?h ?_); (case h => with_unfolding_all exact rfl)) | ((refine r_ne ?h ?_); (case h => with_unfolding_all exact rfl))
  | refine r_T ?_ | refine r_F ?_ | refine r_nT ?_ | refine r_nF ?_ | refine r_not ?_ | refine r_and ?_ | refine r_or ?_ | refine r_B ?_ | refine r_next ?_ | refine r_drop ?_ | refine r_tup ?_ | refine r_bm ?_ | refine r_bm0 ?_
  | refine r_chain ?_ | refine r_andV ?_ | refine r_notV ?_ | refine r_isN ?_ | refine r_notN ?_ | refine r_dget ?_ | refine r_din ?_ | refine r_dnotin ?_ | refine r_un ?_ | refine r_rU ?_ | refine r_gsub ?_
  | ((refine r_aug (x := ?x) ?h ?_); (case h => with_unfolding_all exact rfl)) | refine r_ipI ?_ | refine r_for ?_ | refine r_lc ?_ | refine r_iList ?_ | refine r_iTup ?_ | refine r_iStr ?_ | refine r_iRng1 ?_ | refine r_iRng2 ?_ | refine r_iEnum ?_ | ((refine r_wipe ?h ?_); (case h => with_unfolding_all exact rfl)) | refine r_yes ?_ | refine r_rng ?_ | refine r_part ?_ | refine r_nopart ?_ | refine r_exi ?_ | refine r_int1 ?_ | refine r_abs ?_ | refine r_m1 ?_ | refine r_pairs ?_ | refine r_pairs0 ?_ | refine r_dput ?_ | refine r_trk ?_ | ((refine r_ixT0 (xs := ?xs) (v := ?v) ?h ?hv ?_); (case h => walk_at "hp"); (case hv => with_unfolding_all exact rfl)) | ((refine r_ixT1 (xs := ?xs) (v := ?v) ?h ?hv ?_); (case h => walk_at "hp"); (case hv => with_unfolding_all exact rfl)) | ((refine r_ixT2 (xs := ?xs) (v := ?v) ?h ?hv ?_); (case h => walk_at "hp"); (case hv => with_unfolding_all exact rfl)) | ((refine r_ixT3 (xs := ?xs) (v := ?v) ?h ?hv ?_); (case h => walk_at "hp"); (case hv => with_unfolding_all exact rfl)) | refine r_strv ?_)
local macro_rules | `(tactic| walk_at "st") => `(tactic| first | walk_at "st0" | with_reducible refine r_lst ?_)
local macro_rules | `(tactic| walk_at "g0") => `(tactic| repeat walk_at "st0")
local macro_rules | `(tactic| walk_at "go") => `(tactic| repeat walk_at "st")
local macro_rules | `(tactic| walk_at "dk") => `(tactic| first | refine r_isT (by decide +kernel) ?_ | refine r_isF (by decide +kernel) ?_)
local macro_rules | `(tactic| walk_at "gd") => `(tactic| repeat first | walk_at "st" | walk_at "dk")
/-! ### the world grows -/
structure Grow (W : Wd) (ts : List Tr) (c : Nat) (H H' : Hp) (ts' : List Tr) : Prop where
  keep : Keep W.m H H'
  at_ : WAt H' W ts'
  pre : ts <+: ts'
  len : ts'.length ≤ ts.length + c
theorem Grow.refl {W : Wd} {ts : List Tr} {H : Hp} (h : WAt H W ts) : Grow W ts 0 H H ts := ⟨Keep.refl, h, List.prefix_refl _, Nat.le_refl _⟩
theorem Grow.trans {W : Wd} {ts ts1 ts2 : List Tr} {c1 c2 : Nat} {H H1 H2 : Hp} (a : Grow W ts c1 H H1 ts1) (b : Grow W ts1 c2 H1 H2 ts2) : Grow W ts (c1 + c2) H H2 ts2 :=
  ⟨a.keep.trans b.keep, b.at_, List.IsPrefix.trans a.pre b.pre, by have := a.len; have := b.len; omega⟩
theorem Grow.mono {W : Wd} {ts ts1 : List Tr} {c1 c2 : Nat} {H H1 : Hp} (a : Grow W ts c1 H H1 ts1) (h : c1 ≤ c2) : Grow W ts c2 H H1 ts1 := ⟨a.keep, a.at_, a.pre, by have := a.len; omega⟩
theorem Grow.same {W : Wd} {ts ts1 : List Tr} {c : Nat} {H0 H H1 : Hp} (s : Same H0 H) (a : Grow W ts c H H1 ts1) : Grow W ts c H0 H1 ts1 := ⟨(same_keep s).trans a.keep, a.at_, a.pre, a.len⟩
theorem Grow.get {W : Wd} {ts ts1 : List Tr} {c : Nat} {H H1 : Hp} (a : Grow W ts c H H1 ts1) {i : Nat} {t : Tr} (e : ts[i]? = some t) : ts1[i]? = some t := pre_get a.pre e
/-- indices and their trees -/
abbrev Den (ts : List Tr) : List Nat → List Tr → Prop := Paired fun (i : Nat) (t : Tr) => ts[i]? = some t
theorem Den.pre {ts ts' : List Tr} {is : List Nat} {us : List Tr} (h : Den ts is us) (p : ts <+: ts') : Den ts' is us := Paired.mapP h fun _ _ z => pre_get p z
theorem Den.len {ts : List Tr} {is : List Nat} {us : List Tr} (h : Den ts is us) : is.length = us.length := Paired.length h
theorem Den.get {ts : List Tr} {is : List Nat} {us : List Tr} (h : Den ts is us) {j : Nat} {t : Tr} (e : us[j]? = some t) : ∃ i, is[j]? = some i ∧ ts[i]? = some t := by
  induction h generalizing j with
  | nil => simp at e
  | @cons x y xs ys hx ht ih =>
    cases j with
    | zero =>
      have : y = t := by simpa using e
      subst this
      exact ⟨x, rfl, hx⟩
    | succ j => exact ih (by simpa using e)
/-! ### reading a text from its end -/
def pst : Nat → List Tr → List Tr
  | 48, st => .lf :: st
  | _, a :: b :: r => .nd a b :: r
  | _, _ => []
def pf (l : List Nat) : List Tr := l.foldr pst []
theorem pf_enc : ∀ (t : Tr) (l : List Nat), pf (t.enc ++ l) = t :: pf l
  | .lf, l => rfl
  | .nd a b, l => by
    show pst 49 (pf ((a.enc ++ b.enc) ++ l)) = _
    rw [List.append_assoc, pf_enc a, pf_enc b]
    rfl
theorem pf_two : ∀ (t : Tr) (l : List Nat) (i : Nat), t.enc[i]? = some 49 → ∃ a b r, pf (t.enc.drop (i + 1) ++ l) = a :: b :: r
  | .lf, l, 0, h => by simp [Tr.enc] at h
  | .lf, l, i + 1, h => by simp [Tr.enc] at h
  | .nd a b, l, 0, h => by
    refine ⟨a, b, pf l, ?_⟩
    show pf ((a.enc ++ b.enc) ++ l) = _
    rw [List.append_assoc, pf_enc a, pf_enc b]
  | .nd a b, l, i + 1, h => by
    have h' : (a.enc ++ b.enc)[i]? = some 49 := h
    show ∃ a' b' r, pf ((a.enc ++ b.enc).drop (i + 1) ++ l) = a' :: b' :: r
    by_cases hi : i < a.enc.length
    · rw [List.getElem?_append_left hi] at h'
      rw [List.drop_append_of_le_length (by omega), List.append_assoc]
      exact pf_two a (b.enc ++ l) i h'
    · rw [List.getElem?_append_right (by omega)] at h'
      rw [List.drop_append, List.drop_of_length_le (by omega), List.nil_append, show i + 1 - a.enc.length = (i - a.enc.length) + 1 by omega]
      exact pf_two b l _ h'
theorem pst_len (c : Nat) (st : List Tr) : (pst c st).length ≤ st.length + 1 := by
  unfold pst
  split <;> simp <;> omega
theorem pf_len : ∀ l : List Nat, (pf l).length ≤ l.length
  | [] => Nat.le_refl _
  | c :: l => by
    have := pf_len l
    have h2 := pst_len c (pf l)
    show (pst c (pf l)).length ≤ l.length + 1
    omega
theorem nV_app (a b : List Nat) : nV (a ++ b) = nV a ++ nV b := by simp [nV]
theorem nV_len (a : List Nat) : (nV a).length = a.length := by simp [nV]
theorem r_ixS {l : List Nat} {H : Hp} {Q : VK} {j c : Nat} {z : Int} (hl : l.length ≤ 1000000) (hz : z = (j : Int)) (hc : l[j]? = some c) (q : Q (.str ⟨#[c]⟩) H) : rIxS (.str (S l)) (.int z) H Q :=
  ⟨S l, z, c, rfl, rfl, by rw [S_len]; exact Nat.le_trans hl (by decide), (show atI l z = some c by rw [hz]; exact atI_nat hc), q⟩
theorem r_pop {H : Hp} {Q : VK} {p : Addr} {is : List Nat} {i : Nat} (h : H p = some (.lst (nV (is ++ [i])))) (q : Q (.int (i : Int)) (upd H p (.lst (nV is)))) : rPop (.ref p) [] H Q := by
  have e : nV (is ++ [i]) = nV is ++ [.int (i : Int)] := by simp [nV]
  refine ⟨p, _, .int (i : Int), rfl, rfl, h, ?_, ?_⟩
  · rw [e]
    simp
  · rw [e, List.dropLast_concat]
    exact q
section
variable {P : Program} {w : World} {K : PySem.W.Frag} {mg : Str → Option Value} {base : Heap}
/-! ### _law_in -/
def sp_law_in : Sp := fun vs H Q _ => ∃ (W : Wd) (ts : List Tr) (t : Tr), vs = [.ref W.w, .str (S t.enc)] ∧ WAt H W ts ∧ t.sz ≤ 500000 ∧ ts.length + t.sz ≤ 15000000 ∧
  ∀ (i : Nat) (ts' : List Tr) (H' : Hp), Grow W ts t.sz H H' ts' → ts'[i]? = some t → Q (.int i) H'
theorem law_in_ok (T : Txt w K mg) : Cal P w K mg base 2 "_law_in" sp_law_in := by
  refine mkCal T.f_law_in T.g_law_in sc_law_in (fun _ _ _ _ _ _ us hl => match us, hl with | [_, _], _ => rfl) (fun vs H Q E h => ?_) (fun cdv A outer s H vs Q E hr h => ?_)
  · obtain ⟨W, ts, t, rfl, _⟩ := h
    rfl
  · obtain ⟨W, ts, t, rfl, hW, hz, hl, k⟩ := h
    refine ⟨_,
      (pss_cons (ps_st 2 sc_law_in.nd (pe_lst pa_nil))
      (pss_cons (ps_for PassesOwn.never rfl (pi_range1 (by rfl) T.n_range (pa_cons (pe_callB c_lenS (by rfl) T.n_len PySem.boot_len (pa_cons (pv 1) pa_nil)) pa_nil)) (pg_nm 3 sc_law_in.nd) 
          (pss_one (ps_if (pt_cmpR op_eq (pe_is (pv 1) (pe_op op_sub (pe_op op_sub (pe_callB c_lenS (by rfl) T.n_len PySem.boot_len (pa_cons (pv 1) pa_nil)) pe_int) (pv 3))) pe_str (nomark _)) 
              (pss_one (ps_expr (pe_app (pv 2) pe_int))) 
              (pss_cons (ps_st 4 sc_law_in.nd (pe_popl (pv 2)))
              (pss_one (ps_expr (pe_app (pv 2) (pe_c (law_cons_ok T) hr (by decide) rfl (pa_cons (pv 0) (pa_cons (pv 4) (pa_cons (pe_popl (pv 2)) pa_nil)))))))))))
      (pss_one (ps_ret (pe_il (pv 2) pe_int))))), ?_⟩
    have hlen := t.len
    rw [z0]
    walk_at "go"
    refine ⟨Nat.zero_le _, fun p hp => ?_⟩
    have s0 : Same H (upd H p (.lst [])) := same_new hp
    have e0 : (upd H p (.lst [])) p = some (.lst (nV [])) := upd_same
    have pm : p ∉ W.m := hW.dom.out hp
    have pw : p ≠ W.w := fun z => by
      rw [z, hW.dict] at hp
      cases hp
    generalize upd H p (.lst []) = H0 at s0 e0
    walk_at "go"
    refine r_lenS (by omega) ?_
    walk_at "go"
    refine ⟨_, rfl, by omega, by omega, for_it walk_range (fun i σ H' => ∃ (is : List Nat) (ts' : List Tr) (x y : Option V), σ = [some (.ref W.w), some (.str (S t.enc)), some (.ref p), x, y] ∧ Keep W.m H H' ∧ WAt H' W ts' ∧ ts <+: ts' ∧ ts'.length ≤ ts.length + i ∧ H' p = some (.lst (nV is.reverse)) ∧ Den ts' is (pf (t.enc.drop (t.enc.length - i))))
      ⟨[], ts, none, none, rfl, same_keep s0, hW.same s0, List.prefix_refl _, Nat.le_refl _, e0, by rw [Nat.sub_zero, List.drop_length]; exact .nil⟩ (fun _ _ _ _ _ => trivial) ?_ ?_⟩
    · rintro i v σ H1 H' hi ⟨is, ts', x, y, rfl, g1, g2, g3, g4, g5, g6⟩ ⟨rfl, rfl⟩
      have hi' : i < t.enc.length := by omega
      have hc : t.enc[t.enc.length - 1 - i]? = some (t.enc[t.enc.length - 1 - i]'(by omega)) := List.getElem?_eq_getElem (by omega)
      generalize t.enc[t.enc.length - 1 - i]'(by omega) = c at hc
      have hd : t.enc.drop (t.enc.length - (i + 1)) = c :: t.enc.drop (t.enc.length - i) := by
        rw [show t.enc.length - (i + 1) = t.enc.length - 1 - i by omega]
        have := List.drop_eq_getElem_cons (l := t.enc) (i := t.enc.length - 1 - i) (by omega)
        rw [this]
        have e2 := List.getElem?_eq_getElem (l := t.enc) (i := t.enc.length - 1 - i) (by omega)
        rw [hc] at e2
        rw [← Option.some.inj e2, show t.enc.length - 1 - i + 1 = t.enc.length - i by omega]
      have h01 := enc_01 t c (List.mem_of_getElem? hc)
      walk_at "go"
      refine r_lenS (by omega) ?_
      walk_at "go"
      refine r_ixS (j := t.enc.length - 1 - i) (by omega) (by omega) hc ?_
      walk_at "go"
      have hpl := pf_len (t.enc.drop (t.enc.length - i))
      rw [List.length_drop] at hpl
      have hil := Den.len g6
      have hlen2 : (nV is.reverse).length < 1000000 := by
        rw [nV_len, List.length_reverse]
        omega
      rcases h01 with rfl | rfl
      · walk_at "gd"
        refine r_tyL g5 ?_
        walk_at "go"
        refine r_app g5 (Nat.lt_of_lt_of_le hlen2 (by decide)) ?_
        refine ⟨0 :: is, ts', some (.int ((0 : Int) + (i : Int))), y, rfl, ?_, ?_, g3, by omega, ?_, ?_⟩
        · intro b o hb hm
          rw [upd_ne (fun z => by rw [z, hp] at hb; cases hb)]
          exact g1 b o hb hm
        · exact g2.keep (M := [p]) (Keep.put (by simp)) (fun m hm => by rw [List.mem_singleton.mp hm]; exact ⟨pw, pm⟩)
        · rw [upd_same, List.reverse_cons, nV_app]
          rfl
        · rw [hd]
          exact .cons g2.zero g6
      · obtain ⟨a, b, r, hab⟩ := pf_two t [] (t.enc.length - 1 - i) hc
        rw [List.append_nil, show t.enc.length - 1 - i + 1 = t.enc.length - i by omega] at hab
        rw [hab] at g6
        cases g6 with
        | @cons ia _ is _ ga g6 =>
          cases g6 with
          | @cons ib _ ir _ gb g6 =>
            walk_at "gd"
            refine r_tyL g5 ?_
            rw [List.reverse_cons] at g5
            refine r_pop g5 ?_
            have q1 : (upd H' p (.lst (nV (ib :: ir).reverse))) p = some (.lst (nV (ir.reverse ++ [ib]))) := by rw [upd_same, List.reverse_cons]
            have k1 : Keep [p] H' (upd H' p (.lst (nV (ib :: ir).reverse))) := Keep.put (by simp)
            generalize upd H' p (.lst (nV (ib :: ir).reverse)) = H2 at q1 k1
            have w2 := g2.keep k1 (fun m hm => by rw [List.mem_singleton.mp hm]; exact ⟨pw, pm⟩)
            walk_at "go"
            refine r_tyL q1 ?_
            walk_at "go"
            refine r_tyL q1 ?_
            refine r_pop q1 ?_
            have q2 : (upd H2 p (.lst (nV ir.reverse))) p = some (.lst (nV ir.reverse)) := upd_same
            have k2 : Keep [p] H2 (upd H2 p (.lst (nV ir.reverse))) := Keep.put (by simp)
            generalize upd H2 p (.lst (nV ir.reverse)) = H3 at q2 k2
            have w3 := w2.keep k2 (fun m hm => by rw [List.mem_singleton.mp hm]; exact ⟨pw, pm⟩)
            walk_at "go"
            refine ⟨W, ts', ia, ib, a, b, rfl, w3, ga, gb, by omega, fun j ts2 H4 k4 w4 p4 l4 e4 => ?_⟩
            have q4 := k4 _ _ q2 pm
            walk_at "go"
            refine r_app q4 (Nat.lt_of_lt_of_le (by rw [nV_len, List.length_reverse]; rw [nV_len, List.length_reverse, List.length_cons, List.length_cons] at hlen2; exact (show ir.length < 1000000 by omega)) (by decide)) ?_
            refine ⟨j :: ir, ts2, some (.int ((0 : Int) + (i : Int))), some (.int (ia : Int)), rfl, ?_, ?_, List.IsPrefix.trans g3 p4, by omega, ?_, ?_⟩
            · intro b' o hb hm
              have hbp : b' ≠ p := fun z => by
                rw [z, hp] at hb
                cases hb
              rw [upd_ne hbp]
              exact k4 _ _ (k2 _ _ (k1 _ _ (g1 b' o hb hm) (by simpa using hbp)) (by simpa using hbp)) hm
            · exact w4.keep (M := [p]) (Keep.put (by simp)) (fun m hm => by rw [List.mem_singleton.mp hm]; exact ⟨pw, pm⟩)
            · rw [upd_same, List.reverse_cons, nV_app]
              rfl
            · rw [hd]
              show Den ts2 (j :: ir) (pst 49 (pf (t.enc.drop (t.enc.length - i))))
              rw [hab]
              exact .cons e4 (Den.pre g6 p4)
    · rintro σ H' ⟨is, ts', x, y, rfl, g1, g2, g3, g4, g5, g6⟩
      have e1 : ((t.enc.length : Nat) : Int).toNat = t.enc.length := Int.toNat_natCast _
      rw [e1] at g4 g6
      rw [Nat.sub_self, List.drop_zero, show t.enc = t.enc ++ [] by simp, pf_enc] at g6
      cases g6 with
      | @cons i0 _ _ _ g0 g6 =>
        cases g6
        walk_at "go"
        refine r_ixL0 g5 (v := .int (i0 : Int)) rfl ?_
        exact k i0 ts' H' ⟨g1, g2, g3, by omega⟩ g0
end
end K38
set_option Elab.async false
set_option linter.all false
set_option maxRecDepth 100000
set_option maxHeartbeats 4000000
namespace K38
open PySem PySem.Spec PyProof.Rows L2 He SX
/-! ### the walk's own steps -/
local macro_rules | `(tactic| walk_at "hp") => `(tactic| first
  | assumption
  | with_reducible exact upd_same
  | (refine Eq.trans (upd_ne (by first | assumption | exact Ne.symm (by assumption))) ?_; walk_at "hp"))
local macro_rules | `(tactic| walk_at "st0") => `(tactic| with_reducible first
  | refine r_seq ?_ | refine r_asg ?_ | ((refine r_var (v := ?v) ?h ?_); (case h => with_unfolding_all exact rfl)) | refine r_c ?_ | refine r_op ?_ | refine r_cons ?_ | refine r_nil ?_ | refine r_gname ?_ | refine r_cb ?_ | refine r_call ?_
  | refine r_if ?_ | refine r_ret ?_ | refine r_test ?_ | refine r_bl ?_ | refine r_I0 ?_ | ((refine r_eq ?h ?_); (case h => with_unfolding_all exact rfl)) | ((refine r_ne ?h ?_); (case h => with_unfolding_all exact rfl))
  | refine r_T ?_ | refine r_F ?_ | refine r_nT ?_ | refine r_nF ?_ | refine r_not ?_ | refine r_and ?_ | refine r_or ?_ | refine r_B ?_ | refine r_next ?_ | refine r_drop ?_ | refine r_tup ?_ | refine r_bm ?_ | refine r_bm0 ?_
  | refine r_chain ?_ | refine r_andV ?_ | refine r_notV ?_ | refine r_isN ?_ | refine r_notN ?_ | refine r_dget ?_ | refine r_din ?_ | refine r_dnotin ?_ | refine r_un ?_ | refine r_rU ?_ | refine r_gsub ?_
  | ((refine r_aug (x := ?x) ?h ?_); (case h => with_unfolding_all exact rfl)) | refine r_ipI ?_ | refine r_for ?_ | refine r_lc ?_ | refine r_iList ?_ | refine r_iTup ?_ | refine r_iStr ?_ | refine r_iRng1 ?_ | refine r_iRng2 ?_ | refine r_iEnum ?_ | ((refine r_wipe ?h ?_); (case h => with_unfolding_all exact rfl)) | refine r_yes ?_ | refine r_rng ?_ | refine r_part ?_ | refine r_nopart ?_ | refine r_exi ?_ | refine r_int1 ?_ | refine r_abs ?_ | refine r_m1 ?_ | refine r_pairs ?_ | refine r_pairs0 ?_ | refine r_dput ?_ | refine r_trk ?_ | ((refine r_ixT0 (xs := ?xs) (v := ?v) ?h ?hv ?_); (case h => walk_at "hp"); (case hv => with_unfolding_all exact rfl)) | ((refine r_ixT1 (xs := ?xs) (v := ?v) ?h ?hv ?_); (case h => walk_at "hp"); (case hv => with_unfolding_all exact rfl)) | ((refine r_ixT2 (xs := ?xs) (v := ?v) ?h ?hv ?_); (case h => walk_at "hp"); (case hv => with_unfolding_all exact rfl)) | ((refine r_ixT3 (xs := ?xs) (v := ?v) ?h ?hv ?_); (case h => walk_at "hp"); (case hv => with_unfolding_all exact rfl)) | refine r_strv ?_)
local macro_rules | `(tactic| walk_at "st") => `(tactic| first | walk_at "st0" | with_reducible refine r_lst ?_)
local macro_rules | `(tactic| walk_at "g0") => `(tactic| repeat walk_at "st0")
local macro_rules | `(tactic| walk_at "go") => `(tactic| repeat walk_at "st")
local macro_rules | `(tactic| walk_at "dk") => `(tactic| first | refine r_isT (by decide +kernel) ?_ | refine r_isF (by decide +kernel) ?_)
local macro_rules | `(tactic| walk_at "gd") => `(tactic| repeat first | walk_at "st" | walk_at "dk")
section
variable {P : Program} {w : World} {K : PySem.W.Frag} {mg : Str → Option Value} {base : Heap}
/-! ### _law_number -/
def sp_law_number : Sp := fun vs H Q _ => ∃ (W : Wd) (ts : List Tr) (n : Nat), vs = [.ref W.w, .int n] ∧ WAt H W ts ∧ n ≤ 500000 ∧ ts.length + n ≤ 15000000 ∧
  ∀ (i : Nat) (ts' : List Tr) (H' : Hp), Grow W ts n H H' ts' → ts'[i]? = some (num n) → Q (.int i) H'
theorem law_number_ok (T : Txt w K mg) : Cal P w K mg base 2 "_law_number" sp_law_number := by
  refine mkCal T.f_law_number T.g_law_number sc_law_number (fun _ _ _ _ _ _ us hl => match us, hl with | [_, _], _ => rfl) (fun vs H Q E h => ?_) (fun cdv A outer s H vs Q E hr h => ?_)
  · obtain ⟨W, ts, n, rfl, _⟩ := h
    rfl
  · obtain ⟨W, ts, n, rfl, hW, hn, hl, k⟩ := h
    refine ⟨_,
      (pss_cons (ps_st 2 sc_law_number.nd pe_int)
      (pss_cons (ps_for PassesOwn.never rfl (pi_range1 (by rfl) T.n_range (pa_cons (pv 1) pa_nil)) (pg_nm 3 sc_law_number.nd) 
          (pss_one (ps_st 2 sc_law_number.nd (pe_c (law_cons_ok T) hr (by decide) rfl (pa_cons (pv 0) (pa_cons pe_int (pa_cons (pv 2) pa_nil)))))))
      (pss_one (ps_ret (pv 2))))), ?_⟩
    walk_at "go"
    refine ⟨_, rfl, by omega, by omega, for_it walk_range (fun i σ H' => ∃ (j : Nat) (ts' : List Tr) (x : Option V), σ = [some (.ref W.w), some (.int (n : Int)), some (.int (j : Int)), x] ∧ Grow W ts i H H' ts' ∧ ts'[j]? = some (num i))
      ⟨0, ts, none, rfl, Grow.refl hW, hW.zero⟩ (fun _ _ _ _ _ => trivial) ?_ ?_⟩
    · rintro i v σ H1 H' hi ⟨j, ts', x, rfl, g, e⟩ ⟨rfl, rfl⟩
      rw [Int.toNat_natCast] at hi
      have hg := g.len
      walk_at "go"
      refine ⟨W, ts', 0, j, .lf, num i, rfl, g.at_, g.at_.zero, e, by omega, fun i2 ts2 H2 k2 w2 p2 l2 e2 => ?_⟩
      exact ⟨i2, ts2, _, rfl, g.trans ⟨k2, w2, p2, l2⟩, e2⟩
    · rintro σ H' ⟨j, ts', x, rfl, g, e⟩
      rw [Int.toNat_natCast] at g e
      walk_at "go"
      exact k j ts' H' g e
/-! ### _law_list -/
def sp_law_list : Sp := fun vs H Q _ => ∃ (W : Wd) (ts : List Tr) (a : Addr) (is : List Nat) (us : List Tr), vs = [.ref W.w, .ref a] ∧ WAt H W ts ∧ H a = some (.lst (nV is)) ∧ a ∉ W.m ∧ Den ts is us ∧ is.length ≤ 500000 ∧ ts.length + is.length ≤ 15000000 ∧
  ∀ (i : Nat) (ts' : List Tr) (H' : Hp), Grow W ts is.length H H' ts' → ts'[i]? = some (lst us) → Q (.int i) H'
theorem law_list_ok (T : Txt w K mg) : Cal P w K mg base 2 "_law_list" sp_law_list := by
  refine mkCal T.f_law_list T.g_law_list sc_law_list (fun _ _ _ _ _ _ us hl => match us, hl with | [_, _], _ => rfl) (fun vs H Q E h => ?_) (fun cdv A outer s H vs Q E hr h => ?_)
  · obtain ⟨W, ts, a, is, us, rfl, _⟩ := h
    rfl
  · obtain ⟨W, ts, a, is, us, rfl, hW, ha, hm, hd, hn, hl, k⟩ := h
    refine ⟨_,
      (pss_cons (ps_st 2 sc_law_list.nd pe_int)
      (pss_cons (ps_for PassesOwn.never rfl (pi_range1 (by rfl) T.n_range (pa_cons (pe_callB c_lenQ (by rfl) T.n_len PySem.boot_len (pa_cons (pv 1) pa_nil)) pa_nil)) (pg_nm 3 sc_law_list.nd) 
          (pss_one (ps_st 2 sc_law_list.nd (pe_c (law_cons_ok T) hr (by decide) rfl (pa_cons (pv 0) (pa_cons (pe_il (pv 1) (pe_op op_sub (pe_op op_sub (pe_callB c_lenQ (by rfl) T.n_len PySem.boot_len (pa_cons (pv 1) pa_nil)) pe_int) (pv 3))) (pa_cons (pv 2) pa_nil)))))))
      (pss_one (ps_ret (pv 2))))), ?_⟩
    have hlen := Den.len hd
    walk_at "go"
    refine r_lenL ha ?_
    walk_at "go"
    rw [nV_len]
    refine ⟨_, rfl, by omega, by omega, for_it walk_range (fun i σ H' => ∃ (j : Nat) (ts' : List Tr) (x : Option V), σ = [some (.ref W.w), some (.ref a), some (.int (j : Int)), x] ∧ Grow W ts i H H' ts' ∧ ts'[j]? = some (lst (us.drop (us.length - i))))
      ⟨0, ts, none, rfl, Grow.refl hW, by rw [Nat.sub_zero, List.drop_length]; exact hW.zero⟩ (fun _ _ _ _ _ => trivial) ?_ ?_⟩
    · rintro i v σ H1 H' hi ⟨j, ts', x, rfl, g, e⟩ ⟨rfl, rfl⟩
      rw [Int.toNat_natCast] at hi
      have hg := g.len
      have ha' := g.keep _ _ ha hm
      obtain ⟨i1, e1, e2⟩ := Den.get hd (j := us.length - 1 - i) (t := us[us.length - 1 - i]'(by omega)) (List.getElem?_eq_getElem (by omega))
      have hdr : us.drop (us.length - (i + 1)) = us[us.length - 1 - i]'(by omega) :: us.drop (us.length - i) := by
        rw [show us.length - (i + 1) = us.length - 1 - i by omega, List.drop_eq_getElem_cons (by omega), show us.length - 1 - i + 1 = us.length - i by omega]
      walk_at "go"
      refine r_lenL ha' ?_
      walk_at "go"
      rw [nV_len]
      refine r_ixL ha' (j := us.length - 1 - i) (by omega) (nV_get e1) ?_
      walk_at "go"
      refine ⟨W, ts', i1, j, _, _, rfl, g.at_, g.get e2, e, by omega, fun i2 ts2 H2 k2 w2 p2 l2 e2 => ?_⟩
      exact ⟨i2, ts2, _, rfl, g.trans ⟨k2, w2, p2, l2⟩, by rw [hdr]; exact e2⟩
    · rintro σ H' ⟨j, ts', x, rfl, g, e⟩
      rw [Int.toNat_natCast, hlen, Nat.sub_self, List.drop_zero] at e
      rw [Int.toNat_natCast] at g
      walk_at "go"
      exact k j ts' H' g e
/-! ### _law_instruction -/
theorem idx_words (r : Row) : eqV (.str r.word) (.str r.word) = true ∧ ∀ (m : Nat) (z' : V), m < r.kind → wordsV[m]? = some z' → eqV z' (.str r.word) = false := by
  have key : ∀ j : Nat, j < 6 → ∀ m : Nat, m < j → (match wordsV[m]?, wordsV[j]? with | some a, some b => eqV a b | _, _ => true) = false := by decide +kernel
  have key2 : ∀ j : Nat, j < 6 → (match wordsV[j]? with | some a => eqV a a | _ => false) = true := by decide +kernel
  have h : wordsV[r.kind]? = some (.str r.word) := by cases r <;> rfl
  have h6 : r.kind < 6 := by cases r <;> simp [Row.kind]
  constructor
  · have := key2 _ h6
    rw [h] at this
    exact this
  · intro m z' hm hz
    have := key _ h6 m hm
    rw [h, hz] at this
    exact this
def sp_law_instruction : Sp := fun vs H Q _ => ∃ (W : Wd) (ts : List Tr) (p : Addr) (r : Row), vs = [.ref W.w, .ref p] ∧ WAt H W ts ∧ H p = some (.tup r.vals) ∧ r.code.sz ≤ 500000 ∧ ts.length + r.code.sz ≤ 15000000 ∧
  ∀ (i : Nat) (ts' : List Tr) (H' : Hp), Grow W ts r.code.sz H H' ts' → ts'[i]? = some r.code → Q (.int i) H'
theorem law_instruction_ok (T : Txt w K mg) : Cal P w K mg base 3 "_law_instruction" sp_law_instruction := by
  refine mkCal T.f_law_instruction T.g_law_instruction sc_law_instruction (fun _ _ _ _ _ _ us hl => match us, hl with | [_, _], _ => rfl) (fun vs H Q E h => ?_) (fun cdv A outer s H vs Q E hr h => ?_)
  · obtain ⟨W, ts, p, r, rfl, _⟩ := h
    rfl
  · obtain ⟨W, ts, p, r, rfl, hW, hp, hz, hl, k⟩ := h
    refine ⟨_,
      (pss_cons (ps_st 2 sc_law_instruction.nd (pe_it (pv 1) pe_int))
      (pss_cons (ps_st 3 sc_law_instruction.nd (pe_c (law_number_ok T) hr (by decide) rfl (pa_cons (pv 0) (pa_cons (pe_it (pv 1) pe_int) pa_nil))))
      (C8.pss_cut (ps_if (pt_cmpR op_eq (pv 2) pe_str (nomark _)) 
          (pss_one (ps_st 4 sc_law_instruction.nd (pe_c (law_in_ok T) hr (by decide) rfl (pa_cons (pv 0) (pa_cons (pe_it (pv 1) pe_int) pa_nil))))) 
          (pss_one (ps_if (pt_cmpR op_eq (pv 2) pe_str (nomark _)) 
              (pss_one (ps_st 4 sc_law_instruction.nd (pe_c (law_cons_ok T) hr (by decide) rfl (pa_cons (pv 0) (pa_cons (pe_c (law_number_ok T) hr (by decide) rfl (pa_cons (pv 0) (pa_cons (pe_it (pv 1) pe_int) pa_nil))) (pa_cons (pe_c (law_number_ok T) hr (by decide) rfl (pa_cons (pv 0) (pa_cons (pe_it (pv 1) pe_int) pa_nil))) pa_nil)))))) 
              (pss_one (ps_if (pt_cmpR op_eq (pv 2) pe_str (nomark _)) 
                  (pss_cons (ps_st 5 sc_law_instruction.nd pe_int)
                  (pss_cons (ps_if (pt_cmpR op_lt (pe_it (pv 1) pe_int) pe_int (nomark _)) 
                      (pss_one (ps_st 5 sc_law_instruction.nd (pe_c (law_cons_ok T) hr (by decide) rfl (pa_cons (pv 0) (pa_cons pe_int (pa_cons pe_int pa_nil)))))) pss_nil)
                  (pss_one (ps_st 4 sc_law_instruction.nd (pe_c (law_cons_ok T) hr (by decide) rfl (pa_cons (pv 0) (pa_cons (pv 5) (pa_cons (pe_c (law_number_ok T) hr (by decide) rfl (pa_cons (pv 0) (pa_cons (pe_callB c_abs (by rfl) T.n_abs (by decide +kernel) (pa_cons (pe_it (pv 1) pe_int) pa_nil)) pa_nil))) pa_nil)))))))) 
                  (pss_one (ps_st 4 sc_law_instruction.nd (pe_c (law_number_ok T) hr (by decide) rfl (pa_cons (pv 0) (pa_cons (pe_it (pv 1) pe_int) pa_nil))))))))))
      (pss_cons (ps_st 6 sc_law_instruction.nd (pe_bm PySem.F.plainAttrs_list PySem.F.slot_list_index PySem.F.type_list_index mt_index (pe_lst (pa_cons pe_str (pa_cons pe_str (pa_cons pe_str (pa_cons pe_str (pa_cons pe_str (pa_cons pe_str pa_nil))))))) (pa_cons (pv 2) pa_nil)))
      (pss_one (ps_ret (pe_c (law_cons_ok T) hr (by decide) rfl (pa_cons (pv 0) (pa_cons (pe_c (law_number_ok T) hr (by decide) rfl (pa_cons (pv 0) (pa_cons (pv 6) pa_nil))) (pa_cons (pe_c (law_cons_ok T) hr (by decide) rfl (pa_cons (pv 0) (pa_cons (pv 3) (pa_cons (pv 4) pa_nil)))) pa_nil)))))))))), ?_⟩
    have hz2 := hz
    have hl2 := hl
    rw [code_eq] at hz2 hl2
    simp only [Tr.sz, num_sz] at hz2 hl2
    have esz : r.code.sz = 1 + (2 * r.kind + 1) + (1 + (2 * r.arg + 1) + r.body.sz) := by
      rw [code_eq]
      simp only [Tr.sz, num_sz]
    have pout : p ∉ W.m := hW.out hp (fun _ z => by cases z) (fun _ z => by cases z)
    have hargs : ∃ rest, r.vals = .str r.word :: .int (r.arg : Nat) :: rest := by cases r <;> exact ⟨_, rfl⟩
    obtain ⟨rest, hv⟩ := hargs
    rw [hv] at hp
    walk_at "go"
    refine ⟨W, ts, r.arg, rfl, hW, by omega, by omega, fun i1 ts1 H1 g1 e1 => ?_⟩
    have hg1 := g1.len
    have hp1 := g1.keep _ _ hp pout
    rw [← hv] at hp1
    clear hp
    walk_at "go"
    refine ⟨fun σ H' => ∃ (i2 : Nat) (ts2 : List Tr) (x y : Option V), σ = [some (.ref W.w), some (.ref p), some (.str r.word), some (.int (i1 : Int)), some (.int (i2 : Int)), x, y] ∧ Grow W ts1 r.body.sz H1 H' ts2 ∧ ts2[i2]? = some r.body, ?_, ?_⟩
    · cases r with
      | set a t =>
        simp only [Row.body, Row.arg, Row.kind] at hz2 hl2 hg1
        walk_at "go"
        refine r_isT (dw_set (.set a t)) ?_
        walk_at "go"
        refine ⟨W, ts1, t, rfl, g1.at_, by omega, by omega, fun i2 ts2 H2 g2 e2 => ?_⟩
        walk_at "go"
        exact ⟨i2, ts2, _, _, rfl, g2, e2⟩
      | cons a b c =>
        simp only [Row.body, Row.arg, Row.kind, Tr.sz, num_sz] at hz2 hl2 hg1
        walk_at "go"
        refine r_isF (dw_set (.cons a b c)) ?_
        walk_at "go"
        refine r_isT (dw_cons (.cons a b c)) ?_
        walk_at "go"
        refine ⟨W, ts1, b, rfl, g1.at_, by omega, by omega, fun i2 ts2 H2 g2 e2 => ?_⟩
        have hg2 := g2.len
        have hp2 := g2.keep _ _ hp1 pout
        walk_at "go"
        refine ⟨W, ts2, c, rfl, g2.at_, by omega, by omega, fun i3 ts3 H3 g3 e3 => ?_⟩
        have hg3 := g3.len
        walk_at "go"
        refine ⟨W, ts3, i2, i3, num b, num c, rfl, g3.at_, g3.get e2, e3, by omega, fun i4 ts4 H4 k4 w4 p4 l4 e4 => ?_⟩
        walk_at "go"
        exact ⟨i4, ts4, _, _, rfl, ((g2.trans g3).trans ⟨k4, w4, p4, l4⟩).mono (by simp only [Row.body, Tr.sz, num_sz]; omega), e4⟩
      | jump a n =>
        simp only [Row.body, Row.arg, Row.kind, Tr.sz, num_sz] at hz2 hl2 hg1
        walk_at "go"
        refine r_isF (dw_set (.jump a n)) ?_
        walk_at "go"
        refine r_isF (dw_cons (.jump a n)) ?_
        walk_at "go"
        refine r_isT (dw_jump (.jump a n)) ?_
        walk_at "go"
        refine r_2 (fun e => ?_) (fun e => ?_)
        · have hneg : n < 0 := of_decide_eq_true e
          rw [if_pos hneg] at hz2 hl2
          simp only [Tr.sz] at hz2 hl2
          walk_at "go"
          refine ⟨W, ts1, 0, 0, .lf, .lf, rfl, g1.at_, g1.at_.zero, g1.at_.zero, by omega, fun i2 ts2 H2 k2 w2 p2 l2 e2 => ?_⟩
          have g2 : Grow W ts1 1 H1 H2 ts2 := ⟨k2, w2, p2, l2⟩
          have hp2 := g2.keep _ _ hp1 pout
          walk_at "go"
          rw [abs_nat]
          refine ⟨W, ts2, n.natAbs, rfl, g2.at_, by omega, by omega, fun i3 ts3 H3 g3 e3 => ?_⟩
          have hg3 := g3.len
          walk_at "go"
          refine ⟨W, ts3, i2, i3, one, num n.natAbs, rfl, g3.at_, g3.get e2, e3, by omega, fun i4 ts4 H4 k4 w4 p4 l4 e4 => ?_⟩
          walk_at "go"
          refine ⟨i4, ts4, _, _, rfl, ((g2.trans g3).trans ⟨k4, w4, p4, l4⟩).mono (by simp only [Row.body, Tr.sz, num_sz]; omega), ?_⟩
          show _ = some (Tr.nd (if n < 0 then one else .lf) (num n.natAbs))
          rw [if_pos hneg]
          exact e4
        · have hneg : ¬ n < 0 := of_decide_eq_false e
          rw [if_neg hneg] at hz2 hl2
          simp only [Tr.sz] at hz2 hl2
          walk_at "go"
          rw [abs_nat]
          refine ⟨W, ts1, n.natAbs, rfl, g1.at_, by omega, by omega, fun i3 ts3 H3 g3 e3 => ?_⟩
          have hg3 := g3.len
          walk_at "go"
          refine ⟨W, ts3, 0, i3, .lf, num n.natAbs, rfl, g3.at_, g3.at_.zero, e3, by omega, fun i4 ts4 H4 k4 w4 p4 l4 e4 => ?_⟩
          walk_at "go"
          refine ⟨i4, ts4, _, _, rfl, (g3.trans ⟨k4, w4, p4, l4⟩).mono (by simp only [Row.body, Tr.sz, num_sz]; omega), ?_⟩
          show _ = some (Tr.nd (if n < 0 then one else .lf) (num n.natAbs))
          rw [if_neg hneg]
          exact e4
      | move a b =>
        simp only [Row.body, Row.arg, Row.kind, Tr.sz, num_sz] at hz2 hl2 hg1
        walk_at "go"
        refine r_isF (dw_set (.move a b)) ?_
        walk_at "go"
        refine r_isF (dw_cons (.move a b)) ?_
        walk_at "go"
        refine r_isF (dw_jump (.move a b)) ?_
        walk_at "go"
        refine ⟨W, ts1, b, rfl, g1.at_, by omega, by omega, fun i2 ts2 H2 g2 e2 => ?_⟩
        walk_at "go"
        exact ⟨i2, ts2, _, _, rfl, g2.mono (by simp only [Row.body, num_sz]; omega), e2⟩
      | head a b =>
        simp only [Row.body, Row.arg, Row.kind, Tr.sz, num_sz] at hz2 hl2 hg1
        walk_at "go"
        refine r_isF (dw_set (.head a b)) ?_
        walk_at "go"
        refine r_isF (dw_cons (.head a b)) ?_
        walk_at "go"
        refine r_isF (dw_jump (.head a b)) ?_
        walk_at "go"
        refine ⟨W, ts1, b, rfl, g1.at_, by omega, by omega, fun i2 ts2 H2 g2 e2 => ?_⟩
        walk_at "go"
        exact ⟨i2, ts2, _, _, rfl, g2.mono (by simp only [Row.body, num_sz]; omega), e2⟩
      | tail a b =>
        simp only [Row.body, Row.arg, Row.kind, Tr.sz, num_sz] at hz2 hl2 hg1
        walk_at "go"
        refine r_isF (dw_set (.tail a b)) ?_
        walk_at "go"
        refine r_isF (dw_cons (.tail a b)) ?_
        walk_at "go"
        refine r_isF (dw_jump (.tail a b)) ?_
        walk_at "go"
        refine ⟨W, ts1, b, rfl, g1.at_, by omega, by omega, fun i2 ts2 H2 g2 e2 => ?_⟩
        walk_at "go"
        exact ⟨i2, ts2, _, _, rfl, g2.mono (by simp only [Row.body, num_sz]; omega), e2⟩
    · rintro σ H' ⟨i2, ts2, x, y, rfl, g2, e2⟩
      have hg2 := g2.len
      walk_at "go"
      refine ⟨by show 6 ≤ sizeLine; decide, fun q hq => ?_⟩
      have s3 : Same H' (upd H' q (.lst [V.str "set", V.str "move", V.str "cons", V.str "head", V.str "tail", V.str "jump"])) := same_new hq
      have q3 : (upd H' q (.lst [V.str "set", V.str "move", V.str "cons", V.str "head", V.str "tail", V.str "jump"])) q = some (.lst wordsV) := upd_same
      generalize upd H' q (.lst [V.str "set", V.str "move", V.str "cons", V.str "head", V.str "tail", V.str "jump"]) = H3 at s3 q3 ⊢
      have w3 := g2.at_.same s3
      refine r_tyL q3 ?_
      walk_at "go"
      refine ⟨q, wordsV, _, r.kind, .str r.word, rfl, rfl, SqL.of q3, rfl, by decide, by cases r <;> rfl, (idx_words r).1, (idx_words r).2, ?_⟩
      walk_at "go"
      refine ⟨W, ts2, r.kind, rfl, w3, by omega, by omega, fun i4 ts4 H4 g4 e4 => ?_⟩
      have hg4 := g4.len
      walk_at "go"
      refine ⟨W, ts4, i1, i2, num r.arg, r.body, rfl, g4.at_, g4.get (g2.get e1), g4.get e2, by omega, fun i5 ts5 H5 k5 w5 p5 l5 e5 => ?_⟩
      have g5 : Grow W ts4 1 H4 H5 ts5 := ⟨k5, w5, p5, l5⟩
      walk_at "go"
      refine ⟨W, ts5, i4, i5, num r.kind, .nd (num r.arg) r.body, rfl, g5.at_, g5.get e4, e5, by omega, fun i6 ts6 H6 k6 w6 p6 l6 e6 => ?_⟩
      rw [← code_eq] at e6
      exact k i6 ts6 H6 (((((g1.trans g2).trans (Grow.same s3 g4)).trans g5).trans ⟨k6, w6, p6, l6⟩).mono (by omega)) e6
end
end K38
set_option Elab.async false
set_option linter.all false
set_option maxRecDepth 100000
set_option maxHeartbeats 4000000
namespace K38
open PySem PySem.Spec PyProof.Rows L2 He SX
/-! ### the walk's own steps -/
local macro_rules | `(tactic| walk_at "hp") => `(tactic| first
  | assumption
  | with_reducible exact upd_same
  | (refine Eq.trans (upd_ne (by first | assumption | exact Ne.symm (by assumption))) ?_; walk_at "hp"))
local macro_rules | `(tactic| walk_at "st0") => `(tactic| with_reducible first
  | refine r_seq ?_ | refine r_asg ?_ | ((refine r_var (v := ?v) ?h ?_); (case h => with_unfolding_all exact rfl)) | refine r_c ?_ | refine r_op ?_ | refine r_cons ?_ | refine r_nil ?_ | refine r_gname ?_ | refine r_cb ?_ | refine r_call ?_
  | refine r_if ?_ | refine r_ret ?_ | refine r_test ?_ | refine r_bl ?_ | refine r_I0 ?_ | ((refine r_eq ?h ?_); (case h => with_unfolding_all exact rfl)) | ((refine r_ne ?h ?_); (case h => with_unfolding_all exact rfl))
  | refine r_T ?_ | refine r_F ?_ | refine r_nT ?_ | refine r_nF ?_ | refine r_not ?_ | refine r_and ?_ | refine r_or ?_ | refine r_B ?_ | refine r_next ?_ | refine r_drop ?_ | refine r_tup ?_ | refine r_bm ?_ | refine r_bm0 ?_
  | refine r_chain ?_ | refine r_andV ?_ | refine r_notV ?_ | refine r_isN ?_ | refine r_notN ?_ | refine r_dget ?_ | refine r_din ?_ | refine r_dnotin ?_ | refine r_un ?_ | refine r_rU ?_ | refine r_gsub ?_
  | ((refine r_aug (x := ?x) ?h ?_); (case h => with_unfolding_all exact rfl)) | refine r_ipI ?_ | refine r_for ?_ | refine r_lc ?_ | refine r_iList ?_ | refine r_iTup ?_ | refine r_iStr ?_ | refine r_iRng1 ?_ | refine r_iRng2 ?_ | refine r_iEnum ?_ | ((refine r_wipe ?h ?_); (case h => with_unfolding_all exact rfl)) | refine r_yes ?_ | refine r_rng ?_ | refine r_part ?_ | refine r_nopart ?_ | refine r_exi ?_ | refine r_int1 ?_ | refine r_abs ?_ | refine r_m1 ?_ | refine r_pairs ?_ | refine r_pairs0 ?_ | refine r_dput ?_ | refine r_trk ?_ | ((refine r_ixT0 (xs := ?xs) (v := ?v) ?h ?hv ?_); (case h => walk_at "hp"); (case hv => with_unfolding_all exact rfl)) | ((refine r_ixT1 (xs := ?xs) (v := ?v) ?h ?hv ?_); (case h => walk_at "hp"); (case hv => with_unfolding_all exact rfl)) | ((refine r_ixT2 (xs := ?xs) (v := ?v) ?h ?hv ?_); (case h => walk_at "hp"); (case hv => with_unfolding_all exact rfl)) | ((refine r_ixT3 (xs := ?xs) (v := ?v) ?h ?hv ?_); (case h => walk_at "hp"); (case hv => with_unfolding_all exact rfl)) | refine r_strv ?_)
local macro_rules | `(tactic| walk_at "st") => `(tactic| first | walk_at "st0" | with_reducible refine r_lst ?_)
local macro_rules | `(tactic| walk_at "g0") => `(tactic| repeat walk_at "st0")
local macro_rules | `(tactic| walk_at "go") => `(tactic| repeat walk_at "st")
local macro_rules | `(tactic| walk_at "dk") => `(tactic| first | refine r_isT (by decide +kernel) ?_ | refine r_isF (by decide +kernel) ?_)
local macro_rules | `(tactic| walk_at "gd") => `(tactic| repeat first | walk_at "st" | walk_at "dk")
section
variable {P : Program} {w : World} {K : PySem.W.Frag} {mg : Str → Option Value} {base : Heap}
theorem sum_take_le (rs : List Row) (f : Row → Nat) (i : Nat) : ((rs.take i).map f).sum ≤ (rs.map f).sum := by
  have h : rs.map f = (rs.take i).map f ++ (rs.drop i).map f := by rw [← List.map_append, List.take_append_drop]
  rw [h, List.sum_append]
  omega
theorem sum_take_s (rs : List Row) (f : Row → Nat) {i : Nat} {r : Row} (h : rs[i]? = some r) : ((rs.take (i + 1)).map f).sum = ((rs.take i).map f).sum + f r := by
  rw [List.take_add_one, h, List.map_append, List.sum_append]
  simp
theorem codeT_sz (rs : List Row) : (codeT rs).sz = (rs.map fun r => r.code.sz + 1).sum + 1 := by
  unfold codeT
  rw [lst_sz, List.map_map]
  rfl
theorem sum_succ (rs : List Row) (f : Row → Nat) : (rs.map fun r => f r + 1).sum = (rs.map f).sum + rs.length := by
  induction rs with
  | nil => rfl
  | cons r rs ih =>
    rw [List.map_cons, List.sum_cons, List.map_cons, List.sum_cons, ih, List.length_cons]
    omega
/-! ### _law_code -/
def sp_law_code : Sp := fun vs H Q _ => ∃ (W : Wd) (ts : List Tr) (a : Addr) (rs : List Row), vs = [.ref W.w, .ref a] ∧ WAt H W ts ∧ PrAt W.m H a rs ∧ (codeT rs).sz ≤ 500000 ∧ ts.length + (codeT rs).sz ≤ 15000000 ∧
  ∀ (i : Nat) (ts' : List Tr) (H' : Hp), Grow W ts (codeT rs).sz H H' ts' → ts'[i]? = some (codeT rs) → Q (.int i) H'
theorem law_code_ok (T : Txt w K mg) : Cal P w K mg base 4 "_law_code" sp_law_code := by
  refine mkCal T.f_law_code T.g_law_code sc_law_code (fun _ _ _ _ _ _ us hl => match us, hl with | [_, _], _ => rfl) (fun vs H Q E h => ?_) (fun cdv A outer s H vs Q E hr h => ?_)
  · obtain ⟨W, ts, a, rs, rfl, _⟩ := h
    rfl
  · obtain ⟨W, ts, a, rs, rfl, hW, pr, hz, hl, k⟩ := h
    refine ⟨_,
      (pss_one (ps_ret (pe_c (law_list_ok T) hr (by decide) rfl (pa_cons (pv 0) (pa_cons (pe_lc (own := [(("_law_one" : Str), 2)]) (by rfl) sc_law_code.nd (pi_list (pv 1)) (blkOk_by (own := [(("_law_one" : Str), 2)]) (N := names_law_code) (sc := defScope s_law_code) (by decide +kernel)) (fun _ _ _ _ _ => (pg_nm 2 sc_law_code.nd)) (fun _ _ _ _ _ => pts_nil) (fun _ _ _ _ _ => (pe_c (law_instruction_ok T) hr (by decide) rfl (pa_cons (pv 0) (pa_cons (pv 2) pa_nil))))) pa_nil))))), ?_⟩
    have esz := codeT_sz rs
    rw [sum_succ] at esz
    obtain ⟨am, us, ha, hu⟩ := pr
    have hul := RowsAt.len hu
    walk_at "go"
    refine ⟨a, rfl, ⟨_, SqL.of ha⟩, fun D hD => ?_⟩
    have Dm : D ∉ W.m := hW.dom.out hD
    have Dw : D ≠ W.w := fun z => by
      rw [z, hW.dict] at hD
      cases hD
    refine lc_it (walk_list (xs := us)) (fun i H' => ∃ (is : List Nat) (ts' : List Tr), Grow W ts ((rs.take i).map fun r => r.code.sz).sum H H' ts' ∧ H' D = some (.lst (nV is)) ∧ Den ts' is ((rs.take i).map Row.code))
      ⟨[], ts, Grow.same (same_new hD) (Grow.refl (hW.same (same_new hD))), upd_same, .nil⟩ (fun i H' _ h => SqL.of (let ⟨_, _, g, _⟩ := h; g.keep _ _ ha am)) ?_ ?_
    · rintro i x H1 H' hi ⟨is, ts', g, hd, dn⟩ ⟨rfl, hx⟩
      obtain ⟨r, hr', p, rfl, hpM, hp⟩ := RowsAt.get hu hx
      have hp' := g.keep _ _ hp hpM
      have hg := g.len
      have h1 := sum_take_le rs (fun r => r.code.sz) (i + 1)
      rw [sum_take_s rs _ hr'] at h1
      have hil := Den.len dn
      rw [List.length_map, List.length_take] at hil
      walk_at "go"
      refine ⟨W, ts', p, r, rfl, g.at_, hp', by omega, by omega, fun j ts2 H2 g2 e2 => ?_⟩
      have hd2 := g2.keep _ _ hd Dm
      refine ⟨_, hd2, ?_, is ++ [j], ts2, ?_, ?_, ?_⟩
      · rw [nV_len]
        exact Nat.lt_of_lt_of_le (show is.length < 1000000 by omega) (by decide)
      · have gg := g.trans g2
        rw [sum_take_s rs _ hr']
        refine ⟨fun b o e n => ?_, gg.at_.keep (M := [D]) (Keep.put (by simp)) (fun m hm => by rw [List.mem_singleton.mp hm]; exact ⟨Dw, Dm⟩), gg.pre, gg.len⟩
        rw [upd_ne (fun z => by rw [z, hD] at e; cases e)]
        exact gg.keep b o e n
      · rw [upd_same, nV_app]
        rfl
      · have et : (rs.take (i + 1)).map Row.code = (rs.take i).map Row.code ++ [r.code] := by
          rw [List.take_add_one, hr', List.map_append]
          rfl
        rw [et]
        exact Paired.snoc (Den.pre dn g2.pre) e2
    · rintro H' ⟨is, ts', g, hd, dn⟩
      rw [hul, List.take_length] at g dn
      have hg := g.len
      have hil := Den.len dn
      rw [List.length_map] at hil
      walk_at "go"
      refine ⟨W, ts', D, is, rs.map Row.code, rfl, g.at_, hd, Dm, dn, by omega, by omega, fun j ts2 H2 g2 e2 => ?_⟩
      exact k j ts2 H2 ((g.trans g2).mono (by omega)) e2
/-! ### _law_loaded -/
def LV (ts : List Tr) : Row → List V → Prop
  | .set a t, ws => ∃ i : Nat, ts[i]? = some t ∧ ws = [.str "set", .int a, .int i]
  | r, ws => ws = r.vals
def LRow (M : List Addr) (H : Hp) (ts : List Tr) (v : V) (r : Row) : Prop := ∃ p ws, v = .ref p ∧ p ∉ M ∧ H p = some (.tup ws) ∧ LV ts r ws
def LAt (M : List Addr) (H : Hp) (ts : List Tr) (l : Addr) (rs : List Row) : Prop := l ∉ M ∧ ∃ vs, H l = some (.lst vs) ∧ Paired (LRow M H ts) vs rs
theorem LV.pre {ts ts' : List Tr} {r : Row} {ws : List V} (h : LV ts r ws) (p : ts <+: ts') : LV ts' r ws := by
  cases r with
  | set a t =>
    obtain ⟨i, e, q⟩ := h
    exact ⟨i, pre_get p e, q⟩
  | _ => exact h
theorem LRow.keep {M : List Addr} {H H' : Hp} {ts ts' : List Tr} {v : V} {r : Row} (h : LRow M H ts v r) (k : Keep M H H') (p : ts <+: ts') : LRow M H' ts' v r := let ⟨q, ws, e, n, hq, lv⟩ := h; ⟨q, ws, e, n, k _ _ hq n, lv.pre p⟩
theorem LAt.keep {M : List Addr} {H H' : Hp} {ts ts' : List Tr} {l : Addr} {rs : List Row} (h : LAt M H ts l rs) (k : Keep M H H') (p : ts <+: ts') : LAt M H' ts' l rs := let ⟨n, vs, e, q⟩ := h; ⟨n, vs, k _ _ e n, Paired.mapP q fun _ _ z => z.keep k p⟩
theorem LAt.mono {M M' : List Addr} {H : Hp} {ts : List Tr} {l : Addr} {rs : List Row} (h : LAt M H ts l rs) (k : ∀ m ∈ M', m ∈ M) : LAt M' H ts l rs := let ⟨n, vs, e, q⟩ := h; ⟨fun z => n (k l z), vs, e, Paired.mapP q fun _ _ ⟨p, ws, a, b, c, d⟩ => ⟨p, ws, a, fun z => b (k p z), c, d⟩⟩
/-- what is new stands apart -/
theorem LAt.fresh {M : List Addr} {H : Hp} {ts : List Tr} {l r : Addr} {rs : List Row} (h : LAt M H ts l rs) (hr : H r = none) : LAt (r :: M) H ts l rs := by
  obtain ⟨n, vs, e, q⟩ := h
  have key : ∀ {p : Addr} {o : HO}, H p = some o → p ∉ M → p ∉ r :: M := fun hp hn hm => by
    rcases List.mem_cons.mp hm with z | z
    · rw [z, hr] at hp
      cases hp
    · exact hn z
  exact ⟨key e n, vs, e, Paired.mapP q fun _ _ ⟨p, ws, a, b, c, d⟩ => ⟨p, ws, a, key c b, c, d⟩⟩
theorem LAt.get {M : List Addr} {H : Hp} {ts : List Tr} {l : Addr} {rs : List Row} (h : LAt M H ts l rs) {i : Nat} {r : Row} (e : rs[i]? = some r) : ∃ vs p ws, H l = some (.lst vs) ∧ vs.length = rs.length ∧ vs[i]? = some (.ref p) ∧ p ∉ M ∧ H p = some (.tup ws) ∧ LV ts r ws := by
  obtain ⟨n, vs, e1, q⟩ := h
  have : ∀ {vs : List V} {rs : List Row} {i : Nat}, Paired (LRow M H ts) vs rs → rs[i]? = some r → ∃ v, vs[i]? = some v ∧ LRow M H ts v r := by
    intro vs rs i q
    induction q generalizing i with
    | nil => intro e; simp at e
    | @cons x y xs ys hx ht ih =>
      intro e
      cases i with
      | zero =>
        have : y = r := by simpa using e
        subst this
        exact ⟨x, by simp, hx⟩
      | succ i => exact ih (by simpa using e)
  obtain ⟨v, hv, p, ws, rfl, a, b, c⟩ := this q e
  exact ⟨vs, p, ws, e1, Paired.length q, hv, a, b, c⟩
theorem LAt.len {M : List Addr} {H : Hp} {ts : List Tr} {l : Addr} {rs : List Row} (h : LAt M H ts l rs) : ∃ vs, H l = some (.lst vs) ∧ vs.length = rs.length := let ⟨_, vs, e, q⟩ := h; ⟨vs, e, Paired.length q⟩
def sp_law_loaded : Sp := fun vs H Q _ => ∃ (W : Wd) (ts : List Tr) (a : Addr) (rs : List Row), vs = [.ref W.w, .ref a] ∧ WAt H W ts ∧ PrAt W.m H a rs ∧ rs.length ≤ 10000 ∧ (rs.map Row.tsz).sum ≤ 500000 ∧ ts.length + (rs.map Row.tsz).sum ≤ 15000000 ∧
  ∀ (l : Addr) (ts' : List Tr) (H' : Hp), H l = none → Grow W ts (rs.map Row.tsz).sum H H' ts' → LAt W.m H' ts' l rs → Q (.ref l) H'
theorem law_loaded_ok (T : Txt w K mg) : Cal P w K mg base 3 "_law_loaded" sp_law_loaded := by
  refine mkCal T.f_law_loaded T.g_law_loaded sc_law_loaded (fun _ _ _ _ _ _ us hl => match us, hl with | [_, _], _ => rfl) (fun vs H Q E h => ?_) (fun cdv A outer s H vs Q E hr h => ?_)
  · obtain ⟨W, ts, a, rs, rfl, _⟩ := h
    rfl
  · obtain ⟨W, ts, a, rs, rfl, hW, pr, hn, hz, hl, k⟩ := h
    refine ⟨_,
      (pss_cons (ps_st 2 sc_law_loaded.nd (pe_lst pa_nil))
      (pss_cons (ps_for PassesOwn.never rfl (pi_list (pv 1)) (pg_nm 3 sc_law_loaded.nd) 
          (pss_one (ps_if (pt_cmpR op_eq (pe_it (pv 3) pe_int) pe_str (nomark _)) 
              (pss_one (ps_expr (pe_app (pv 2) (pe_tup (pa_cons (pe_it (pv 3) pe_int) (pa_cons (pe_it (pv 3) pe_int) (pa_cons (pe_c (law_in_ok T) hr (by decide) rfl (pa_cons (pv 0) (pa_cons (pe_it (pv 3) pe_int) pa_nil))) pa_nil))))))) 
              (pss_one (ps_expr (pe_app (pv 2) (pv 3)))))))
      (pss_one (ps_ret (pv 2))))), ?_⟩
    obtain ⟨am, us, ha, hu⟩ := pr
    have hul := RowsAt.len hu
    walk_at "go"
    refine ⟨Nat.zero_le _, fun D hD => ?_⟩
    have Dm : D ∉ W.m := hW.dom.out hD
    have Dw : D ≠ W.w := fun z => by
      rw [z, hW.dict] at hD
      cases hD
    have s0 : Same H (upd H D (.lst [])) := same_new hD
    have e0 : (upd H D (.lst [])) D = some (.lst []) := upd_same
    generalize upd H D (.lst []) = H0 at s0 e0
    walk_at "go"
    refine ⟨a, rfl, ⟨_, SqL.of (s0 _ _ ha)⟩, for_it (walk_list (xs := us)) (fun i σ H' => ∃ (ls : List V) (ts' : List Tr) (x : Option V), σ = [some (.ref W.w), some (.ref a), some (.ref D), x] ∧ Grow W ts ((rs.take i).map Row.tsz).sum H H' ts' ∧ H' D = some (.lst ls) ∧ Paired (LRow (D :: W.m) H' ts') ls (rs.take i))
      ⟨[], ts, none, rfl, Grow.same s0 (Grow.refl (hW.same s0)), e0, .nil⟩ (fun i σ H' _ h => SqL.of (let ⟨_, _, _, _, g, _⟩ := h; g.keep _ _ ha am)) ?_ ?_⟩
    · rintro i x σ H1 H' hi ⟨ls, ts', y, rfl, g, hd, hp⟩ ⟨rfl, hx⟩
      obtain ⟨r, hr', p, rfl, hpM, hp0⟩ := RowsAt.get hu hx
      have hp1 := g.keep _ _ hp0 hpM
      have hpD : p ≠ D := ne_of hp1 hd (by intro z; cases z)
      have hg := g.len
      have h1 := sum_take_le rs Row.tsz (i + 1)
      rw [sum_take_s rs _ hr'] at h1
      have hll := Paired.length hp
      rw [List.length_take] at hll
      have hlen : ls.length < sizeLine := Nat.lt_of_lt_of_le (show ls.length < 1000000 by omega) (by decide)
      have et : rs.take (i + 1) = rs.take i ++ [r] := by rw [List.take_add_one, hr']; rfl
      have fin : ∀ (v : V) (ts2 : List Tr) (H2 : Hp), Grow W ts' r.tsz H' H2 ts2 → Keep (D :: W.m) H' H2 → H2 D = some (.lst ls) → LRow (D :: W.m) H2 ts2 v r →
          ∃ (ls' : List V) (ts' : List Tr) (x : Option V), [some (.ref W.w), some (.ref a), some (.ref D), some (.ref p)] = [some (V.ref W.w), some (.ref a), some (.ref D), x] ∧ Grow W ts ((rs.take (i + 1)).map Row.tsz).sum H (upd H2 D (.lst (ls ++ [v]))) ts' ∧ (upd H2 D (.lst (ls ++ [v]))) D = some (.lst ls') ∧ Paired (LRow (D :: W.m) (upd H2 D (.lst (ls ++ [v]))) ts') ls' (rs.take (i + 1)) := by
        intro v ts2 H2 g2 k2 d2 lr
        have gg := g.trans g2
        have kk : Keep (D :: W.m) H2 (upd H2 D (.lst (ls ++ [v]))) := Keep.put (by simp)
        refine ⟨ls ++ [v], ts2, _, rfl, ?_, upd_same, ?_⟩
        · rw [sum_take_s rs _ hr']
          refine ⟨fun b o e n => ?_, gg.at_.keep (M := [D]) (Keep.put (by simp)) (fun m hm => by rw [List.mem_singleton.mp hm]; exact ⟨Dw, Dm⟩), gg.pre, gg.len⟩
          rw [upd_ne (fun z => by rw [z, hD] at e; cases e)]
          exact gg.keep b o e n
        · rw [et]
          exact Paired.snoc (Paired.mapP hp fun _ _ z => (z.keep k2 g2.pre).keep kk (List.prefix_refl _)) (lr.keep kk (List.prefix_refl _))
      have g00 : Grow W ts' 0 H' H' ts' := Grow.refl g.at_
      have pnew : p ∉ D :: W.m := fun z => by
        rcases List.mem_cons.mp z with z | z
        · exact hpD z
        · exact hpM z
      cases r with
      | set b t =>
        simp only [Row.tsz] at h1
        walk_at "gd"
        refine r_tyL hd ?_
        walk_at "go"
        refine ⟨W, ts', t, rfl, g.at_, by omega, by omega, fun j ts2 H2 g2 e2 => ?_⟩
        have hd2 := g2.keep _ _ hd Dm
        walk_at "go"
        refine ⟨by show 3 ≤ sizeLine; decide, fun q hq => ?_⟩
        have s3 : Same H2 (upd H2 q (.tup [.str "set", .int (b : Int), .int (j : Int)])) := same_new hq
        have e3 : (upd H2 q (.tup [.str "set", .int (b : Int), .int (j : Int)])) q = some (.tup [.str "set", .int (b : Int), .int (j : Int)]) := upd_same
        have qm : q ∉ D :: W.m := fun z => by
          rcases List.mem_cons.mp z with z | z
          · rw [z, hd2] at hq
            cases hq
          · exact g2.at_.dom _ z hq
        generalize upd H2 q (.tup [.str "set", .int (b : Int), .int (j : Int)]) = H3 at s3 e3
        walk_at "go"
        refine r_app (s3 _ _ hd2) hlen ?_
        refine fin (.ref q) ts2 H3 ⟨g2.keep.trans (same_keep s3), g2.at_.same s3, g2.pre, g2.len⟩ ?_ (s3 _ _ hd2) ⟨q, _, rfl, qm, e3, j, e2, rfl⟩
        exact (g2.keep.mono fun m hm => List.mem_cons_of_mem _ hm).trans (same_keep s3)
      | move b c =>
        walk_at "gd"
        refine r_tyL hd ?_
        walk_at "go"
        exact r_app hd hlen (fin (.ref p) ts' H' g00 Keep.refl hd ⟨p, _, rfl, pnew, hp1, rfl⟩)
      | cons b c d =>
        walk_at "gd"
        refine r_tyL hd ?_
        walk_at "go"
        exact r_app hd hlen (fin (.ref p) ts' H' g00 Keep.refl hd ⟨p, _, rfl, pnew, hp1, rfl⟩)
      | head b c =>
        walk_at "gd"
        refine r_tyL hd ?_
        walk_at "go"
        exact r_app hd hlen (fin (.ref p) ts' H' g00 Keep.refl hd ⟨p, _, rfl, pnew, hp1, rfl⟩)
      | tail b c =>
        walk_at "gd"
        refine r_tyL hd ?_
        walk_at "go"
        exact r_app hd hlen (fin (.ref p) ts' H' g00 Keep.refl hd ⟨p, _, rfl, pnew, hp1, rfl⟩)
      | jump b n =>
        walk_at "gd"
        refine r_tyL hd ?_
        walk_at "go"
        exact r_app hd hlen (fin (.ref p) ts' H' g00 Keep.refl hd ⟨p, _, rfl, pnew, hp1, rfl⟩)
    · rintro σ H' ⟨ls, ts', y, rfl, g, hd, hp⟩
      rw [hul, List.take_length] at g hp
      walk_at "go"
      exact k D ts' H' hD g ⟨Dm, ls, hd, Paired.mapP hp fun _ _ ⟨q, ws, a, b, c, d⟩ => ⟨q, ws, a, fun z => b (List.mem_cons_of_mem _ z), c, d⟩⟩
end
end K38
set_option Elab.async false
set_option linter.all false
set_option maxRecDepth 100000
set_option maxHeartbeats 4000000
namespace K38
open PySem PySem.Spec PyProof.Rows L2 He SX
/-! ### the walk's own steps -/
local macro_rules | `(tactic| walk_at "hp") => `(tactic| first
  | assumption
  | with_reducible exact upd_same
  | (refine Eq.trans (upd_ne (by first | assumption | exact Ne.symm (by assumption))) ?_; walk_at "hp"))
local macro_rules | `(tactic| walk_at "st0") => `(tactic| with_reducible first
  | refine r_seq ?_ | refine r_asg ?_ | ((refine r_var (v := ?v) ?h ?_); (case h => with_unfolding_all exact rfl)) | refine r_c ?_ | refine r_op ?_ | refine r_cons ?_ | refine r_nil ?_ | refine r_gname ?_ | refine r_cb ?_ | refine r_call ?_
  | refine r_if ?_ | refine r_ret ?_ | refine r_test ?_ | refine r_bl ?_ | refine r_I0 ?_ | ((refine r_eq ?h ?_); (case h => with_unfolding_all exact rfl)) | ((refine r_ne ?h ?_); (case h => with_unfolding_all exact rfl))
  | refine r_T ?_ | refine r_F ?_ | refine r_nT ?_ | refine r_nF ?_ | refine r_not ?_ | refine r_and ?_ | refine r_or ?_ | refine r_B ?_ | refine r_next ?_ | refine r_drop ?_ | refine r_tup ?_ | refine r_bm ?_ | refine r_bm0 ?_
  | refine r_chain ?_ | refine r_andV ?_ | refine r_notV ?_ | refine r_isN ?_ | refine r_notN ?_ | refine r_dget ?_ | refine r_din ?_ | refine r_dnotin ?_ | refine r_un ?_ | refine r_rU ?_ | refine r_gsub ?_
  | ((refine r_aug (x := ?x) ?h ?_); (case h => with_unfolding_all exact rfl)) | refine r_ipI ?_ | refine r_for ?_ | refine r_lc ?_ | refine r_iList ?_ | refine r_iTup ?_ | refine r_iStr ?_ | refine r_iRng1 ?_ | refine r_iRng2 ?_ | refine r_iEnum ?_ | ((refine r_wipe ?h ?_); (case h => with_unfolding_all exact rfl)) | refine r_yes ?_ | refine r_rng ?_ | refine r_part ?_ | refine r_nopart ?_ | refine r_exi ?_ | refine r_int1 ?_ | refine r_abs ?_ | refine r_m1 ?_ | refine r_pairs ?_ | refine r_pairs0 ?_ | refine r_dput ?_ | refine r_trk ?_ | ((refine r_ixT0 (xs := ?xs) (v := ?v) ?h ?hv ?_); (case h => walk_at "hp"); (case hv => with_unfolding_all exact rfl)) | ((refine r_ixT1 (xs := ?xs) (v := ?v) ?h ?hv ?_); (case h => walk_at "hp"); (case hv => with_unfolding_all exact rfl)) | ((refine r_ixT2 (xs := ?xs) (v := ?v) ?h ?hv ?_); (case h => walk_at "hp"); (case hv => with_unfolding_all exact rfl)) | ((refine r_ixT3 (xs := ?xs) (v := ?v) ?h ?hv ?_); (case h => walk_at "hp"); (case hv => with_unfolding_all exact rfl)) | refine r_strv ?_)
local macro_rules | `(tactic| walk_at "st") => `(tactic| first | walk_at "st0" | with_reducible refine r_lst ?_)
local macro_rules | `(tactic| walk_at "g0") => `(tactic| repeat walk_at "st0")
local macro_rules | `(tactic| walk_at "go") => `(tactic| repeat walk_at "st")
local macro_rules | `(tactic| walk_at "dk") => `(tactic| first | refine r_isT (by decide +kernel) ?_ | refine r_isF (by decide +kernel) ?_)
local macro_rules | `(tactic| walk_at "gd") => `(tactic| repeat first | walk_at "st" | walk_at "dk")
/-! ### the machine on trees -/
def Row.next (r : Row) (pc : Nat) (R : List Tr) : Nat × List Tr := match r with
  | .set a t => (pc + 1, R.set a t)
  | .move a b => (pc + 1, R.set a (R.getD b .lf))
  | .cons a b c => (pc + 1, R.set a (.nd (R.getD b .lf) (R.getD c .lf)))
  | .head a b => (pc + 1, R.set a (R.getD b .lf).hd)
  | .tail a b => (pc + 1, R.set a (R.getD b .lf).tl)
  | .jump a n => if R.getD a .lf = .lf then (pc + 1, R) else (((pc : Int) + n).toNat, R)
theorem next_len (r : Row) (pc : Nat) (R : List Tr) : (r.next pc R).2.length = R.length := by
  cases r <;> simp only [Row.next, List.length_set]
  split <;> rfl
theorem Den.set {ts : List Tr} {is : List Nat} {R : List Tr} (h : Den ts is R) {j : Nat} {x : Tr} (e : ts[j]? = some x) (a : Nat) : Den ts (is.set a j) (R.set a x) := by
  induction h generalizing a with
  | nil => exact .nil
  | cons hx ht ih =>
    cases a with
    | zero => exact .cons e ht
    | succ a => exact .cons hx (ih a)
theorem r_setL {H : Hp} {QS : Hp → Prop} {p : Addr} {is : List Nat} {a j : Nat} (h : H p = some (.lst (nV is))) (ha : a < is.length) (q : QS (upd H p (.lst (nV (is.set a j))))) : rSetL (.ref p) (.int (a : Int)) (.int (j : Int)) H QS := by
  have e : nV (is.set a j) = (nV is).set a (.int (j : Int)) := by simp [nV, List.map_set]
  refine ⟨p, _, (a : Int), a, rfl, rfl, h, ?_, ?_⟩
  · unfold ixN
    rw [if_pos (by omega), nV_len, if_pos (by omega)]
    simp
  · rw [← e]
    exact q
theorem Den.getD {ts : List Tr} {is : List Nat} {R : List Tr} (h : Den ts is R) {a : Nat} (ha : a < R.length) : ∃ i, is[a]? = some i ∧ ts[i]? = some (R.getD a .lf) := by
  obtain ⟨i, e1, e2⟩ := Den.get h (List.getElem?_eq_getElem ha)
  refine ⟨i, e1, ?_⟩
  rw [List.getD_eq_getElem?_getD, List.getElem?_eq_getElem ha]
  exact e2
section
variable {P : Program} {w : World} {K : PySem.W.Frag} {mg : Str → Option Value} {base : Heap}
def sp_law_step : Sp := fun vs H Q _ => ∃ (W : Wd) (ts : List Tr) (l : Addr) (rs : List Row) (pc : Nat) (g : Addr) (is : List Nat) (R : List Tr) (row : Row),
  vs = [.ref W.w, .ref l, .int pc, .ref g] ∧ WAt H W ts ∧ LAt (g :: W.m) H ts l rs ∧ H g = some (.lst (nV is)) ∧ g ∉ W.m ∧ Den ts is R ∧ R.length = 20 ∧ rs[pc]? = some row ∧ (∀ a ∈ row.regs, a < 20) ∧ (∀ a n, row = .jump a n → 0 ≤ (pc : Int) + n) ∧ ts.length < 15000000 ∧
  ∀ (is' : List Nat) (ts' : List Tr) (H' : Hp), Keep (g :: W.m) H H' → WAt H' W ts' → ts <+: ts' → ts'.length ≤ ts.length + 1 → H' g = some (.lst (nV is')) → Den ts' is' (row.next pc R).2 → Q (.int ((row.next pc R).1 : Nat)) H'
theorem law_step_ok (T : Txt w K mg) : Cal P w K mg base 2 "_law_step" sp_law_step := by
  refine mkCal T.f_law_step T.g_law_step sc_law_step (fun _ _ _ _ _ _ us hl => match us, hl with | [_, _, _, _], _ => rfl) (fun vs H Q E h => ?_) (fun cdv A outer s H vs Q E hr h => ?_)
  · obtain ⟨W, ts, l, rs, pc, g, is, R, row, rfl, _⟩ := h
    rfl
  · obtain ⟨W, ts, l, rs, pc, g, is, R, row, rfl, hW, hL, hg, gm, dn, hR, hrow, hreg, hjmp, hl, k⟩ := h
    refine ⟨_,
      (pss_cons (ps_st 4 sc_law_step.nd (pe_il (pv 1) (pv 2)))
      (pss_cons (ps_st 5 sc_law_step.nd (pe_it (pv 4) pe_int))
      (pss_cons (ps_if (pt_cmpR op_eq (pv 5) pe_str (nomark _)) 
          (pss_cons (ps_if (pt_cmpR op_ne (pe_il (pv 3) (pe_it (pv 4) pe_int)) pe_int (nomark _)) 
              (pss_one (ps_ret (pe_op op_add (pv 2) (pe_it (pv 4) pe_int)))) pss_nil)
          (pss_one (ps_ret (pe_op op_add (pv 2) pe_int)))) pss_nil)
      (pss_cons (ps_if (pt_cmpR op_eq (pv 5) pe_str (nomark _)) 
          (pss_one (ps_asg (pe_it (pv 4) pe_int) (pg_sub (pv 3) (pe_it (pv 4) pe_int) set_list))) 
          (pss_one (ps_if (pt_cmpR op_eq (pv 5) pe_str (nomark _)) 
              (pss_one (ps_asg (pe_il (pv 3) (pe_it (pv 4) pe_int)) (pg_sub (pv 3) (pe_it (pv 4) pe_int) set_list))) 
              (pss_one (ps_if (pt_cmpR op_eq (pv 5) pe_str (nomark _)) 
                  (pss_one (ps_asg (pe_c (law_cons_ok T) hr (by decide) rfl (pa_cons (pv 0) (pa_cons (pe_il (pv 3) (pe_it (pv 4) pe_int)) (pa_cons (pe_il (pv 3) (pe_it (pv 4) pe_int)) pa_nil)))) (pg_sub (pv 3) (pe_it (pv 4) pe_int) set_list))) 
                  (pss_one (ps_if (pt_cmpR op_eq (pv 5) pe_str (nomark _)) 
                      (pss_one (ps_asg (pe_il (pe_dg hr (pv 0) pe_str) (pe_il (pv 3) (pe_it (pv 4) pe_int))) (pg_sub (pv 3) (pe_it (pv 4) pe_int) set_list))) 
                      (pss_one (ps_asg (pe_il (pe_dg hr (pv 0) pe_str) (pe_il (pv 3) (pe_it (pv 4) pe_int))) (pg_sub (pv 3) (pe_it (pv 4) pe_int) set_list))))))))))
      (pss_one (ps_ret (pe_op op_add (pv 2) pe_int))))))), ?_⟩
    obtain ⟨lvs, p, ws, el, _, ep, pm, hp, lv⟩ := hL.get hrow
    have his := Den.len dn
    have gw : g ≠ W.w := ne_of hg hW.dict (fun z => by cases z)
    have fin : ∀ (a j : Nat) (x : Tr) (ts' : List Tr) (H' : Hp), Keep W.m H H' → WAt H' W ts' → ts <+: ts' → ts'.length ≤ ts.length + 1 → ts'[j]? = some x → (row.next pc R).2 = R.set a x → Q (.int ((row.next pc R).1 : Nat)) (upd H' g (.lst (nV (is.set a j)))) := by
      intro a j x ts' H' kk w' pp ll ej en
      refine k (is.set a j) ts' _ ((kk.mono fun m hm => List.mem_cons_of_mem _ hm).trans (Keep.put (List.mem_cons_self ..))) (w'.keep (M := [g]) (Keep.put (by simp)) fun m hm => by rw [List.mem_singleton.mp hm]; exact ⟨gw, gm⟩) pp ll upd_same ?_
      rw [en]
      exact Den.set (Den.pre dn pp) ej a
    walk_at "go"
    refine r_ixL el rfl ep ?_
    walk_at "go"
    cases row with
    | set a t =>
      obtain ⟨i, e1, rfl⟩ := lv
      have ha := hreg a (by simp [Row.regs])
      walk_at "gd"
      refine r_setL hg (by omega) ?_
      walk_at "go"
      exact fin a i t ts H Keep.refl hW (List.prefix_refl _) (Nat.le_succ _) e1 rfl
    | move a b =>
      obtain rfl := (show ws = _ from lv)
      have ha := hreg a (by simp [Row.regs])
      have hb := hreg b (by simp [Row.regs])
      obtain ⟨ib, e1, e2⟩ := Den.getD dn (a := b) (by omega)
      walk_at "gd"
      refine r_ixL hg rfl (nV_get e1) ?_
      walk_at "go"
      refine r_setL hg (by omega) ?_
      walk_at "go"
      exact fin a ib _ ts H Keep.refl hW (List.prefix_refl _) (Nat.le_succ _) e2 rfl
    | cons a b c =>
      obtain rfl := (show ws = _ from lv)
      have ha := hreg a (by simp [Row.regs])
      have hb := hreg b (by simp [Row.regs])
      have hc := hreg c (by simp [Row.regs])
      obtain ⟨ib, e1, e2⟩ := Den.getD dn (a := b) (by omega)
      obtain ⟨ic, e3, e4⟩ := Den.getD dn (a := c) (by omega)
      walk_at "gd"
      refine r_ixL hg rfl (nV_get e1) ?_
      walk_at "go"
      refine r_ixL hg rfl (nV_get e3) ?_
      walk_at "go"
      refine ⟨W, ts, ib, ic, _, _, rfl, hW, e2, e4, by omega, fun j ts' H' k' w' p' l' e' => ?_⟩
      have hp' := k' _ _ hp (fun z => pm (List.mem_cons_of_mem _ z))
      have hg' := k' _ _ hg gm
      walk_at "go"
      refine r_setL hg' (by omega) ?_
      walk_at "go"
      exact fin a j _ ts' H' k' w' p' l' e' rfl
    | head a b =>
      obtain rfl := (show ws = _ from lv)
      have ha := hreg a (by simp [Row.regs])
      have hb := hreg b (by simp [Row.regs])
      obtain ⟨ib, e1, e2⟩ := Den.getD dn (a := b) (by omega)
      obtain ⟨hs, tls, kvs, f1, f2, f3, f4, ok⟩ := hW.ex
      obtain ⟨j, j2, o1, o2, o3, o4⟩ := ok.at_ _ _ e2
      walk_at "gd"
      refine dg_h hW.dict ?_
      walk_at "go"
      refine r_ixL hg rfl (nV_get e1) ?_
      walk_at "go"
      refine r_ixL f1 rfl (nV_get o1) ?_
      walk_at "go"
      refine r_setL hg (by omega) ?_
      walk_at "go"
      exact fin a j _ ts H Keep.refl hW (List.prefix_refl _) (Nat.le_succ _) o3 rfl
    | tail a b =>
      obtain rfl := (show ws = _ from lv)
      have ha := hreg a (by simp [Row.regs])
      have hb := hreg b (by simp [Row.regs])
      obtain ⟨ib, e1, e2⟩ := Den.getD dn (a := b) (by omega)
      obtain ⟨hs, tls, kvs, f1, f2, f3, f4, ok⟩ := hW.ex
      obtain ⟨j, j2, o1, o2, o3, o4⟩ := ok.at_ _ _ e2
      walk_at "gd"
      refine dg_t hW.dict ?_
      walk_at "go"
      refine r_ixL hg rfl (nV_get e1) ?_
      walk_at "go"
      refine r_ixL f2 rfl (nV_get o2) ?_
      walk_at "go"
      refine r_setL hg (by omega) ?_
      walk_at "go"
      exact fin a j2 _ ts H Keep.refl hW (List.prefix_refl _) (Nat.le_succ _) o4 rfl
    | jump a n =>
      obtain rfl := (show ws = _ from lv)
      have ha := hreg a (by simp [Row.regs])
      have hj := hjmp a n rfl
      obtain ⟨ia, e1, e2⟩ := Den.getD dn (a := a) (by omega)
      walk_at "gd"
      refine r_ixL hg rfl (nV_get e1) ?_
      walk_at "go"
      by_cases h0 : ia = 0
      · subst h0
        have elf : R.getD a .lf = .lf := Option.some.inj (e2.symm.trans hW.zero)
        have en : (Row.jump a n).next pc R = (pc + 1, R) := by
          show (if R.getD a .lf = .lf then (pc + 1, R) else _) = _
          rw [if_pos elf]
        rw [en] at k
        refine r_isF (by rw [dI_T (show ((0 : Nat) : Int) = 0 from rfl)]; rfl) ?_
        walk_at "go"
        exact k is ts H Keep.refl hW (List.prefix_refl _) (Nat.le_succ _) hg dn
      · have elf : ¬ R.getD a .lf = .lf := fun z => by
          rw [z] at e2
          exact h0 (nd_get hW.nodup e2 hW.zero)
        have en : (Row.jump a n).next pc R = (((pc : Int) + n).toNat, R) := by
          show (if R.getD a .lf = .lf then _ else _) = _
          rw [if_neg elf]
        rw [en] at k
        refine r_isT (by rw [dI_F (by omega)]; rfl) ?_
        walk_at "go"
        have := k is ts H Keep.refl hW (List.prefix_refl _) (Nat.le_succ _) hg dn
        rw [show ((((pc : Int) + n).toNat : Nat) : Int) = (pc : Int) + n by omega] at this
        exact this
end
end K38
set_option Elab.async false
set_option linter.all false
set_option maxRecDepth 100000
set_option maxHeartbeats 4000000
namespace K38
open PySem PySem.Spec PyProof.Rows L2 He SX
/-! ### the walk's own steps -/
local macro_rules | `(tactic| walk_at "hp") => `(tactic| first
  | assumption
  | with_reducible exact upd_same
  | (refine Eq.trans (upd_ne (by first | assumption | exact Ne.symm (by assumption))) ?_; walk_at "hp"))
local macro_rules | `(tactic| walk_at "st0") => `(tactic| with_reducible first
  | refine r_seq ?_ | refine r_asg ?_ | ((refine r_var (v := ?v) ?h ?_); (case h => with_unfolding_all exact rfl)) | refine r_c ?_ | refine r_op ?_ | refine r_cons ?_ | refine r_nil ?_ | refine r_gname ?_ | refine r_cb ?_ | refine r_call ?_
  | refine r_if ?_ | refine r_ret ?_ | refine r_test ?_ | refine r_bl ?_ | refine r_I0 ?_ | ((refine r_eq ?h ?_); (case h => with_unfolding_all exact rfl)) | ((refine r_ne ?h ?_); (case h => with_unfolding_all exact rfl))
  | refine r_T ?_ | refine r_F ?_ | refine r_nT ?_ | refine r_nF ?_ | refine r_not ?_ | refine r_and ?_ | refine r_or ?_ | refine r_B ?_ | refine r_next ?_ | refine r_drop ?_ | refine r_tup ?_ | refine r_bm ?_ | refine r_bm0 ?_
  | refine r_chain ?_ | refine r_andV ?_ | refine r_notV ?_ | refine r_isN ?_ | refine r_notN ?_ | refine r_dget ?_ | refine r_din ?_ | refine r_dnotin ?_ | refine r_un ?_ | refine r_rU ?_ | refine r_gsub ?_
  | ((refine r_aug (x := ?x) ?h ?_); (case h => with_unfolding_all exact rfl)) | refine r_ipI ?_ | refine r_for ?_ | refine r_lc ?_ | refine r_iList ?_ | refine r_iTup ?_ | refine r_iStr ?_ | refine r_iRng1 ?_ | refine r_iRng2 ?_ | refine r_iEnum ?_ | ((refine r_wipe ?h ?_); (case h => with_unfolding_all exact rfl)) | refine r_yes ?_ | refine r_rng ?_ | refine r_part ?_ | refine r_nopart ?_ | refine r_exi ?_ | refine r_int1 ?_ | refine r_abs ?_ | refine r_m1 ?_ | refine r_pairs ?_ | refine r_pairs0 ?_ | refine r_dput ?_ | refine r_trk ?_ | ((refine r_ixT0 (xs := ?xs) (v := ?v) ?h ?hv ?_); (case h => walk_at "hp"); (case hv => with_unfolding_all exact rfl)) | ((refine r_ixT1 (xs := ?xs) (v := ?v) ?h ?hv ?_); (case h => walk_at "hp"); (case hv => with_unfolding_all exact rfl)) | ((refine r_ixT2 (xs := ?xs) (v := ?v) ?h ?hv ?_); (case h => walk_at "hp"); (case hv => with_unfolding_all exact rfl)) | ((refine r_ixT3 (xs := ?xs) (v := ?v) ?h ?hv ?_); (case h => walk_at "hp"); (case hv => with_unfolding_all exact rfl)) | refine r_strv ?_)
local macro_rules | `(tactic| walk_at "st") => `(tactic| first | walk_at "st0" | with_reducible refine r_lst ?_)
local macro_rules | `(tactic| walk_at "g0") => `(tactic| repeat walk_at "st0")
local macro_rules | `(tactic| walk_at "go") => `(tactic| repeat walk_at "st")
local macro_rules | `(tactic| walk_at "dk") => `(tactic| first | refine r_isT (by decide +kernel) ?_ | refine r_isF (by decide +kernel) ?_)
local macro_rules | `(tactic| walk_at "gd") => `(tactic| repeat first | walk_at "st" | walk_at "dk")
/-! ### runs -/
abbrev MS : Type := Nat × List Tr
def stp (rs : List Row) (s : MS) : MS := match rs[s.1]? with
  | some r => r.next s.1 s.2
  | none => s
def ini (x : Tr) : MS := (0, x :: List.replicate 19 .lf)
def sts (rs : List Row) (x : Tr) : Nat → MS
  | 0 => ini x
  | n + 1 => stp rs (sts rs x n)
/-- the step from s makes too large a tree -/
def big (rs : List Row) (s : MS) : Prop := ∃ a b c, rs[s.1]? = some (.cons a b c) ∧ 200000 < ((stp rs s).2.getD a .lf).sz
structure VOk (rs : List Row) : Prop where
  len : rs.length ≤ 1000
  rows : ∀ (i : Nat) (r : Row), rs[i]? = some r → r.ok i rs.length
  sets : (rs.map Row.tsz).sum ≤ 400000
theorem stp_len (rs : List Row) (s : MS) : (stp rs s).2.length = s.2.length := by
  unfold stp
  split
  · exact next_len ..
  · rfl
theorem sts_len (rs : List Row) (x : Tr) : ∀ n, (sts rs x n).2.length = 20
  | 0 => rfl
  | n + 1 => by
    show (stp rs (sts rs x n)).2.length = 20
    rw [stp_len, sts_len rs x n]
theorem stp_pc {rs : List Row} (ok : VOk rs) (s : MS) (h : s.1 ≤ rs.length) : (stp rs s).1 ≤ rs.length := by
  unfold stp
  split
  · rename_i r hr
    have hlt := (List.getElem?_eq_some_iff.mp hr).1
    have hok := ok.rows _ _ hr
    cases r with
    | jump a n =>
      have := hok.2.2 a n rfl
      simp only [Row.next]
      split
      · exact hlt
      · show ((s.1 : Int) + n).toNat ≤ rs.length
        omega
    | _ => exact hlt
  · exact h
theorem sts_pc {rs : List Row} (ok : VOk rs) (x : Tr) : ∀ n, (sts rs x n).1 ≤ rs.length
  | 0 => Nat.zero_le _
  | n + 1 => stp_pc ok _ (sts_pc ok x n)
inductive Res where
  | non | large | done (t : Tr) (k : Nat)
/-- before the step k the run neither ended nor made a large tree -/
def Going (rs : List Row) (x : Tr) (k : Nat) : Prop := ∀ j, j < k → (sts rs x j).1 ≠ rs.length ∧ ¬ big rs (sts rs x j)
def RunIs (rs : List Row) (x : Tr) (steps : Nat) : Res → Prop
  | .non => Going rs x steps ∧ (sts rs x steps).1 ≠ rs.length
  | .large => ∃ j, j < steps ∧ Going rs x j ∧ (sts rs x j).1 ≠ rs.length ∧ big rs (sts rs x j)
  | .done t k => k ≤ steps ∧ Going rs x k ∧ (sts rs x k).1 = rs.length ∧ t = (sts rs x k).2.getD 0 .lf
def ResV (H : Hp) (ts : List Tr) (v : V) : Res → Prop
  | .non => v = .non
  | .large => v = .str "large"
  | .done t k => ∃ (q : Addr) (i : Nat), v = .ref q ∧ H q = some (.tup [.int i, .int k]) ∧ ts[i]? = some t
/-! ### the registers at the start -/
def regs0 (i : Nat) : List Nat := i :: List.replicate 19 0
theorem den_regs0 {W : Wd} {H : Hp} {ts : List Tr} {i : Nat} {t : Tr} (h : WAt H W ts) (e : ts[i]? = some t) : Den ts (regs0 i) (ini t).2 := by
  have : ∀ n, Den ts (List.replicate n 0) (List.replicate n .lf) := by
    intro n
    induction n with
    | zero => exact .nil
    | succ n ih => exact .cons h.zero ih
  exact .cons e (this 19)
theorem regs0_eq (i : Nat) : [V.int (i : Int)] ++ (List.replicate (19 : Int).toNat [V.int 0]).flatten = nV (regs0 i) := rfl
section
variable {P : Program} {w : World} {K : PySem.W.Frag} {mg : Str → Option Value} {base : Heap}
theorem r_rep {H : Hp} {Q : VK} {p : Addr} {xs : List V} {k : Int} (h : H p = some (.lst xs)) (h0 : 0 ≤ k) (h1 : k ≤ 1000) (hz : xs.length * k.toNat ≤ 1000000) (q : ∀ l, H l = none → Q (.ref l) (upd H l (.lst (List.replicate k.toNat xs).flatten))) : rRep (.ref p) (.int k) H Q :=
  ⟨p, k, xs, rfl, rfl, h, by omega, by omega, Nat.le_trans hz (by decide), q⟩
def sp_law_run : Sp := fun vs H Q _ => ∃ (W : Wd) (ts : List Tr) (a : Addr) (rs : List Row) (xi : Nat) (x : Tr) (n : Nat), vs = [.ref W.w, .ref a, .int xi, .int n] ∧ WAt H W ts ∧ PrAt W.m H a rs ∧ VOk rs ∧ ts[xi]? = some x ∧ n ≤ 1000 ∧ ts.length + 500000 ≤ 15000000 ∧
  ∀ (v : V) (res : Res) (ts' : List Tr) (H' : Hp), Grow W ts 401000 H H' ts' → RunIs rs x n res → ResV H' ts' v res → Q v H'
theorem law_run_ok (T : Txt w K mg) : Cal P w K mg base 4 "_law_run" sp_law_run := by
  refine mkCal T.f_law_run T.g_law_run sc_law_run (fun _ _ _ _ _ _ us hl => match us, hl with | [_, _, _, _], _ => rfl) (fun vs H Q E h => ?_) (fun cdv A outer s H vs Q E hr h => ?_)
  · obtain ⟨W, ts, a, rs, xi, x, n, rfl, _⟩ := h
    rfl
  · obtain ⟨W, ts, a, rs, xi, x, n, rfl, hW, pr, ok, hx, hn, hl, k⟩ := h
    refine ⟨_,
      (pss_cons (ps_st 4 sc_law_run.nd (pe_c (law_loaded_ok T) hr (by decide) rfl (pa_cons (pv 0) (pa_cons (pv 1) pa_nil))))
      (pss_cons (ps_st 5 sc_law_run.nd (pe_op op_cat (pe_lst (pa_cons (pv 2) pa_nil)) (pe_op op_rep (pe_lst (pa_cons pe_int pa_nil)) pe_int)))
      (pss_cons (ps_st 6 sc_law_run.nd pe_int)
      (pss_cons (ps_for PassesOwn.never rfl (pi_range1 (by rfl) T.n_range (pa_cons (pe_op op_add (pv 3) pe_int) pa_nil)) (pg_nm 7 sc_law_run.nd) 
          (pss_cons (ps_if (pt_cmpR op_eq (pv 6) (pe_callB c_lenQ (by rfl) T.n_len PySem.boot_len (pa_cons (pv 4) pa_nil)) (nomark _)) 
              (pss_one (ps_ret (pe_tup (pa_cons (pe_il (pv 5) pe_int) (pa_cons (pv 7) pa_nil))))) pss_nil)
          (pss_cons (ps_if (pt_cmpR op_eq (pv 7) (pv 3) (nomark _)) 
              (pss_one (ps_ret pe_non)) pss_nil)
          (pss_cons (ps_st 8 sc_law_run.nd (pv 6))
          (pss_cons (ps_st 6 sc_law_run.nd (pe_c (law_step_ok T) hr (by decide) rfl (pa_cons (pv 0) (pa_cons (pv 4) (pa_cons (pv 6) (pa_cons (pv 5) pa_nil))))))
          (pss_one (ps_if (PW.pt (pw_and (pt_cmpR op_eq (pe_it (pe_il (pv 4) (pv 8)) pe_int) pe_str (nomark _)) (pw_and1 (pt_cmpR op_gt (pe_il (pe_dg hr (pv 0) pe_str) (pe_il (pv 5) (pe_it (pe_il (pv 4) (pv 8)) pe_int))) pe_int (nomark _))))) 
              (pss_one (ps_ret pe_str)) pss_nil)))))))
      (pss_one (ps_ret pe_non)))))), ?_⟩
    have hlen := ok.len
    have hsets := ok.sets
    walk_at "go"
    refine ⟨W, ts, a, rs, rfl, hW, pr, by omega, by omega, by omega, fun l ts1 H1 hl1 g1 L1 => ?_⟩
    have hg1 := g1.len
    walk_at "go"
    refine ⟨by show 1 ≤ sizeLine; decide, fun p1 hp1 => ?_⟩
    have s1 : Same H1 (upd H1 p1 (.lst [.int (xi : Int)])) := same_new hp1
    have e1 : (upd H1 p1 (.lst [.int (xi : Int)])) p1 = some (.lst [.int (xi : Int)]) := upd_same
    generalize upd H1 p1 (.lst [.int (xi : Int)]) = H2 at s1 e1
    walk_at "go"
    refine ⟨by show 1 ≤ sizeLine; decide, fun p2 hp2 => ?_⟩
    have s2 : Same H2 (upd H2 p2 (.lst [.int 0])) := same_new hp2
    have e2 : (upd H2 p2 (.lst [.int 0])) p2 = some (.lst [.int 0]) := upd_same
    generalize upd H2 p2 (.lst [.int 0]) = H3 at s2 e2
    walk_at "go"
    refine r_rep e2 (by decide) (by decide) (by decide) fun p3 hp3 => ?_
    have s3 : Same H3 (upd H3 p3 (.lst (List.replicate (19 : Int).toNat [V.int 0]).flatten)) := same_new hp3
    have e3 : (upd H3 p3 (.lst (List.replicate (19 : Int).toNat [V.int 0]).flatten)) p3 = some (.lst (List.replicate (19 : Int).toNat [V.int 0]).flatten) := upd_same
    generalize upd H3 p3 (.lst (List.replicate (19 : Int).toNat [V.int 0]).flatten) = H4 at s3 e3
    walk_at "go"
    refine r_cat (s3 _ _ (s2 _ _ e1)) e3 (Nat.le_of_ble_eq_true rfl) fun g hg => ?_
    rw [regs0_eq]
    have t4 : Same H1 H4 := (s1.trans s2).trans s3
    have hgH : H g = none := g1.keep.free g1.at_.dom (Same.free t4 hg)
    have gm : g ∉ W.m := hW.dom.out hgH
    have gw : g ≠ W.w := fun z => by
      rw [z, hW.dict] at hgH
      cases hgH
    have L4 : LAt (g :: W.m) H4 ts1 l rs := (L1.keep (same_keep t4) (List.prefix_refl _)).fresh hg
    have s5 : Same H4 (upd H4 g (.lst (nV (regs0 xi)))) := same_new hg
    have e5 : (upd H4 g (.lst (nV (regs0 xi)))) g = some (.lst (nV (regs0 xi))) := upd_same
    have w5 := (g1.at_.same t4).same s5
    have L5 := L4.keep (same_keep s5) (List.prefix_refl ts1)
    have k5 := (g1.keep.trans (same_keep t4)).trans (same_keep s5)
    generalize upd H4 g (.lst (nV (regs0 xi))) = H5 at s5 e5 w5 L5 k5
    walk_at "go"
    refine ⟨_, rfl, by omega, by omega, for_it walk_range (fun i σ H' => i ≤ n ∧ ∃ (is : List Nat) (ts' : List Tr) (y z : Option V), σ = [some (.ref W.w), some (.ref a), some (.int (xi : Int)), some (.int (n : Int)), some (.ref l), some (.ref g), some (.int ((sts rs x i).1 : Nat)), y, z] ∧ Keep W.m H H' ∧ WAt H' W ts' ∧ ts1 <+: ts' ∧ ts'.length ≤ ts1.length + i ∧ LAt (g :: W.m) H' ts' l rs ∧ H' g = some (.lst (nV is)) ∧ Den ts' is (sts rs x i).2 ∧ Going rs x i)
      ⟨Nat.zero_le _, regs0 xi, ts1, none, none, rfl, k5, w5, List.prefix_refl _, Nat.le_refl _, L5, e5, den_regs0 w5 (g1.get hx), fun j hj => absurd hj (Nat.not_lt_zero _)⟩ (fun _ _ _ _ _ => trivial) ?_ ?_⟩
    · rintro i v σ H6 H' hi ⟨hin, is, ts', y, z, rfl, q1, q2, q3, q4, q5, q6, q7, q8⟩ ⟨rfl, rfl⟩
      obtain ⟨vs, el, evl⟩ := q5.len
      have hpc := sts_pc ok x i
      have hR := sts_len rs x i
      generalize hs : sts rs x i = s at hpc hR q7
      have gr : ∀ {ts2 : List Tr} {H2 : Hp}, Keep W.m H H2 → WAt H2 W ts2 → ts1 <+: ts2 → ts2.length ≤ ts1.length + n → Grow W ts 401000 H H2 ts2 := fun a b c d => ⟨a, b, List.IsPrefix.trans g1.pre c, by omega⟩
      walk_at "go"
      refine r_lenL el ?_
      walk_at "go"
      rw [evl]
      by_cases hend : s.1 = rs.length
      · refine r_isT (dI_T (by omega)) ?_
        have dd := Den.getD q7 (a := 0) (by omega)
        obtain ⟨i0, d1, d2⟩ := dd
        walk_at "go"
        refine r_ixL0 q6 (nV_get d1) ?_
        walk_at "go"
        refine ⟨by show 2 ≤ sizeLine; decide, fun q hq => ?_⟩
        refine k (.ref q) (.done (s.2.getD 0 .lf) i) ts' _ (gr (q1.trans (Keep.new hq)) (q2.same (same_new hq)) q3 (by omega)) ⟨hin, q8, by rw [hs]; exact hend, by rw [hs]⟩ ⟨q, i0, rfl, ?_, d2⟩
        rw [upd_same]
        show some (HO.tup [V.int (i0 : Int), V.int (0 + (i : Int))]) = _
        rw [Int.zero_add]
      · refine r_isF (dI_F (by omega)) ?_
        walk_at "go"
        by_cases hk : i = n
        · refine r_isT (dI_T (by omega)) ?_
          walk_at "go"
          refine k .non .non ts' _ (gr q1 q2 q3 (by omega)) ⟨by rw [← hk]; exact q8, by rw [← hk, hs]; exact hend⟩ rfl
        · refine r_isF (dI_F (by omega)) ?_
          walk_at "go"
          have hlt : s.1 < rs.length := by omega
          have hrow : rs[s.1]? = some rs[s.1] := List.getElem?_eq_getElem hlt
          generalize rs[s.1] = row at hrow
          have hok := ok.rows _ _ hrow
          have hnx : stp rs s = row.next s.1 s.2 := by unfold stp; rw [hrow]
          have hsn : sts rs x (i + 1) = row.next s.1 s.2 := by
            show stp rs (sts rs x i) = _
            rw [hs, hnx]
          refine ⟨W, ts', l, rs, s.1, g, is, s.2, row, rfl, q2, q5, q6, gm, q7, hR, hrow, hok.1, fun b m e => (hok.2.2 b m e).1, by omega, fun is' ts2 H2 k2 w2 p2 l2 e2 d2 => ?_⟩
          have L2' := q5.keep k2 p2
          obtain ⟨vs2, p, ws, el2, _, ep2, pm2, hp2, lv2⟩ := L2'.get hrow
          have kk : Keep W.m H H2 := fun b o e n => k2 _ _ (q1 _ _ e n) fun z => by
            rcases List.mem_cons.mp z with z | z
            · rw [z, hgH] at e
              cases e
            · exact n z
          have nxt : ¬ big rs s → ({ nx := fun _ H' => i + 1 ≤ n ∧ ∃ (is : List Nat) (ts' : List Tr) (y z : Option V), [some (.ref W.w), some (.ref a), some (.int (xi : Int)), some (.int (n : Int)), some (.ref l), some (.ref g), some (.int ((row.next s.1 s.2).1 : Nat)), some (.int (0 + (i : Int))), some (.int (s.1 : Int))] = [some (V.ref W.w), some (.ref a), some (.int (xi : Int)), some (.int (n : Int)), some (.ref l), some (.ref g), some (.int ((sts rs x (i + 1)).1 : Nat)), y, z] ∧ Keep W.m H H' ∧ WAt H' W ts' ∧ ts1 <+: ts' ∧ ts'.length ≤ ts1.length + (i + 1) ∧ LAt (g :: W.m) H' ts' l rs ∧ H' g = some (.lst (nV is)) ∧ Den ts' is (sts rs x (i + 1)).2 ∧ Going rs x (i + 1), rt := Q } : Ends).nx [] H2 := fun nb =>
            ⟨by omega, is', ts2, _, _, by rw [hsn], kk, w2, List.IsPrefix.trans q3 p2, by omega, L2', e2, by rw [hsn]; exact d2, fun j hj => by
              by_cases hji : j = i
              · subst hji
                rw [hs]
                exact ⟨hend, nb⟩
              · exact q8 j (by omega)⟩
          walk_at "go"
          refine r_ixL el2 rfl ep2 ?_
          cases row with
          | cons b c d =>
            obtain rfl := (show ws = _ from lv2)
            have hb := hok.1 b (by simp [Row.regs])
            have hR2 : ((Row.cons b c d).next s.1 s.2).2.length = 20 := by rw [next_len, hR]
            obtain ⟨ib, o1, o2⟩ := Den.getD d2 (a := b) (by omega)
            obtain ⟨hs', tls, kvs, f1, f2, f3, f4, okk⟩ := w2.ex
            walk_at "gd"
            refine dg_s w2.dict ?_
            walk_at "go"
            refine r_ixL el2 rfl ep2 ?_
            walk_at "go"
            refine r_ixL e2 rfl (nV_get o1) ?_
            walk_at "go"
            refine r_ixL f3 rfl (sz_get o2) ?_
            walk_at "go"
            by_cases hbig : 200000 < (((Row.cons b c d).next s.1 s.2).2.getD b .lf).sz
            · refine r_isT (decide_eq_true (by omega)) ?_
              walk_at "go"
              refine k (.str "large") .large ts2 H2 (gr kk w2 (List.IsPrefix.trans q3 p2) (by omega)) ⟨i, by omega, q8, by rw [hs]; exact hend, ?_⟩ rfl
              rw [hs]
              exact ⟨b, c, d, hrow, by rw [hnx]; exact hbig⟩
            · refine r_isF (decide_eq_false (by omega)) ?_
              walk_at "go"
              refine nxt fun ⟨b', c', d', o3, o4⟩ => ?_
              rw [hrow] at o3
              injection o3 with o3
              injection o3 with o3
              subst o3
              rw [hnx] at o4
              exact hbig o4
          | set b t =>
            obtain ⟨j, _, rfl⟩ := lv2
            walk_at "gd"
            exact nxt fun ⟨b', c', d', o3, o4⟩ => by rw [hrow] at o3; cases o3
          | move b c =>
            obtain rfl := (show ws = _ from lv2)
            walk_at "gd"
            exact nxt fun ⟨b', c', d', o3, o4⟩ => by rw [hrow] at o3; cases o3
          | head b c =>
            obtain rfl := (show ws = _ from lv2)
            walk_at "gd"
            exact nxt fun ⟨b', c', d', o3, o4⟩ => by rw [hrow] at o3; cases o3
          | tail b c =>
            obtain rfl := (show ws = _ from lv2)
            walk_at "gd"
            exact nxt fun ⟨b', c', d', o3, o4⟩ => by rw [hrow] at o3; cases o3
          | jump b m =>
            obtain rfl := (show ws = _ from lv2)
            walk_at "gd"
            exact nxt fun ⟨b', c', d', o3, o4⟩ => by rw [hrow] at o3; cases o3
    · rintro σ H' ⟨hin, _⟩
      have e : ((n : Int) + 1).toNat = n + 1 := by omega
      rw [e] at hin
      omega
end
end K38
set_option Elab.async false
set_option linter.all false
set_option maxRecDepth 100000
set_option maxHeartbeats 4000000
namespace K38
open PySem PySem.Spec PyProof.Rows L2 He SX
/-! ### the walk's own steps -/
local macro_rules | `(tactic| walk_at "hp") => `(tactic| first
  | assumption
  | with_reducible exact upd_same
  | (refine Eq.trans (upd_ne (by first | assumption | exact Ne.symm (by assumption))) ?_; walk_at "hp"))
local macro_rules | `(tactic| walk_at "st0") => `(tactic| with_reducible first
  | refine r_seq ?_ | refine r_asg ?_ | ((refine r_var (v := ?v) ?h ?_); (case h => with_unfolding_all exact rfl)) | refine r_c ?_ | refine r_op ?_ | refine r_cons ?_ | refine r_nil ?_ | refine r_gname ?_ | refine r_cb ?_ | refine r_call ?_
  | refine r_if ?_ | refine r_ret ?_ | refine r_test ?_ | refine r_bl ?_ | refine r_I0 ?_ | ((refine r_eq ?h ?_); (case h => with_unfolding_all exact rfl)) | ((refine r_ne ?h ?_); (case h => with_unfolding_all exact rfl))
  | refine r_T ?_ | refine r_F ?_ | refine r_nT ?_ | refine r_nF ?_ | refine r_not ?_ | refine r_and ?_ | refine r_or ?_ | refine r_B ?_ | refine r_next ?_ | refine r_drop ?_ | refine r_tup ?_ | refine r_bm ?_ | refine r_bm0 ?_
  | refine r_chain ?_ | refine r_andV ?_ | refine r_notV ?_ | refine r_isN ?_ | refine r_notN ?_ | refine r_dget ?_ | refine r_din ?_ | refine r_dnotin ?_ | refine r_un ?_ | refine r_rU ?_ | refine r_gsub ?_
  | ((refine r_aug (x := ?x) ?h ?_); (case h => with_unfolding_all exact rfl)) | refine r_ipI ?_ | refine r_for ?_ | refine r_lc ?_ | refine r_iList ?_ | refine r_iTup ?_ | refine r_iStr ?_ | refine r_iRng1 ?_ | refine r_iRng2 ?_ | refine r_iEnum ?_ | ((refine r_wipe ?h ?_); (case h => with_unfolding_all exact rfl)) | refine r_yes ?_ | refine r_rng ?_ | refine r_part ?_ | refine r_nopart ?_ | refine r_exi ?_ | refine r_int1 ?_ | refine r_abs ?_ | refine r_m1 ?_ | refine r_pairs ?_ | refine r_pairs0 ?_ | refine r_dput ?_ | refine r_trk ?_ | ((refine r_ixT0 (xs := ?xs) (v := ?v) ?h ?hv ?_); (case h => walk_at "hp"); (case hv => with_unfolding_all exact rfl)) | ((refine r_ixT1 (xs := ?xs) (v := ?v) ?h ?hv ?_); (case h => walk_at "hp"); (case hv => with_unfolding_all exact rfl)) | ((refine r_ixT2 (xs := ?xs) (v := ?v) ?h ?hv ?_); (case h => walk_at "hp"); (case hv => with_unfolding_all exact rfl)) | ((refine r_ixT3 (xs := ?xs) (v := ?v) ?h ?hv ?_); (case h => walk_at "hp"); (case hv => with_unfolding_all exact rfl)) | refine r_strv ?_)
local macro_rules | `(tactic| walk_at "st") => `(tactic| first | walk_at "st0" | with_reducible refine r_lst ?_)
local macro_rules | `(tactic| walk_at "g0") => `(tactic| repeat walk_at "st0")
local macro_rules | `(tactic| walk_at "go") => `(tactic| repeat walk_at "st")
local macro_rules | `(tactic| walk_at "dk") => `(tactic| first | refine r_isT (by decide +kernel) ?_ | refine r_isF (by decide +kernel) ?_)
local macro_rules | `(tactic| walk_at "gd") => `(tactic| repeat first | walk_at "st" | walk_at "dk")
def Stuck (rs : List Row) (x : Tr) : Prop := ∃ j i, j < i ∧ i ≤ 300 ∧ sts rs x i = sts rs x j ∧ (∀ k, k < i → (sts rs x k).1 ≠ rs.length) ∧ ∀ k, 0 < k → k ≤ i → ∀ t ∈ (sts rs x k).2, t.sz ≤ 100000
theorem NkAt.keep {W : Wd} {ts : List Tr} {H H' : Hp} {g b : Addr} {p : NK} {is : List V} (h : NkAt H b p) (k : Keep (g :: W.m) H H') (hW : WAt H W ts) (hg : H g = some (.lst is)) : NkAt H' b p := by
  obtain ⟨c, e1, e2⟩ := h
  have key : ∀ {q : Addr} {us : List V}, H q = some (.tup us) → q ∉ g :: W.m := fun hq hm => by
    rcases List.mem_cons.mp hm with z | z
    · rw [z, hg] at hq
      cases hq
    · exact hW.out hq (fun _ z => by cases z) (fun _ z => by cases z) z
  exact ⟨c, k _ _ e1 (key e1), k _ _ e2 (key e2)⟩
theorem NkAt.same {H H' : Hp} {b : Addr} {p : NK} (h : NkAt H b p) (s : Same H H') : NkAt H' b p := let ⟨c, e1, e2⟩ := h; ⟨c, s _ _ e1, s _ _ e2⟩
theorem den_inj {ts : List Tr} : ∀ {is : List Nat} {R R' : List Tr}, Den ts is R → Den ts is R' → R = R'
  | _, _, _, .nil, .nil => rfl
  | _, _, _, .cons a b, .cons c d => by
    rw [den_inj b d]
    have := a.symm.trans c
    rw [Option.some.inj this]
abbrev intz (is : List Nat) : List Int := is.map fun i : Nat => (i : Int)
theorem intz_inj : ∀ {a b : List Nat}, intz a = intz b → a = b
  | [], [], _ => rfl
  | [], _ :: _, h => by cases h
  | _ :: _, [], h => by cases h
  | x :: a, y :: b, h => by
    injection h with h1 h2
    rw [intz_inj h2, Int.ofNat.inj h1]
theorem intz_V (is : List Nat) : (intz is).map V.int = nV is := by simp [intz, nV]
section
variable {P : Program} {w : World} {K : PySem.W.Frag} {mg : Str → Option Value} {base : Heap}
def sp_law_is_stuck : Sp := fun vs H Q _ => ∃ (W : Wd) (ts : List Tr) (a : Addr) (rs : List Row) (xi : Nat) (x : Tr), vs = [.ref W.w, .ref a, .int xi] ∧ WAt H W ts ∧ PrAt W.m H a rs ∧ VOk rs ∧ ts[xi]? = some x ∧ ts.length + 500000 ≤ 15000000 ∧
  ∀ (b : Bool) (ts' : List Tr) (H' : Hp), Grow W ts 401000 H H' ts' → (b = true → Stuck rs x) → Q (.bl b) H'
theorem law_is_stuck_ok (T : Txt w K mg) : Cal P w K mg base 4 "_law_is_stuck" sp_law_is_stuck := by
  refine mkCal T.f_law_is_stuck T.g_law_is_stuck sc_law_is_stuck (fun _ _ _ _ _ _ us hl => match us, hl with | [_, _, _], _ => rfl) (fun vs H Q E h => ?_) (fun cdv A outer s H vs Q E hr h => ?_)
  · obtain ⟨W, ts, a, rs, xi, x, rfl, _⟩ := h
    rfl
  · obtain ⟨W, ts, a, rs, xi, x, rfl, hW, pr, ok, hx, hl, k⟩ := h
    refine ⟨_,
      (pss_cons (ps_st 3 sc_law_is_stuck.nd (pe_c (law_loaded_ok T) hr (by decide) rfl (pa_cons (pv 0) (pa_cons (pv 1) pa_nil))))
      (pss_cons (ps_st 4 sc_law_is_stuck.nd (pe_op op_cat (pe_lst (pa_cons (pv 2) pa_nil)) (pe_op op_rep (pe_lst (pa_cons pe_int pa_nil)) pe_int)))
      (pss_cons (ps_st 5 sc_law_is_stuck.nd pe_int)
      (pss_cons (ps_st 6 sc_law_is_stuck.nd pe_dnewN)
      (pss_cons (ps_for PassesOwn.never rfl (pi_range1 (by rfl) T.n_range (pa_cons pe_int pa_nil)) (pg_nm 7 sc_law_is_stuck.nd) 
          (pss_cons (ps_if (pt_cmpR op_eq (pv 5) (pe_callB c_lenQ (by rfl) T.n_len PySem.boot_len (pa_cons (pv 3) pa_nil)) (nomark _)) 
              (pss_one (ps_ret pe_bl)) pss_nil)
          (pss_cons (ps_st 8 sc_law_is_stuck.nd (pe_tup (pa_cons (pv 5) (pa_cons (pe_callTy c_tupOf (by rfl) T.n_tuple (by decide +kernel) (pa_cons (pv 4) pa_nil)) pa_nil))))
          (pss_cons (ps_if (pt_cmpR (op_in_nk hr.units) (pv 8) (pv 6) (by rfl)) 
              (pss_one (ps_ret pe_bl)) pss_nil)
          (pss_cons (ps_asg pe_bl (pg_sub (pv 6) (pv 8) (set_nk hr.units)))
          (pss_cons (ps_st 5 sc_law_is_stuck.nd (pe_c (law_step_ok T) hr (by decide) rfl (pa_cons (pv 0) (pa_cons (pv 3) (pa_cons (pv 5) (pa_cons (pv 4) pa_nil))))))
          (pss_one (ps_if (pt_cmpR op_gt (pe_callB (cr_max rfl) (by rfl) T.n_max (by decide +kernel) (pa_cons (pe_lc (own := [(("_law_one" : Str), 9)]) (by rfl) sc_law_is_stuck.nd (pi_list (pv 4)) (blkOk_by (own := [(("_law_one" : Str), 9)]) (N := names_law_is_stuck) (sc := defScope s_law_is_stuck) (by decide +kernel)) (fun _ _ _ _ _ => (pg_nm 9 sc_law_is_stuck.nd)) (fun _ _ _ _ _ => pts_nil) (fun _ _ _ _ _ => (pe_ilk K (pe_dg hr (pv 0) pe_str) (pv 9)))) pa_nil)) pe_int (nomark _)) 
              (pss_one (ps_ret pe_bl)) pss_nil))))))))
      (pss_one (ps_ret pe_bl))))))), ?_⟩
    have hlen := ok.len
    have hsets := ok.sets
    walk_at "go"
    refine ⟨W, ts, a, rs, rfl, hW, pr, by omega, by omega, by omega, fun l ts1 H1 hl1 g1 L1 => ?_⟩
    have hg1 := g1.len
    walk_at "go"
    refine ⟨by show 1 ≤ sizeLine; decide, fun p1 hp1 => ?_⟩
    have s1 : Same H1 (upd H1 p1 (.lst [.int (xi : Int)])) := same_new hp1
    have e1 : (upd H1 p1 (.lst [.int (xi : Int)])) p1 = some (.lst [.int (xi : Int)]) := upd_same
    generalize upd H1 p1 (.lst [.int (xi : Int)]) = H2 at s1 e1
    walk_at "go"
    refine ⟨by show 1 ≤ sizeLine; decide, fun p2 hp2 => ?_⟩
    have s2 : Same H2 (upd H2 p2 (.lst [.int 0])) := same_new hp2
    have e2 : (upd H2 p2 (.lst [.int 0])) p2 = some (.lst [.int 0]) := upd_same
    generalize upd H2 p2 (.lst [.int 0]) = H3 at s2 e2
    walk_at "go"
    refine r_rep e2 (by decide) (by decide) (by decide) fun p3 hp3 => ?_
    have s3 : Same H3 (upd H3 p3 (.lst (List.replicate (19 : Int).toNat [V.int 0]).flatten)) := same_new hp3
    have e3 : (upd H3 p3 (.lst (List.replicate (19 : Int).toNat [V.int 0]).flatten)) p3 = some (.lst (List.replicate (19 : Int).toNat [V.int 0]).flatten) := upd_same
    generalize upd H3 p3 (.lst (List.replicate (19 : Int).toNat [V.int 0]).flatten) = H4 at s3 e3
    walk_at "go"
    refine r_cat (s3 _ _ (s2 _ _ e1)) e3 (Nat.le_of_ble_eq_true rfl) fun g hg => ?_
    rw [regs0_eq]
    have t4 : Same H1 H4 := (s1.trans s2).trans s3
    have hgH : H g = none := g1.keep.free g1.at_.dom (Same.free t4 hg)
    have gm : g ∉ W.m := hW.dom.out hgH
    have gw : g ≠ W.w := fun z => by
      rw [z, hW.dict] at hgH
      cases hgH
    have L4 : LAt (g :: W.m) H4 ts1 l rs := (L1.keep (same_keep t4) (List.prefix_refl _)).fresh hg
    have s5 : Same H4 (upd H4 g (.lst (nV (regs0 xi)))) := same_new hg
    have e5 : (upd H4 g (.lst (nV (regs0 xi)))) g = some (.lst (nV (regs0 xi))) := upd_same
    have w5 := (g1.at_.same t4).same s5
    have L5 := L4.keep (same_keep s5) (List.prefix_refl ts1)
    have k5 := (g1.keep.trans (same_keep t4)).trans (same_keep s5)
    generalize upd H4 g (.lst (nV (regs0 xi))) = H5 at s5 e5 w5 L5 k5
    walk_at "go"
    intro d hd5
    have s6 : Same H5 (upd H5 d (SeenO P w d [])) := same_new hd5
    have e6 : (upd H5 d (SeenO P w d [])) d = some (SeenO P w d []) := upd_same
    have hdH : H d = none := k5.free w5.dom hd5
    have dm : d ∉ W.m := hW.dom.out hdH
    have dw : d ≠ W.w := fun z => by
      rw [z, hW.dict] at hdH
      cases hdH
    have dg : g ≠ d := ne_of_none e5 hd5
    have w6 := w5.same s6
    have L6 := (L5.fresh hd5).keep (same_keep s6) (List.prefix_refl ts1)
    have k6 := k5.trans (same_keep s6)
    have g6 := s6 _ _ e5
    show tSeq _ _ _ _ (upd H5 d (SeenO P w d []))
    generalize upd H5 d (SeenO P w d []) = H6 at s6 e6 w6 L6 k6 g6 ⊢
    walk_at "go"
    refine ⟨_, rfl, by decide, by decide, for_it walk_range (fun i σ H' => ∃ (is : List Nat) (ts' : List Tr) (xs : List (NK × Addr)) (y z : Option V), σ = [some (.ref W.w), some (.ref a), some (.int (xi : Int)), some (.ref l), some (.ref g), some (.int ((sts rs x i).1 : Nat)), some (.ref d), y, z, none] ∧ Keep W.m H H' ∧ WAt H' W ts' ∧ ts1 <+: ts' ∧ ts'.length ≤ ts1.length + i ∧ LAt (d :: g :: W.m) H' ts' l rs ∧ H' g = some (.lst (nV is)) ∧ Den ts' is (sts rs x i).2 ∧
        SeenAt P w H' d xs ∧ xs.length = i ∧ (∀ j, j < i → (sts rs x j).1 ≠ rs.length ∧ ∃ js b, xs[j]? = some (((((sts rs x j).1 : Nat) : Int), intz js), b) ∧ Den ts' js (sts rs x j).2) ∧ (∀ j, 0 < j → j ≤ i → ∀ t ∈ (sts rs x j).2, t.sz ≤ 100000))
      ⟨regs0 xi, ts1, [], none, none, rfl, k6, w6, List.prefix_refl _, Nat.le_refl _, L6, g6, den_regs0 w6 (g1.get hx), ⟨e6, fun _ h => by cases h⟩, rfl, fun j hj => absurd hj (Nat.not_lt_zero _), fun j h1 h2 => by omega⟩ (fun _ _ _ _ _ => trivial) ?_ ?_⟩
    · rintro i v σ H7 H' hi ⟨is, ts', xs, y, z, rfl, q1, q2, q3, q4, q5, q6, q7, q8, q9, q10, q11⟩ ⟨rfl, rfl⟩
      have hi3 : i < 300 := hi
      obtain ⟨vs, el, evl⟩ := q5.len
      have hpc := sts_pc ok x i
      have hR := sts_len rs x i
      generalize hs : sts rs x i = s at hpc hR q7
      have gr : ∀ {ts2 : List Tr} {H2 : Hp}, Keep W.m H H2 → WAt H2 W ts2 → ts1 <+: ts2 → ts2.length ≤ ts1.length + 300 → Grow W ts 401000 H H2 ts2 := fun a b c d => ⟨a, b, List.IsPrefix.trans g1.pre c, by omega⟩
      walk_at "go"
      refine r_lenL el ?_
      walk_at "go"
      rw [evl]
      by_cases hend : s.1 = rs.length
      · refine r_isT (dI_T (by omega)) ?_
        walk_at "go"
        exact k false ts' _ (gr q1 q2 q3 (by omega)) (fun h => by cases h)
      refine r_isF (dI_F (by omega)) ?_
      walk_at "go"
      refine r_tupOf q6 fun c hc => ?_
      have s8 : Same H' (upd H' c (.tup (nV is))) := same_new hc
      have e8 : (upd H' c (.tup (nV is))) c = some (.tup ((intz is).map V.int)) := by rw [upd_same, intz_V]
      generalize upd H' c (.tup (nV is)) = H8 at s8 e8
      walk_at "go"
      refine ⟨by show 2 ≤ sizeLine; decide, fun kp hkp => ?_⟩
      have s9 : Same H8 (upd H8 kp (.tup [.int (s.1 : Int), .ref c])) := same_new hkp
      have e9 : NkAt (upd H8 kp (.tup [.int (s.1 : Int), .ref c])) kp ((s.1 : Int), intz is) := ⟨c, upd_same, s9 _ _ e8⟩
      generalize upd H8 kp (.tup [.int (s.1 : Int), .ref c]) = H9 at s9 e9
      have t9 := s8.trans s9
      have seen9 : SeenAt P w H9 d xs := ⟨t9 _ _ q8.1, fun x hx => (q8.2 x hx).same t9⟩
      walk_at "go"
      refine ⟨kp, d, ((s.1 : Int), intz is), xs, rfl, rfl, e9, seen9, ?_⟩
      walk_at "go"
      have k9 := q1.trans (same_keep t9)
      have w9 := q2.same t9
      by_cases hin : ((s.1 : Int), intz is) ∈ xs.map (·.1)
      · refine r_isT (decide_eq_true hin) ?_
        walk_at "go"
        refine k true ts' _ (gr k9 w9 q3 (by omega)) (fun _ => ?_)
        obtain ⟨⟨p, b⟩, hm, hpe⟩ := List.mem_map.mp hin
        obtain ⟨j, hj⟩ := List.mem_iff_getElem?.mp hm
        have hji : j < i := by
          have := (List.getElem?_eq_some_iff.mp hj).1
          omega
        obtain ⟨n1, js, b', f1, f2⟩ := q10 j hji
        rw [hj] at f1
        have f1 := Option.some.inj f1
        injection f1 with f1 _
        have hpe : p = ((s.1 : Int), intz is) := hpe
        rw [hpe] at f1
        injection f1 with f3 f4
        have f5 := intz_inj f4
        subst f5
        have f6 : s.1 = (sts rs x j).1 := by omega
        have f7 : s.2 = (sts rs x j).2 := den_inj q7 f2
        refine ⟨j, i, hji, by omega, by rw [hs]; exact Prod.ext f6 f7, fun k hk => (q10 k hk).1, q11⟩
      refine r_isF (decide_eq_false hin) ?_
      walk_at "go"
      refine ⟨d, kp, ((s.1 : Int), intz is), xs, rfl, rfl, rfl, e9, seen9, hin, by omega, ?_⟩
      have hne : ∀ {q : Addr} {us : List V}, H9 q = some (.tup us) → q ≠ d := fun hq z => by
        rw [z, seen9.1] at hq
        cases hq
      have k10 : Keep [d] H9 (upd H9 d (SeenO P w d (xs ++ [(((s.1 : Int), intz is), kp)]))) := Keep.put (by simp)
      have nk10 : ∀ {b : Addr} {p : NK}, NkAt H9 b p → NkAt (upd H9 d (SeenO P w d (xs ++ [(((s.1 : Int), intz is), kp)]))) b p := fun ⟨c, e1, e2⟩ => ⟨c, k10 _ _ e1 (by simpa using hne e1), k10 _ _ e2 (by simpa using hne e2)⟩
      have seen10 : SeenAt P w (upd H9 d (SeenO P w d (xs ++ [(((s.1 : Int), intz is), kp)]))) d (xs ++ [(((s.1 : Int), intz is), kp)]) := ⟨upd_same, fun x hx => by
        rcases List.mem_append.mp hx with hx | hx
        · exact nk10 (seen9.2 x hx)
        · rw [List.mem_singleton.mp hx]
          exact nk10 e9⟩
      have g10 := k10 _ _ (t9 _ _ q6) (by simpa using dg)
      have w10 := w9.keep k10 (fun m hm => by rw [List.mem_singleton.mp hm]; exact ⟨dw, dm⟩)
      have L10 : LAt (d :: g :: W.m) (upd H9 d (SeenO P w d (xs ++ [(((s.1 : Int), intz is), kp)]))) ts' l rs := (q5.keep (same_keep t9) (List.prefix_refl _)).keep (Keep.put (by simp)) (List.prefix_refl _)
      have kk10 : Keep W.m H (upd H9 d (SeenO P w d (xs ++ [(((s.1 : Int), intz is), kp)]))) := fun b o e n => by
        rw [upd_ne (fun z => by rw [z, hdH] at e; cases e)]
        exact k9 b o e n
      show tSeq _ _ _ _ (upd H9 d (SeenO P w d (xs ++ [(((s.1 : Int), intz is), kp)])))
      generalize upd H9 d (SeenO P w d (xs ++ [(((s.1 : Int), intz is), kp)])) = H10 at seen10 g10 w10 L10 kk10 ⊢
      clear nk10 k10 hne
      have hlt : s.1 < rs.length := by omega
      have hrow : rs[s.1]? = some rs[s.1] := List.getElem?_eq_getElem hlt
      generalize rs[s.1] = row at hrow
      have hok := ok.rows _ _ hrow
      have hsn : sts rs x (i + 1) = row.next s.1 s.2 := by
        show stp rs (sts rs x i) = _
        rw [hs]
        unfold stp
        rw [hrow]
      walk_at "go"
      refine ⟨W, ts', l, rs, s.1, g, is, s.2, row, rfl, w10, L10.mono (fun m hm => List.mem_cons_of_mem _ hm), g10, gm, q7, hR, hrow, hok.1, fun b m e => (hok.2.2 b m e).1, by omega, fun is' ts2 H11 k11 w11 p11 l11 g11 d11 => ?_⟩
      have dgm : d ∉ g :: W.m := fun z => by
        rcases List.mem_cons.mp z with z | z
        · exact dg z.symm
        · exact dm z
      have seen11 : SeenAt P w H11 d (xs ++ [(((s.1 : Int), intz is), kp)]) := ⟨k11 _ _ seen10.1 dgm, fun x hx => (seen10.2 x hx).keep k11 w10 g10⟩
      have L11 : LAt (d :: g :: W.m) H11 ts2 l rs := L10.keep (k11.mono fun m hm => List.mem_cons_of_mem _ hm) p11
      have kk11 : Keep W.m H H11 := fun b o e n => k11 _ _ (kk10 _ _ e n) fun z => by
        rcases List.mem_cons.mp z with z | z
        · rw [z, hgH] at e
          cases e
        · exact n z
      have hR2 : (row.next s.1 s.2).2.length = 20 := by rw [next_len, hR]
      have his := Den.len d11
      obtain ⟨hs', tls, kvs, f1, f2, f3, f4, okk⟩ := w11.ex
      walk_at "go"
      refine ⟨g, rfl, ⟨_, SqL.of g11⟩, fun D hD => ?_⟩
      refine lc_it (walk_list (xs := nV is')) (fun j H' => Same H11 H' ∧ H' D = some (.lst (nV (((row.next s.1 s.2).2.take j).map Tr.sz)))) ⟨same_new hD, upd_same⟩ (fun j H' _ h => SqL.of (h.1 _ _ g11)) ?_ ?_
      · rintro j v H12 H' hj ⟨hs2, hd2⟩ ⟨rfl, hv⟩
        rw [nV_len] at hj
        have hj20 : j < (row.next s.1 s.2).2.length := by omega
        obtain ⟨ij, o1, o2⟩ := Den.get d11 (List.getElem?_eq_getElem hj20)
        rw [nV_get o1] at hv
        obtain rfl := Option.some.inj hv
        walk_at "go"
        refine dg_s (w11.same hs2).dict ?_
        walk_at "go"
        refine r_ixL (hs2 _ _ f3) rfl (sz_get o2) ?_
        refine ⟨_, hd2, ?_, same_mut hs2 hD, ?_⟩
        · rw [nV_len, List.length_map, List.length_take]
          exact Nat.lt_of_lt_of_le (show _ < 1000000 by omega) (by decide)
        · rw [upd_same, List.take_add_one, List.getElem?_eq_getElem hj20, List.map_append, nV_app]
          rfl
      · rintro H12 ⟨s12, d12⟩
        rw [nV_len, his, List.take_length] at d12
        walk_at "go"
        refine ⟨D, ((row.next s.1 s.2).2.map Tr.sz).map fun i : Nat => (i : Int), rfl, SqL.of (by rw [d12]; simp [nV]), by rw [List.length_map, List.length_map]; omega, fun m hm1 hm2 => ?_⟩
        walk_at "go"
        by_cases hbig : 100000 < m
        · refine r_isT (decide_eq_true hbig) ?_
          walk_at "go"
          exact k false ts2 _ (gr (kk11.trans (same_keep s12)) (w11.same s12) (List.IsPrefix.trans q3 p11) (by omega)) (fun h => by cases h)
        · refine r_isF (decide_eq_false hbig) ?_
          walk_at "go"
          refine ⟨is', ts2, xs ++ [(((s.1 : Int), intz is), kp)], some (.int (0 + (i : Int))), some (.ref kp), by rw [hsn]; rfl, kk11.trans (same_keep s12), w11.same s12, List.IsPrefix.trans q3 p11, by omega, L11.keep (same_keep s12) (List.prefix_refl _), s12 _ _ g11, by rw [hsn]; exact d11, ⟨s12 _ _ seen11.1, fun x hx => (seen11.2 x hx).same s12⟩, by simp [q9], ?_, ?_⟩
          · intro j hj
            by_cases hji : j = i
            · subst hji
              refine ⟨by rw [hs]; exact hend, is, kp, ?_, by rw [hs]; exact Den.pre q7 p11⟩
              rw [← q9, List.getElem?_append_right (Nat.le_refl _), Nat.sub_self, q9, hs]
              rfl
            · obtain ⟨n1, js, b', f1, f2⟩ := q10 j (by omega)
              refine ⟨n1, js, b', ?_, Den.pre f2 p11⟩
              rw [List.getElem?_append_left (by omega)]
              exact f1
          · intro j h1 h2 t ht
            by_cases hji : j = i + 1
            · subst hji
              rw [hsn] at ht
              have := hm2 (t.sz : Int) (List.mem_map.mpr ⟨t.sz, List.mem_map.mpr ⟨t, ht, rfl⟩, rfl⟩)
              omega
            · exact q11 j h1 (by omega) t ht
    · rintro σ H' ⟨is, ts', xs, y, z, rfl, q1, q2, q3, q4, q5, q6, q7, q8, q9, q10, q11⟩
      have e300 : ((300 : Int)).toNat = 300 := rfl
      rw [e300] at q4
      walk_at "go"
      exact k false ts' _ ⟨q1, q2, List.IsPrefix.trans g1.pre q3, by omega⟩ (fun h => by cases h)
end
end K38
set_option Elab.async false
set_option linter.all false
set_option maxRecDepth 100000
set_option maxHeartbeats 4000000
namespace K38
open PySem PySem.Spec PyProof.Rows L2 He SX
/-! ### the walk's own steps -/
local macro_rules | `(tactic| walk_at "hp") => `(tactic| first
  | assumption
  | with_reducible exact upd_same
  | (refine Eq.trans (upd_ne (by first | assumption | exact Ne.symm (by assumption))) ?_; walk_at "hp"))
local macro_rules | `(tactic| walk_at "st0") => `(tactic| with_reducible first
  | refine r_seq ?_ | refine r_asg ?_ | ((refine r_var (v := ?v) ?h ?_); (case h => with_unfolding_all exact rfl)) | refine r_c ?_ | refine r_op ?_ | refine r_cons ?_ | refine r_nil ?_ | refine r_gname ?_ | refine r_cb ?_ | refine r_call ?_
  | refine r_if ?_ | refine r_ret ?_ | refine r_test ?_ | refine r_bl ?_ | refine r_I0 ?_ | ((refine r_eq ?h ?_); (case h => with_unfolding_all exact rfl)) | ((refine r_ne ?h ?_); (case h => with_unfolding_all exact rfl))
  | refine r_T ?_ | refine r_F ?_ | refine r_nT ?_ | refine r_nF ?_ | refine r_not ?_ | refine r_and ?_ | refine r_or ?_ | refine r_B ?_ | refine r_next ?_ | refine r_drop ?_ | refine r_tup ?_ | refine r_bm ?_ | refine r_bm0 ?_
  | refine r_chain ?_ | refine r_andV ?_ | refine r_notV ?_ | refine r_isN ?_ | refine r_notN ?_ | refine r_dget ?_ | refine r_din ?_ | refine r_dnotin ?_ | refine r_un ?_ | refine r_rU ?_ | refine r_gsub ?_
  | ((refine r_aug (x := ?x) ?h ?_); (case h => with_unfolding_all exact rfl)) | refine r_ipI ?_ | refine r_for ?_ | refine r_lc ?_ | refine r_iList ?_ | refine r_iTup ?_ | refine r_iStr ?_ | refine r_iRng1 ?_ | refine r_iRng2 ?_ | refine r_iEnum ?_ | ((refine r_wipe ?h ?_); (case h => with_unfolding_all exact rfl)) | refine r_yes ?_ | refine r_rng ?_ | refine r_part ?_ | refine r_nopart ?_ | refine r_exi ?_ | refine r_int1 ?_ | refine r_abs ?_ | refine r_m1 ?_ | refine r_pairs ?_ | refine r_pairs0 ?_ | refine r_dput ?_ | refine r_trk ?_ | ((refine r_ixT0 (xs := ?xs) (v := ?v) ?h ?hv ?_); (case h => walk_at "hp"); (case hv => with_unfolding_all exact rfl)) | ((refine r_ixT1 (xs := ?xs) (v := ?v) ?h ?hv ?_); (case h => walk_at "hp"); (case hv => with_unfolding_all exact rfl)) | ((refine r_ixT2 (xs := ?xs) (v := ?v) ?h ?hv ?_); (case h => walk_at "hp"); (case hv => with_unfolding_all exact rfl)) | ((refine r_ixT3 (xs := ?xs) (v := ?v) ?h ?hv ?_); (case h => walk_at "hp"); (case hv => with_unfolding_all exact rfl)) | refine r_strv ?_)
local macro_rules | `(tactic| walk_at "st") => `(tactic| first | walk_at "st0" | with_reducible refine r_lst ?_)
local macro_rules | `(tactic| walk_at "g0") => `(tactic| repeat walk_at "st0")
local macro_rules | `(tactic| walk_at "go") => `(tactic| repeat walk_at "st")
local macro_rules | `(tactic| walk_at "dk") => `(tactic| first | refine r_isT (by decide +kernel) ?_ | refine r_isF (by decide +kernel) ?_)
local macro_rules | `(tactic| walk_at "gd") => `(tactic| repeat first | walk_at "st" | walk_at "dk")
/-! ### the stream -/
structure SAt (M : List Addr) (H : Hp) (s : Addr) : Prop where
  ex : ∃ (a : Addr) (ns : List Int) (v1 v2 v3 : Int), H s = some (.lst [.ref a, .int v1, .int v2, .int v3]) ∧ H a = some (.lst (ns.map V.int)) ∧ s ∉ M ∧ a ∉ M ∧ a ≠ s ∧ 0 ≤ v1 ∧ 0 ≤ v2
section
variable {H H' : Hp} {Q : VK} {M M' : List Addr} {s : Addr}
theorem SAt.keep (h : SAt M H s) (k : Keep M H H') : SAt M H' s := let ⟨a, ns, v1, v2, v3, e1, e2, n1, n2, q⟩ := h.ex; ⟨a, ns, v1, v2, v3, k _ _ e1 n1, k _ _ e2 n2, n1, n2, q⟩
theorem SAt.live (h : SAt M H s) : H s ≠ none := let ⟨a, ns, v1, v2, v3, e1, _⟩ := h.ex; fun z => by rw [e1] at z; cases z
theorem SAt.out (h : SAt M H s) : s ∉ M := let ⟨_, _, _, _, _, _, _, n, _⟩ := h.ex; n
theorem r_mulK {a b : Int} (h : (-(2 ^ 64) < b ∧ b < 2 ^ 64)) (q : Q (.int (a * b)) H) : rI CMul (fun i j => .int (i * j)) (.int a) (.int b) H Q := ⟨a, b, rfl, rfl, .inr h, q⟩
theorem r_modK {a b : Int} (h : 0 < b) (q : Q (.int (a % b)) H) : rI (fun _ j => 0 < j) (fun i j => .int (i % j)) (.int a) (.int b) H Q := ⟨a, b, rfl, rfl, h, q⟩
theorem r_divK {a b : Int} (h : 0 < b) (h' : b < 1073741824) (q : Q (.int (a / b)) H) : rI CDiv (fun i j => .int (i / j)) (.int a) (.int b) H Q := ⟨a, b, rfl, rfl, ⟨h, h'⟩, q⟩
theorem r_setA {QS : Hp → Prop} {p : Addr} {xs : List V} {z : Int} {a : Nat} {v : V} (h : H p = some (.lst xs)) (hz : z = (a : Int)) (ha : a < xs.length) (q : QS (upd H p (.lst (xs.set a v)))) : rSetL (.ref p) (.int z) v H QS := by
  subst hz
  refine ⟨p, xs, (a : Int), a, rfl, rfl, h, ?_, q⟩
  unfold ixN
  rw [if_pos (by omega), if_pos (by omega)]
  simp
theorem sq_listOf {K : PySem.W.Frag} {p : Addr} {xs : List V} (h : SqL K H p xs) (q : ∀ l, H l = none → Q (.ref l) (upd H l (.lst xs))) : rListOf K [.ref p] H Q := ⟨p, xs, rfl, .inl h, q⟩
end
local macro_rules | `(tactic| walk_at "ix") => `(tactic| first
  | (with_reducible (refine r_ixL1 (xs := ?xs) (v := ?v) ?h ?hv ?_); (case h => assumption); (case hv => with_unfolding_all exact rfl))
  | (with_reducible (refine r_ixL2 (xs := ?xs) (v := ?v) ?h ?hv ?_); (case h => assumption); (case hv => with_unfolding_all exact rfl))
  | (with_reducible (refine r_ixL3 (xs := ?xs) (v := ?v) ?h ?hv ?_); (case h => assumption); (case hv => with_unfolding_all exact rfl))
  | (with_reducible (refine r_ixL0 (xs := ?xs) (v := ?v) ?h ?hv ?_); (case h => assumption); (case hv => with_unfolding_all exact rfl))
  | with_reducible refine r_mulK (by decide) ?_)
local macro_rules | `(tactic| walk_at "gs") => `(tactic| repeat first | walk_at "st" | walk_at "ix")
section
variable {P : Program} {w : World} {K : PySem.W.Frag} {mg : Str → Option Value} {base : Heap}
def sp_law_stream (K : PySem.W.Frag) : Sp := fun vs H Q _ => ∃ (a : Addr) (ns : List Int), vs = [.ref a] ∧ SqL K H a (ns.map V.int) ∧ ns.length ≤ 63 ∧ ∀ (s : Addr) (H' : Hp), Same H H' → SAt [] H' s → H s = none → Q (.ref s) H'
theorem law_stream_ok (T : Txt w K mg) : Cal P w K mg base 1 "_law_stream" (sp_law_stream K) := by
  refine mkCal T.f_law_stream T.g_law_stream sc_law_stream (fun _ _ _ _ _ _ us hl => match us, hl with | [_], _ => rfl) (fun vs H Q E h => ?_) (fun cdv A outer s H vs Q E hr h => ?_)
  · obtain ⟨a, ns, rfl, _⟩ := h
    rfl
  · obtain ⟨a, ns, rfl, hq, hl, k⟩ := h
    refine ⟨_,
      (pss_cons (ps_st 1 sc_law_stream.nd pe_int)
      (pss_cons (ps_for PassesOwn.never rfl (pi_list (pv 0)) (pg_nm 2 sc_law_stream.nd) 
          (pss_one (ps_st 1 sc_law_stream.nd (pe_op op_mod (pe_callTy c_int1 (by rfl) T.n_int (by decide +kernel) (pa_cons (pe_op op_add (pe_op op_add (pe_op op_mul (pv 1) pe_int) (pe_op op_mod (pe_callTy c_int1 (by rfl) T.n_int (by decide +kernel) (pa_cons (pv 2) pa_nil)) pe_int)) pe_int) pa_nil)) pe_int))))
      (pss_one (ps_ret (pe_lst (pa_cons (pe_callTy c_listOf (by rfl) T.n_list (by decide +kernel) (pa_cons (pv 0) pa_nil)) (pa_cons pe_int (pa_cons pe_int (pa_cons (pv 1) pa_nil))))))))), ?_⟩
    walk_at "go"
    refine ⟨a, rfl, ⟨_, hq⟩, for_it (walk_list (xs := ns.map V.int)) (fun i σ H' => H' = H ∧ ∃ (m : Int) (x : Option V), σ = [some (.ref a), some (.int m), x]) ⟨rfl, _, _, rfl⟩ (fun i σ H' _ h => by rw [h.1]; exact hq) ?_ ?_⟩
    · rintro i v σ H1 H2 hi ⟨rfl, m, x, rfl⟩ ⟨rfl, hv⟩
      rw [List.length_map] at hi
      rw [List.getElem?_map, List.getElem?_eq_getElem hi] at hv
      obtain rfl := Option.some.inj hv
      walk_at "gs"
      refine r_modK (by decide) ?_
      walk_at "gs"
      refine r_modK (by decide) ?_
      walk_at "gs"
      exact ⟨rfl, _, _, rfl⟩
    · rintro σ H1 ⟨rfl, m, x, rfl⟩
      walk_at "go"
      refine sq_listOf hq fun l hl => ?_
      have s1 := same_new (o := .lst (ns.map V.int)) hl
      have e1 : (upd H1 l (.lst (ns.map V.int))) l = some (.lst (ns.map V.int)) := upd_same
      generalize upd H1 l (.lst (ns.map V.int)) = H2 at s1 e1
      walk_at "go"
      refine ⟨by show 4 ≤ sizeLine; decide, fun p hp => ?_⟩
      refine k p _ (s1.trans (same_new hp)) ⟨l, ns, 0, 0, m, upd_same, (same_new hp) _ _ e1, by simp, by simp, ne_of_none e1 hp, by decide, by decide⟩ (Same.free s1 hp)
def sp_law_draw : Sp := fun vs H Q _ => ∃ (M : List Addr) (s : Addr) (z : Int) (many : Nat), vs = [.ref s, .int z] ∧ z = (many : Int) ∧ SAt M H s ∧ 0 < many ∧ many ≤ 1000 ∧ ∀ (r : Nat) (H' : Hp), r < many → Keep [s] H H' → SAt M H' s → Q (.int (r : Int)) H'
theorem law_draw_ok (T : Txt w K mg) : Cal P w K mg base 1 "_law_draw" sp_law_draw := by
  refine mkCal T.f_law_draw T.g_law_draw sc_law_draw (fun _ _ _ _ _ _ us hl => match us, hl with | [_, _], _ => rfl) (fun vs H Q E h => ?_) (fun cdv A outer s H vs Q E hr h => ?_)
  · obtain ⟨M, s, z, many, rfl, _⟩ := h
    rfl
  · obtain ⟨M, s, z, many, rfl, rfl, hs, h0, h1, k⟩ := h
    refine ⟨_,
      (C8.pss_cut (ps_if (PW.pt (pw_and (pt_cmpR op_eq (pe_il (pv 0) pe_int) pe_int (nomark _)) (pw_and1 (pt_cmpR op_lt (pe_il (pv 0) pe_int) (pe_callB c_lenQ (by rfl) T.n_len PySem.boot_len (pa_cons (pe_il (pv 0) pe_int) pa_nil)) (nomark _))))) 
          (pss_cons (ps_asg (pe_callB c_abs (by rfl) T.n_abs (by decide +kernel) (pa_cons (pe_callTy c_int1 (by rfl) T.n_int (by decide +kernel) (pa_cons (pe_il (pe_il (pv 0) pe_int) (pe_il (pv 0) pe_int)) pa_nil)) pa_nil)) (pg_sub (pv 0) pe_int set_list))
          (pss_one (ps_asg (pe_op op_add (pe_il (pv 0) pe_int) pe_int) (pg_sub (pv 0) pe_int set_list)))) pss_nil)
      (pss_cons (ps_if (pt_cmpR op_eq (pe_il (pv 0) pe_int) pe_int (nomark _)) 
          (pss_cons (ps_asg (pe_op op_mod (pe_callTy c_int1 (by rfl) T.n_int (by decide +kernel) (pa_cons (pe_op op_add (pe_op op_mul (pe_il (pv 0) pe_int) pe_int) pe_int) pa_nil)) pe_int) (pg_sub (pv 0) pe_int set_list))
          (pss_one (ps_ret (pe_op op_mod (pe_callTy c_int1 (by rfl) T.n_int (by decide +kernel) (pa_cons (pe_op op_fdiv (pe_il (pv 0) pe_int) pe_int) pa_nil)) (pv 1))))) pss_nil)
      (pss_cons (ps_st 2 sc_law_draw.nd (pe_op op_mod (pe_callTy c_int1 (by rfl) T.n_int (by decide +kernel) (pa_cons (pe_il (pv 0) pe_int) pa_nil)) (pv 1)))
      (pss_cons (ps_asg (pe_op op_fdiv (pe_il (pv 0) pe_int) (pv 1)) (pg_sub (pv 0) pe_int set_list))
      (pss_one (ps_ret (pv 2))))))), ?_⟩
    obtain ⟨a, ns, v1, v2, v3, e1, e2, sm, am, sa, p1, p2⟩ := hs.ex
    refine ⟨fun σ H' => ∃ v1 v2, σ = [some (.ref s), some (.int (many : Int)), none] ∧ Keep [s] H H' ∧ H' s = some (.lst [.ref a, .int v1, .int v2, .int v3]) ∧ H' a = some (.lst (ns.map V.int)) ∧ 0 ≤ v1 ∧ 0 ≤ v2, ?_, ?_⟩
    · walk_at "gs"
      refine r_2 (fun _ => ?_) (fun _ => ?_)
      · walk_at "gs"
        refine r_lenL e2 ?_
        walk_at "gs"
        refine r_2 (fun hlt => ?_) (fun _ => ?_)
        · have hlt : v2 < ((ns.map V.int).length : Int) := of_decide_eq_true hlt
          rw [List.length_map] at hlt
          have hv2 : v2.toNat < ns.length := by omega
          walk_at "gs"
          refine r_ixL e2 (j := v2.toNat) (v := .int ns[v2.toNat]) (by omega) (by rw [List.getElem?_map, List.getElem?_eq_getElem hv2]; rfl) ?_
          walk_at "gs"
          refine r_setA (a := 1) e1 rfl (Nat.le_of_ble_eq_true rfl) ?_
          have hx : 0 ≤ (if ns[v2.toNat] < 0 then -ns[v2.toNat] else ns[v2.toNat]) := by
            split <;> omega
          generalize (if ns[v2.toNat] < 0 then -ns[v2.toNat] else ns[v2.toNat]) = x at hx ⊢
          have g1 : (upd H s (.lst ([V.ref a, .int v1, .int v2, .int v3].set 1 (.int x)))) s = some (.lst [.ref a, .int x, .int v2, .int v3]) := upd_same
          have g2 := (upd_ne (H := H) (o := .lst ([V.ref a, .int v1, .int v2, .int v3].set 1 (.int x))) sa).trans e2
          have k1 : Keep [s] H (upd H s (.lst ([V.ref a, .int v1, .int v2, .int v3].set 1 (.int x)))) := Keep.put (by simp)
          generalize upd H s (.lst ([V.ref a, .int v1, .int v2, .int v3].set 1 (.int x))) = H1 at g1 g2 k1
          walk_at "gs"
          refine r_setA (a := 2) g1 rfl (Nat.le_of_ble_eq_true rfl) ?_
          walk_at "gs"
          exact ⟨x, v2 + 1, rfl, k1.trans (Keep.put (by simp)), upd_same, (upd_ne sa).trans g2, hx, by omega⟩
        · walk_at "gs"
          exact ⟨v1, v2, rfl, Keep.refl, e1, e2, p1, p2⟩
      · walk_at "gs"
        exact ⟨v1, v2, rfl, Keep.refl, e1, e2, p1, p2⟩
    · rintro σ H1 ⟨v1, v2, rfl, k1, g1, g2, q1, q2⟩
      have hm : (0 : Int) < many := by omega
      walk_at "gs"
      refine r_2 (fun _ => ?_) (fun _ => ?_)
      · walk_at "gs"
        refine r_modK (by decide) ?_
        walk_at "gs"
        refine r_setA (a := 3) g1 rfl (Nat.le_of_ble_eq_true rfl) ?_
        generalize (v3 * 48271 + 11) % 2147483647 = y
        have f1 : (upd H1 s (.lst ([V.ref a, .int v1, .int v2, .int v3].set 3 (.int y)))) s = some (.lst [.ref a, .int v1, .int v2, .int y]) := upd_same
        have f2 := (upd_ne (H := H1) (o := .lst ([V.ref a, .int v1, .int v2, .int v3].set 3 (.int y))) sa).trans g2
        have k2 : Keep [s] H1 (upd H1 s (.lst ([V.ref a, .int v1, .int v2, .int v3].set 3 (.int y)))) := Keep.put (by simp)
        generalize upd H1 s (.lst ([V.ref a, .int v1, .int v2, .int v3].set 3 (.int y))) = H2 at f1 f2 k2
        walk_at "gs"
        refine r_divK (by decide) (by decide) ?_
        walk_at "gs"
        refine r_modK hm ?_
        have := Int.emod_nonneg (y / 97) (show (many : Int) ≠ 0 by omega)
        have h3 := Int.emod_lt_of_pos (y / 97) hm
        rw [show (y / 97) % (many : Int) = (((y / 97) % (many : Int)).toNat : Int) by omega]
        exact k _ H2 (by omega) (k1.trans k2) ⟨a, ns, v1, v2, y, f1, f2, sm, am, sa, q1, q2⟩
      · walk_at "gs"
        refine r_modK hm ?_
        walk_at "gs"
        refine r_divK hm (by omega) ?_
        walk_at "gs"
        refine r_setA (a := 1) g1 rfl (Nat.le_of_ble_eq_true rfl) ?_
        walk_at "gs"
        have := Int.emod_nonneg v1 (show (many : Int) ≠ 0 by omega)
        have h3 := Int.emod_lt_of_pos v1 hm
        rw [show v1 % (many : Int) = ((v1 % (many : Int)).toNat : Int) by omega]
        exact k _ _ (by omega) (k1.trans (Keep.put (by simp))) ⟨a, ns, v1 / (many : Int), v2, v3, upd_same, (upd_ne sa).trans g2, sm, am, sa, Int.ediv_nonneg q1 (by omega), q2⟩
end
end K38
set_option Elab.async false
set_option linter.all false
set_option maxRecDepth 100000
set_option maxHeartbeats 4000000
namespace K38
open PySem PySem.Spec PyProof.Rows L2 He SX
/-! ### the walk's own steps -/
local macro_rules | `(tactic| walk_at "hp") => `(tactic| first
  | assumption
  | with_reducible exact upd_same
  | (refine Eq.trans (upd_ne (by first | assumption | exact Ne.symm (by assumption))) ?_; walk_at "hp"))
local macro_rules | `(tactic| walk_at "st0") => `(tactic| with_reducible first
  | refine r_seq ?_ | refine r_asg ?_ | ((refine r_var (v := ?v) ?h ?_); (case h => with_unfolding_all exact rfl)) | refine r_c ?_ | refine r_op ?_ | refine r_cons ?_ | refine r_nil ?_ | refine r_gname ?_ | refine r_cb ?_ | refine r_call ?_
  | refine r_if ?_ | refine r_ret ?_ | refine r_test ?_ | refine r_bl ?_ | refine r_I0 ?_ | ((refine r_eq ?h ?_); (case h => with_unfolding_all exact rfl)) | ((refine r_ne ?h ?_); (case h => with_unfolding_all exact rfl))
  | refine r_T ?_ | refine r_F ?_ | refine r_nT ?_ | refine r_nF ?_ | refine r_not ?_ | refine r_and ?_ | refine r_or ?_ | refine r_B ?_ | refine r_next ?_ | refine r_drop ?_ | refine r_tup ?_ | refine r_bm ?_ | refine r_bm0 ?_
  | refine r_chain ?_ | refine r_andV ?_ | refine r_notV ?_ | refine r_isN ?_ | refine r_notN ?_ | refine r_dget ?_ | refine r_din ?_ | refine r_dnotin ?_ | refine r_un ?_ | refine r_rU ?_ | refine r_gsub ?_
  | ((refine r_aug (x := ?x) ?h ?_); (case h => with_unfolding_all exact rfl)) | refine r_ipI ?_ | refine r_for ?_ | refine r_lc ?_ | refine r_iList ?_ | refine r_iTup ?_ | refine r_iStr ?_ | refine r_iRng1 ?_ | refine r_iRng2 ?_ | refine r_iEnum ?_ | ((refine r_wipe ?h ?_); (case h => with_unfolding_all exact rfl)) | refine r_yes ?_ | refine r_rng ?_ | refine r_part ?_ | refine r_nopart ?_ | refine r_exi ?_ | refine r_int1 ?_ | refine r_abs ?_ | refine r_m1 ?_ | refine r_pairs ?_ | refine r_pairs0 ?_ | refine r_dput ?_ | refine r_trk ?_ | ((refine r_ixT0 (xs := ?xs) (v := ?v) ?h ?hv ?_); (case h => walk_at "hp"); (case hv => with_unfolding_all exact rfl)) | ((refine r_ixT1 (xs := ?xs) (v := ?v) ?h ?hv ?_); (case h => walk_at "hp"); (case hv => with_unfolding_all exact rfl)) | ((refine r_ixT2 (xs := ?xs) (v := ?v) ?h ?hv ?_); (case h => walk_at "hp"); (case hv => with_unfolding_all exact rfl)) | ((refine r_ixT3 (xs := ?xs) (v := ?v) ?h ?hv ?_); (case h => walk_at "hp"); (case hv => with_unfolding_all exact rfl)) | refine r_strv ?_)
local macro_rules | `(tactic| walk_at "st") => `(tactic| first | walk_at "st0" | with_reducible refine r_lst ?_)
local macro_rules | `(tactic| walk_at "g0") => `(tactic| repeat walk_at "st0")
local macro_rules | `(tactic| walk_at "go") => `(tactic| repeat walk_at "st")
local macro_rules | `(tactic| walk_at "dk") => `(tactic| first | refine r_isT (by decide +kernel) ?_ | refine r_isF (by decide +kernel) ?_)
local macro_rules | `(tactic| walk_at "gd") => `(tactic| repeat first | walk_at "st" | walk_at "dk")
section
variable {P : Program} {w : World} {K : PySem.W.Frag} {mg : Str → Option Value} {base : Heap}
/-! ### _law_tree, _law_registers -/
def sp_tree_n (n : Nat) : Sp := fun vs H Q _ => ∃ (M : List Addr) (s : Addr) (z : Int) (m : Nat), vs = [.ref s, .int z] ∧ z = (m : Int) ∧ m < n ∧ n ≤ 6 ∧ SAt M H s ∧ ∀ (t : Tr) (H' : Hp), t.sz = 2 * m + 1 → Keep [s] H H' → SAt M H' s → Q (.str (S t.enc)) H'
theorem tree_n (T : Txt w K mg) : ∀ n, Cal P w K mg base (n + 1) "_law_tree" (sp_tree_n n)
  | 0 => by
    refine mkCal T.f_law_tree T.g_law_tree sc_law_tree (fun _ _ _ _ _ _ us hl => match us, hl with | [_, _], _ => rfl) (fun vs H Q E h => ?_) (fun cdv A outer s H vs Q E hr h => ?_)
    · obtain ⟨M, s, z, m, rfl, _⟩ := h
      rfl
    · obtain ⟨M, s, z, m, _, _, h0, _⟩ := h
      exact absurd h0 (Nat.not_lt_zero _)
  | n + 1 => by
    have ih := tree_n T n
    refine mkCal T.f_law_tree T.g_law_tree sc_law_tree (fun _ _ _ _ _ _ us hl => match us, hl with | [_, _], _ => rfl) (fun vs H Q E h => ?_) (fun cdv A outer s H vs Q E hr h => ?_)
    · obtain ⟨M, s, z, m, rfl, _⟩ := h
      rfl
    · obtain ⟨M, s, z, m, rfl, rfl, hm, hn, hs, k⟩ := h
      refine ⟨_,
      (pss_cons (ps_if (pt_cmpR op_eq (pv 1) pe_int (nomark _)) 
          (pss_one (ps_ret pe_str)) pss_nil)
      (pss_cons (ps_st 2 sc_law_tree.nd (pe_c (law_draw_ok T) hr (by omega) rfl (pa_cons (pv 0) (pa_cons (pv 1) pa_nil))))
      (pss_one (ps_ret (pe_op o_addS (pe_op o_addS pe_str (pe_c ih hr (by omega) rfl (pa_cons (pv 0) (pa_cons (pv 2) pa_nil)))) (pe_c ih hr (by omega) rfl (pa_cons (pv 0) (pa_cons (pe_op op_sub (pe_op op_sub (pv 1) pe_int) (pv 2)) pa_nil)))))))), ?_⟩
      rw [z0, z1]
      walk_at "go"
      by_cases h0 : m = 0
      · subst h0
        refine r_isT (dI_T rfl) ?_
        walk_at "go"
        exact k .lf H rfl Keep.refl hs
      · refine r_isF (dI_F (by omega)) ?_
        walk_at "go"
        refine ⟨M, s, _, m, rfl, rfl, hs, by omega, by omega, fun l H1 hl k1 s1 => ?_⟩
        walk_at "go"
        refine ⟨M, s, _, l, rfl, rfl, by omega, by omega, s1, fun ta H2 e2 k2 s2 => ?_⟩
        walk_at "go"
        refine r_addS (by rw [Tr.len]; show 1 + ta.sz ≤ 1000000; omega) ?_
        walk_at "go"
        refine ⟨M, s, _, m - 1 - l, rfl, by omega, by omega, by omega, s2, fun tb H3 e3 k3 s3 => ?_⟩
        refine r_addS (by rw [List.length_append, Tr.len, Tr.len]; show 1 + ta.sz + tb.sz ≤ 1000000; omega) ?_
        exact k (.nd ta tb) H3 (by unfold Tr.sz; omega) ((k1.trans k2).trans k3) s3
abbrev sp_law_tree : Sp := sp_tree_n 6
theorem law_tree_ok (T : Txt w K mg) : Cal P w K mg base 7 "_law_tree" sp_law_tree := tree_n T 6
/-- a reading of the tree's spec -/
theorem tree_do {H : Hp} {Q : VK} {E : XK} {M : List Addr} {s : Addr} {z : Int} (m : Nat) (hz : z = (m : Int)) (hm : m ≤ 5) (h : SAt M H s) (k : ∀ (t : Tr) (H' : Hp), t.sz = 2 * m + 1 → Keep [s] H H' → SAt M H' s → Q (.str (S t.enc)) H') : sp_law_tree [.ref s, .int z] H Q E := ⟨M, s, z, m, rfl, hz, by omega, Nat.le_refl _, h, k⟩
theorem draw_do {H : Hp} {Q : VK} {E : XK} {M : List Addr} {s : Addr} {z : Int} (m : Nat) (hz : z = (m : Int)) (h0 : 0 < m) (hm : m ≤ 1000) (h : SAt M H s) (k : ∀ (r : Nat) (H' : Hp), r < m → Keep [s] H H' → SAt M H' s → Q (.int (r : Int)) H') : sp_law_draw [.ref s, .int z] H Q E := ⟨M, s, z, m, rfl, hz, h, h0, hm, k⟩
def sp_law_registers : Sp := fun vs H Q _ => ∃ (M : List Addr) (s : Addr), vs = [.ref s] ∧ SAt M H s ∧ ∀ (r : Nat) (H' : Hp), 0 < r → r ≤ 16 → Keep [s] H H' → SAt M H' s → Q (.int (r : Int)) H'
theorem law_registers_ok (T : Txt w K mg) : Cal P w K mg base 2 "_law_registers" sp_law_registers := by
  refine mkCal T.f_law_registers T.g_law_registers sc_law_registers (fun _ _ _ _ _ _ us hl => match us, hl with | [_], _ => rfl) (fun vs H Q E h => ?_) (fun cdv A outer s H vs Q E hr h => ?_)
  · obtain ⟨M, s, rfl, _⟩ := h
    rfl
  · obtain ⟨M, s, rfl, hs, k⟩ := h
    refine ⟨_,
      (pss_cons (ps_if (pt_cmpR op_eq (pe_c (law_draw_ok T) hr (by decide) rfl (pa_cons (pv 0) (pa_cons pe_int pa_nil))) pe_int (nomark _)) 
          (pss_one (ps_ret pe_int)) pss_nil)
      (pss_one (ps_ret (pe_op op_add pe_int (pe_c (law_draw_ok T) hr (by decide) rfl (pa_cons (pv 0) (pa_cons pe_int pa_nil))))))), ?_⟩
    walk_at "go"
    refine draw_do 8 rfl (by decide) (by decide) hs fun r H1 hr1 k1 s1 => ?_
    walk_at "go"
    refine r_2 (fun _ => ?_) (fun _ => ?_)
    · walk_at "go"
      exact k 16 H1 (by decide) (by decide) k1 s1
    · walk_at "go"
      refine draw_do 4 rfl (by decide) (by decide) s1 fun r2 H2 hr2 k2 s2 => ?_
      walk_at "go"
      rw [show (1 : Int) + (r2 : Int) = ((1 + r2 : Nat) : Int) by omega]
      exact k (1 + r2) H2 (by omega) (by omega) (k1.trans k2) s2
end
end K38
set_option Elab.async false
set_option linter.all false
set_option maxRecDepth 100000
set_option maxHeartbeats 4000000
namespace K38
open PySem PySem.Spec PyProof.Rows L2 He SX
/-! ### the walk's own steps -/
local macro_rules | `(tactic| walk_at "hp") => `(tactic| first
  | assumption
  | with_reducible exact upd_same
  | (refine Eq.trans (upd_ne (by first | assumption | exact Ne.symm (by assumption))) ?_; walk_at "hp"))
local macro_rules | `(tactic| walk_at "st0") => `(tactic| with_reducible first
  | refine r_seq ?_ | refine r_asg ?_ | ((refine r_var (v := ?v) ?h ?_); (case h => with_unfolding_all exact rfl)) | refine r_c ?_ | refine r_op ?_ | refine r_cons ?_ | refine r_nil ?_ | refine r_gname ?_ | refine r_cb ?_ | refine r_call ?_
  | refine r_if ?_ | refine r_ret ?_ | refine r_test ?_ | refine r_bl ?_ | refine r_I0 ?_ | ((refine r_eq ?h ?_); (case h => with_unfolding_all exact rfl)) | ((refine r_ne ?h ?_); (case h => with_unfolding_all exact rfl))
  | refine r_T ?_ | refine r_F ?_ | refine r_nT ?_ | refine r_nF ?_ | refine r_not ?_ | refine r_and ?_ | refine r_or ?_ | refine r_B ?_ | refine r_next ?_ | refine r_drop ?_ | refine r_tup ?_ | refine r_bm ?_ | refine r_bm0 ?_
  | refine r_chain ?_ | refine r_andV ?_ | refine r_notV ?_ | refine r_isN ?_ | refine r_notN ?_ | refine r_dget ?_ | refine r_din ?_ | refine r_dnotin ?_ | refine r_un ?_ | refine r_rU ?_ | refine r_gsub ?_
  | ((refine r_aug (x := ?x) ?h ?_); (case h => with_unfolding_all exact rfl)) | refine r_ipI ?_ | refine r_for ?_ | refine r_lc ?_ | refine r_iList ?_ | refine r_iTup ?_ | refine r_iStr ?_ | refine r_iRng1 ?_ | refine r_iRng2 ?_ | refine r_iEnum ?_ | ((refine r_wipe ?h ?_); (case h => with_unfolding_all exact rfl)) | refine r_yes ?_ | refine r_rng ?_ | refine r_part ?_ | refine r_nopart ?_ | refine r_exi ?_ | refine r_int1 ?_ | refine r_abs ?_ | refine r_m1 ?_ | refine r_pairs ?_ | refine r_pairs0 ?_ | refine r_dput ?_ | refine r_trk ?_ | ((refine r_ixT0 (xs := ?xs) (v := ?v) ?h ?hv ?_); (case h => walk_at "hp"); (case hv => with_unfolding_all exact rfl)) | ((refine r_ixT1 (xs := ?xs) (v := ?v) ?h ?hv ?_); (case h => walk_at "hp"); (case hv => with_unfolding_all exact rfl)) | ((refine r_ixT2 (xs := ?xs) (v := ?v) ?h ?hv ?_); (case h => walk_at "hp"); (case hv => with_unfolding_all exact rfl)) | ((refine r_ixT3 (xs := ?xs) (v := ?v) ?h ?hv ?_); (case h => walk_at "hp"); (case hv => with_unfolding_all exact rfl)) | refine r_strv ?_)
local macro_rules | `(tactic| walk_at "st") => `(tactic| first | walk_at "st0" | with_reducible refine r_lst ?_)
local macro_rules | `(tactic| walk_at "g0") => `(tactic| repeat walk_at "st0")
local macro_rules | `(tactic| walk_at "go") => `(tactic| repeat walk_at "st")
local macro_rules | `(tactic| walk_at "dk") => `(tactic| first | refine r_isT (by decide +kernel) ?_ | refine r_isF (by decide +kernel) ?_)
local macro_rules | `(tactic| walk_at "gd") => `(tactic| repeat first | walk_at "st" | walk_at "dk")
/-! ### drawn programs -/
/-- the stream at s, and M stands -/
structure SD (M : List Addr) (H : Hp) (s : Addr) : Prop where
  at_ : SAt M H s
  md : Dom M H
section
variable {H H' : Hp} {Q : VK} {E : XK} {M : List Addr} {s f p : Addr} {rs : List Row} {r : Row} {xs vs : List V}
theorem SD.dom (h : SD M H s) : Dom (s :: M) H := fun m hm e => by
  rcases List.mem_cons.mp hm with z | z
  · exact h.at_.live (z ▸ e)
  · exact h.md m z e
theorem SD.of (h : SD M H s) (k : Keep [s] H H') (a : SAt M H' s) : SD M H' s := ⟨a, fun m hm e => by
  have hn : H m ≠ none := h.md m hm
  cases q : H m with
  | none => exact hn q
  | some o => rw [k m o q (by rw [List.mem_singleton]; intro z; exact h.at_.out (z ▸ hm))] at e; cases e⟩
theorem SD.same (h : SD M H s) (k : Same H H') : SD M H' s := ⟨h.at_.keep (same_keep k), same_dom k h.md⟩
theorem SD.fresh (h : SD M H s) (e : H f = none) (k : Same H H') (e' : H' f ≠ none) : SD (f :: M) H' s := by
  obtain ⟨a, ns, v1, v2, v3, e1, e2, n1, n2, q⟩ := h.at_.ex
  refine ⟨⟨a, ns, v1, v2, v3, k _ _ e1, k _ _ e2, fun z => ?_, fun z => ?_, q⟩, fun m hm => ?_⟩
  · rcases List.mem_cons.mp z with z | z
    · rw [z, e] at e1
      cases e1
    · exact n1 z
  · rcases List.mem_cons.mp z with z | z
    · rw [z, e] at e2
      cases e2
    · exact n2 z
  · rcases List.mem_cons.mp hm with z | z
    · rw [z]
      exact e'
    · exact same_dom k h.md m z
theorem SD.drop (h : SD (f :: M) H s) : SD M H s := by
  obtain ⟨a, ns, v1, v2, v3, e1, e2, n1, n2, q⟩ := h.at_.ex
  exact ⟨⟨a, ns, v1, v2, v3, e1, e2, fun z => n1 (List.mem_cons_of_mem _ z), fun z => n2 (List.mem_cons_of_mem _ z), q⟩, fun m hm => h.md m (List.mem_cons_of_mem _ hm)⟩
theorem draw_d {z : Int} (m : Nat) (hz : z = (m : Int)) (h0 : 0 < m) (hm : m ≤ 1000) (h : SD M H s) (k : ∀ (r : Nat) (H' : Hp), r < m → Keep [s] H H' → SD M H' s → Q (.int (r : Int)) H') : sp_law_draw [.ref s, .int z] H Q E :=
  draw_do m hz h0 hm h.at_ fun r H' a b c => k r H' a b (h.of b c)
theorem tree_d {z : Int} (m : Nat) (hz : z = (m : Int)) (hm : m ≤ 5) (h : SD M H s) (k : ∀ (t : Tr) (H' : Hp), t.sz = 2 * m + 1 → Keep [s] H H' → SD M H' s → Q (.str (S t.enc)) H') : sp_law_tree [.ref s, .int z] H Q E :=
  tree_do m hz hm h.at_ fun t H' a b c => k t H' a b (h.of b c)
theorem pr_new (d : Dom M H) (hp : H p = none) (u : RowsAt M H vs rs) : PrAt M (upd H p (.lst vs)) p rs := ⟨d.out hp, vs, upd_same, RowsAt.keep u (same_keep (same_new hp))⟩
theorem ML.draw (m : ML (s :: M) H f rs) (k : Keep [s] H H') : ML (s :: M) H' f rs := by
  obtain ⟨n, vs, e, u⟩ := m
  refine ⟨n, vs, k _ _ e ?_, RowsAt.keep u (k.mono fun x hx => ?_)⟩
  · rw [List.mem_singleton]
    intro z
    exact n (by rw [z]; simp)
  · rw [List.mem_singleton.mp hx]
    simp
/-- the fresh tuple of a row goes behind the list f -/
theorem app_row (e : xs = r.vals) (hx : xs.length ≤ 10) (hp : H p = none) (m : ML (s :: M) H f rs) (hs : SD (f :: M) H s) (hl : rs.length ≤ 10000)
    (k : ∀ H', Keep [f] H H' → ML (s :: M) H' f (rs ++ [r]) → SD (f :: M) H' s → Q .non H') : rAppend (.ref f) [.ref p] (upd H p (.tup xs)) Q := by
  have s1 : Same H (upd H p (.tup xs)) := same_new hp
  have d1 : Dom (f :: s :: M) H := fun x hx e => by
    rcases List.mem_cons.mp hx with z | z
    · exact hs.md f (by simp) (z ▸ e)
    · exact hs.drop.dom x z e
  have r1 : RowAt (f :: s :: M) (upd H p (.tup xs)) (.ref p) r := row_new d1 hp e
  have nf : s ≠ f := fun z => hs.at_.out (by rw [z]; simp)
  refine ml_app (m.keep s1) r1 hl fun H2 _ k2 m2 => ?_
  have a := (hs.same s1).at_.keep (k2.mono (fun x hx => by rw [List.mem_singleton.mp hx]; simp))
  refine k H2 ((same_keep s1).trans k2) m2 ⟨a, fun x hx e => ?_⟩
  rcases List.mem_cons.mp hx with z | z
  · obtain ⟨_, vs, e2, _⟩ := m2
    rw [z, e2] at e
    cases e
  · have hn := (hs.same s1).md x (by simp [z])
    cases q : upd H p (.tup xs) x with
    | none => exact hn q
    | some o =>
      by_cases xf : x = f
      · obtain ⟨_, vs, e2, _⟩ := m2
        rw [xf, e2] at e
        cases e
      · rw [k2 x o q (by simpa using xf)] at e
        cases e
end
/-- a row with the index i of a drawn program of n rows -/
def Row.small (i n : Nat) (r : Row) : Prop := (∀ a ∈ r.regs, a < 16) ∧ (∀ a t, r = .set a t → t.sz ≤ 9) ∧ ∀ a k, r = .jump a k → 0 ≤ (i : Int) + k ∧ (i : Int) + k ≤ n ∧ k.natAbs ≤ 8
structure Sm (L : Nat) (rs : List Row) : Prop where
  len : rs.length ≤ L
  rows : ∀ (i : Nat) (r : Row), rs[i]? = some r → r.small i rs.length
theorem sm_set {i n a : Nat} {t : Tr} (h : a < 16) (ht : t.sz ≤ 9) : (Row.set a t).small i n := ⟨fun x hx => by simp [Row.regs] at hx; omega, fun a' t' e => by injection e with _ e; subst e; exact ht, fun a' k' e => by cases e⟩
theorem sm_move {i n a b : Nat} (h : a < 16) (hb : b < 16) : (Row.move a b).small i n := ⟨fun x hx => by simp [Row.regs] at hx; omega, fun a' t' e => (by cases e), fun a' k' e => by cases e⟩
theorem sm_cons {i n a b c : Nat} (h : a < 16) (hb : b < 16) (hc : c < 16) : (Row.cons a b c).small i n := ⟨fun x hx => by simp [Row.regs] at hx; omega, fun a' t' e => (by cases e), fun a' k' e => by cases e⟩
theorem sm_head {i n a b : Nat} (h : a < 16) (hb : b < 16) : (Row.head a b).small i n := ⟨fun x hx => by simp [Row.regs] at hx; omega, fun a' t' e => (by cases e), fun a' k' e => by cases e⟩
theorem sm_tail {i n a b : Nat} (h : a < 16) (hb : b < 16) : (Row.tail a b).small i n := ⟨fun x hx => by simp [Row.regs] at hx; omega, fun a' t' e => (by cases e), fun a' k' e => by cases e⟩
theorem sm_jump {i n a : Nat} {k : Int} (h : a < 16) (hk : 0 ≤ (i : Int) + k ∧ (i : Int) + k ≤ n ∧ k.natAbs ≤ 8) : (Row.jump a k).small i n := ⟨fun x hx => by simp [Row.regs] at hx; omega, fun a' t' e => (by cases e), fun a' k' e => by injection e with _ e; subst e; exact hk⟩
theorem sm_snoc {rs : List Row} {r : Row} {n : Nat} (h : ∀ (j : Nat) (r : Row), rs[j]? = some r → r.small j n) (hr : r.small rs.length n) : ∀ (j : Nat) (x : Row), (rs ++ [r])[j]? = some x → x.small j n := by
  intro j x e
  by_cases hj : j < rs.length
  · rw [List.getElem?_append_left hj] at e
    exact h j x e
  · rw [List.getElem?_append_right (by omega)] at e
    have hj0 : j - rs.length = 0 := by
      have := (List.getElem?_eq_some_iff.mp e).1
      simp at this
      omega
    rw [hj0] at e
    have : r = x := by simpa using e
    subst this
    rw [show j = rs.length by omega]
    exact hr
section
variable {P : Program} {w : World} {K : PySem.W.Frag} {mg : Str → Option Value} {base : Heap}
def sp_prog (L : Nat) : Sp := fun vs H Q _ => ∃ (M : List Addr) (s : Addr), vs = [.ref s] ∧ SD M H s ∧ ∀ (p : Addr) (rs : List Row) (H' : Hp), H p = none → Sm L rs → Keep [s] H H' → SD M H' s → PrAt (s :: M) H' p rs → Q (.ref p) H'
abbrev sp_law_random_program : Sp := sp_prog 8
theorem law_random_program_ok (T : Txt w K mg) : Cal P w K mg base 8 "_law_random_program" sp_law_random_program := by
  refine mkCal T.f_law_random_program T.g_law_random_program sc_law_random_program (fun _ _ _ _ _ _ us hl => match us, hl with | [_], _ => rfl) (fun vs H Q E h => ?_) (fun cdv A outer s H vs Q E hr h => ?_)
  · obtain ⟨M, s, rfl, _⟩ := h
    rfl
  · obtain ⟨M, s, rfl, hs, k⟩ := h
    refine ⟨_,
      (pss_cons (ps_st 1 sc_law_random_program.nd (pe_c (law_draw_ok T) hr (by decide) rfl (pa_cons (pv 0) (pa_cons pe_int pa_nil))))
      (pss_cons (ps_st 2 sc_law_random_program.nd (pe_c (law_registers_ok T) hr (by decide) rfl (pa_cons (pv 0) pa_nil)))
      (pss_cons (ps_st 3 sc_law_random_program.nd (pe_lst pa_nil))
      (pss_cons (ps_for PassesOwn.never rfl (pi_range1 (by rfl) T.n_range (pa_cons (pv 1) pa_nil)) (pg_nm 4 sc_law_random_program.nd) 
          (pss_cons (ps_st 5 sc_law_random_program.nd (pe_c (law_draw_ok T) hr (by decide) rfl (pa_cons (pv 0) (pa_cons pe_int pa_nil))))
          (pss_cons (ps_st 6 sc_law_random_program.nd (pe_c (law_draw_ok T) hr (by decide) rfl (pa_cons (pv 0) (pa_cons (pv 2) pa_nil))))
          (pss_cons (ps_st 7 sc_law_random_program.nd (pe_c (law_draw_ok T) hr (by decide) rfl (pa_cons (pv 0) (pa_cons (pv 2) pa_nil))))
          (pss_one (ps_if (pt_cmpR op_eq (pv 5) pe_int (nomark _)) 
              (pss_one (ps_expr (pe_app (pv 3) (pe_tup (pa_cons pe_str (pa_cons (pv 6) (pa_cons (pe_c (law_tree_ok T) hr (by decide) rfl (pa_cons (pv 0) (pa_cons (pe_c (law_draw_ok T) hr (by decide) rfl (pa_cons (pv 0) (pa_cons pe_int pa_nil))) pa_nil))) pa_nil))))))) 
              (pss_one (ps_if (pt_cmpR op_eq (pv 5) pe_int (nomark _)) 
                  (pss_one (ps_expr (pe_app (pv 3) (pe_tup (pa_cons pe_str (pa_cons (pv 6) (pa_cons (pv 7) pa_nil))))))) 
                  (pss_one (ps_if (pt_cmpR op_lt (pv 5) pe_int (nomark _)) 
                      (pss_one (ps_expr (pe_app (pv 3) (pe_tup (pa_cons pe_str (pa_cons (pv 6) (pa_cons (pv 7) (pa_cons (pe_c (law_draw_ok T) hr (by decide) rfl (pa_cons (pv 0) (pa_cons (pv 2) pa_nil))) pa_nil)))))))) 
                      (pss_one (ps_if (pt_cmpR op_lt (pv 5) pe_int (nomark _)) 
                          (pss_one (ps_expr (pe_app (pv 3) (pe_tup (pa_cons (pe_il (pe_lst (pa_cons pe_str (pa_cons pe_str pa_nil))) (pe_op op_sub (pv 5) pe_int)) (pa_cons (pv 6) (pa_cons (pv 7) pa_nil))))))) 
                          (pss_one (ps_if (PW.pt (pw_and (pt_cmpR op_eq (pv 5) pe_int (nomark _)) (pw_and1 (pt_cmpR op_eq (pe_c (law_draw_ok T) hr (by decide) rfl (pa_cons (pv 0) (pa_cons pe_int pa_nil))) pe_int (nomark _))))) 
                              (pss_one (ps_expr (pe_app (pv 3) (pe_tup (pa_cons pe_str (pa_cons (pv 6) (pa_cons (pe_op op_sub pe_int (pe_c (law_draw_ok T) hr (by decide) rfl (pa_cons (pv 0) (pa_cons (pe_op op_add (pv 4) pe_int) pa_nil)))) pa_nil))))))) 
                              (pss_one (ps_expr (pe_app (pv 3) (pe_tup (pa_cons pe_str (pa_cons (pv 6) (pa_cons (pe_op op_add pe_int (pe_c (law_draw_ok T) hr (by decide) rfl (pa_cons (pv 0) (pa_cons (pe_op op_sub (pv 1) (pv 4)) pa_nil)))) pa_nil)))))))))))))))))))))
      (pss_one (ps_ret (pv 3))))))), ?_⟩
    walk_at "go"
    refine draw_d 9 rfl (by decide) (by decide) hs fun many H1 hm k1 s1 => ?_
    walk_at "go"
    refine ⟨M, s, rfl, s1.at_, fun wide H2 hw0 hw k2 a2 => ?_⟩
    have s2 := s1.of k2 a2
    have kk2 := k1.trans k2
    walk_at "go"
    refine ⟨Nat.zero_le _, fun f hf => ?_⟩
    have s3 : Same H2 (upd H2 f (.lst [])) := same_new hf
    have m3 : ML (s :: M) (upd H2 f (.lst [])) f [] := ⟨s2.dom.out hf, [], upd_same, .nil⟩
    generalize upd H2 f (.lst []) = H3 at s3 m3
    have hfH : H f = none := kk2.free (fun m hm => by rw [List.mem_singleton.mp hm]; exact s2.at_.live) hf
    have kk3 := kk2.trans (same_keep s3)
    have sd3 : SD (f :: M) H3 s := s2.fresh hf s3 (by obtain ⟨_, vs, e, _⟩ := m3; rw [e]; intro z; cases z)
    walk_at "go"
    refine ⟨_, rfl, by omega, by omega, for_it walk_range (fun i σ H' => ∃ (rs : List Row) (x4 x5 x6 x7 : Option V), σ = [some (.ref s), some (.int (many : Int)), some (.int (wide : Int)), some (.ref f), x4, x5, x6, x7] ∧ Keep [s] H H' ∧ SD (f :: M) H' s ∧ ML (s :: M) H' f rs ∧ rs.length = i ∧ ∀ (j : Nat) (r : Row), rs[j]? = some r → r.small j many)
      ⟨[], none, none, none, none, rfl, kk3, sd3, m3, rfl, fun j r e => by simp at e⟩ (fun _ _ _ _ _ => trivial) ?_ ?_⟩
    · rintro i v σ H4 H5 hi ⟨rs, x4, x5, x6, x7, rfl, q1, q2, q3, q4, q5⟩ ⟨rfl, rfl⟩
      have hi' : i < many := by omega
      walk_at "go"
      refine draw_d 8 rfl (by decide) (by decide) q2 fun pick H6 hp6 k6 s6 => ?_
      have m6 := q3.draw k6
      walk_at "go"
      refine draw_d wide rfl hw0 (by omega) s6 fun a H7 ha7 k7 s7 => ?_
      have m7 := m6.draw k7
      walk_at "go"
      refine draw_d wide rfl hw0 (by omega) s7 fun b H8 hb8 k8 s8 => ?_
      have m8 := m7.draw k8
      have kk8 := ((q1.trans k6).trans k7).trans k8
      have hfs : f ≠ s := fun z => s8.at_.out (by rw [z]; simp)
      clear q2 q3 k6 s6 m6 k7 s7 m7 k8
      have fin : ∀ (r : Row) (xs : List V) (p : Addr) (H9 : Hp) (Qn : VK), xs = r.vals → xs.length ≤ 10 → r.small i many → Keep [s] H8 H9 → SD (f :: M) H9 s → ML (s :: M) H9 f rs → H9 p = none →
          (∀ H' rs', Keep [s] H H' → SD (f :: M) H' s → ML (s :: M) H' f rs' → rs'.length = i + 1 → (∀ (j : Nat) (r : Row), rs'[j]? = some r → r.small j many) → Qn .non H') → rAppend (.ref f) [.ref p] (upd H9 p (.tup xs)) Qn := by
        intro r xs p H9 Qn e1 e2 e3 k9 s9 m9 hp9 kn
        refine app_row e1 e2 hp9 m9 s9 (by omega) fun H' kf m' s' => ?_
        refine kn H' (rs ++ [r]) ?_ s' m' (by simp [q4]) (sm_snoc q5 (by rw [q4]; exact e3))
        exact Keep.drop (M := [s]) (H1 := H) (by exact Keep.refl) hfH (((kk8.trans k9).mono (fun x hx => by simp [List.mem_singleton.mp hx])).trans (kf.mono fun x hx => by simp [List.mem_singleton.mp hx]))
      walk_at "go"
      by_cases p0 : pick = 0
      · refine r_isT (dI_T (by omega)) ?_
        walk_at "go"
        refine m8.ty ?_
        walk_at "go"
        refine draw_d 5 rfl (by decide) (by decide) s8 fun n H9 hn9 k9 s9 => ?_
        walk_at "go"
        refine tree_d n rfl (by omega) s9 fun t H10 ht k10 s10 => ?_
        walk_at "go"
        refine ⟨by show 3 ≤ sizeLine; decide, fun p hp => ?_⟩
        walk_at "go"
        refine fin (.set a t) _ p H10 _ rfl (Nat.le_of_ble_eq_true rfl) (sm_set (by omega) (by omega)) (k9.trans k10) s10 ((m8.draw k9).draw k10) hp fun H' rs' g1 g2 g3 g4 g5 => ?_
        exact ⟨rs', _, _, _, _, rfl, g1, g2, g3, g4, g5⟩
      refine r_isF (dI_F (by omega)) ?_
      walk_at "go"
      by_cases p1 : pick = 1
      · refine r_isT (dI_T (by omega)) ?_
        walk_at "go"
        refine m8.ty ?_
        walk_at "go"
        refine ⟨by show 3 ≤ sizeLine; decide, fun p hp => ?_⟩
        walk_at "go"
        refine fin (.move a b) _ p H8 _ rfl (Nat.le_of_ble_eq_true rfl) (sm_move (by omega) (by omega)) Keep.refl s8 m8 hp fun H' rs' g1 g2 g3 g4 g5 => ?_
        exact ⟨rs', _, _, _, _, rfl, g1, g2, g3, g4, g5⟩
      refine r_isF (dI_F (by omega)) ?_
      walk_at "go"
      by_cases p4 : pick < 4
      · refine r_isT (decide_eq_true (by omega)) ?_
        walk_at "go"
        refine m8.ty ?_
        walk_at "go"
        refine draw_d wide rfl hw0 (by omega) s8 fun c H9 hc9 k9 s9 => ?_
        walk_at "go"
        refine ⟨by show 4 ≤ sizeLine; decide, fun p hp => ?_⟩
        walk_at "go"
        refine fin (.cons a b c) _ p H9 _ rfl (Nat.le_of_ble_eq_true rfl) (sm_cons (by omega) (by omega) (by omega)) k9 s9 (m8.draw k9) hp fun H' rs' g1 g2 g3 g4 g5 => ?_
        exact ⟨rs', _, _, _, _, rfl, g1, g2, g3, g4, g5⟩
      refine r_isF (decide_eq_false (by omega)) ?_
      walk_at "go"
      by_cases p6 : pick < 6
      · refine r_isT (decide_eq_true (by omega)) ?_
        walk_at "go"
        refine m8.ty ?_
        walk_at "go"
        refine ⟨by show 2 ≤ sizeLine; decide, fun l hl => ?_⟩
        have s9 := same_new (o := .lst [V.str "head", .str "tail"]) hl
        have e9 : (upd H8 l (.lst [V.str "head", .str "tail"])) l = some (.lst [V.str "head", .str "tail"]) := upd_same
        generalize upd H8 l (.lst [V.str "head", .str "tail"]) = H9 at s9 e9
        have sd9 := s8.same s9
        have m9 := m8.keep s9
        walk_at "go"
        obtain rfl | rfl : pick = 4 ∨ pick = 5 := by omega
        · refine r_ixL e9 (j := 0) rfl rfl ?_
          walk_at "go"
          refine ⟨by show 3 ≤ sizeLine; decide, fun p hp => ?_⟩
          walk_at "go"
          refine fin (.head a b) _ p H9 _ rfl (Nat.le_of_ble_eq_true rfl) (sm_head (by omega) (by omega)) (same_keep s9) sd9 m9 hp fun H' rs' g1 g2 g3 g4 g5 => ?_
          exact ⟨rs', _, _, _, _, rfl, g1, g2, g3, g4, g5⟩
        · refine r_ixL e9 (j := 1) rfl rfl ?_
          walk_at "go"
          refine ⟨by show 3 ≤ sizeLine; decide, fun p hp => ?_⟩
          walk_at "go"
          refine fin (.tail a b) _ p H9 _ rfl (Nat.le_of_ble_eq_true rfl) (sm_tail (by omega) (by omega)) (same_keep s9) sd9 m9 hp fun H' rs' g1 g2 g3 g4 g5 => ?_
          exact ⟨rs', _, _, _, _, rfl, g1, g2, g3, g4, g5⟩
      refine r_isF (decide_eq_false (by omega)) ?_
      walk_at "go"
      have fwd : ∀ (H9 : Hp), Keep [s] H8 H9 → SD (f :: M) H9 s → ML (s :: M) H9 f rs → True := fun _ _ _ _ => trivial
      by_cases p66 : pick = 6
      · refine r_isT (dI_T (by omega)) ?_
        walk_at "go"
        refine draw_d 3 rfl (by decide) (by decide) s8 fun c H9 hc9 k9 s9 => ?_
        have m9 := m8.draw k9
        walk_at "go"
        refine r_2 (fun _ => ?_) (fun _ => ?_)
        · walk_at "go"
          refine m9.ty ?_
          walk_at "go"
          refine draw_d (i + 1) (by omega) (by omega) (by omega) s9 fun c H10 hc10 k10 s10 => ?_
          walk_at "go"
          refine ⟨by show 3 ≤ sizeLine; decide, fun p hp => ?_⟩
          walk_at "go"
          refine fin (.jump a (0 - (c : Int))) _ p H10 _ rfl (Nat.le_of_ble_eq_true rfl) (sm_jump (by omega) (by omega)) (k9.trans k10) s10 (m9.draw k10) hp fun H' rs' g1 g2 g3 g4 g5 => ?_
          exact ⟨rs', _, _, _, _, rfl, g1, g2, g3, g4, g5⟩
        · walk_at "go"
          refine m9.ty ?_
          walk_at "go"
          refine draw_d (many - i) (by omega) (by omega) (by omega) s9 fun c H10 hc10 k10 s10 => ?_
          walk_at "go"
          refine ⟨by show 3 ≤ sizeLine; decide, fun p hp => ?_⟩
          walk_at "go"
          refine fin (.jump a (1 + (c : Int))) _ p H10 _ rfl (Nat.le_of_ble_eq_true rfl) (sm_jump (by omega) (by omega)) (k9.trans k10) s10 (m9.draw k10) hp fun H' rs' g1 g2 g3 g4 g5 => ?_
          exact ⟨rs', _, _, _, _, rfl, g1, g2, g3, g4, g5⟩
      · refine r_isF (dI_F (by omega)) ?_
        walk_at "go"
        refine m8.ty ?_
        walk_at "go"
        refine draw_d (many - i) (by omega) (by omega) (by omega) s8 fun c H10 hc10 k10 s10 => ?_
        walk_at "go"
        refine ⟨by show 3 ≤ sizeLine; decide, fun p hp => ?_⟩
        walk_at "go"
        refine fin (.jump a (1 + (c : Int))) _ p H10 _ rfl (Nat.le_of_ble_eq_true rfl) (sm_jump (by omega) (by omega)) k10 s10 (m8.draw k10) hp fun H' rs' g1 g2 g3 g4 g5 => ?_
        exact ⟨rs', _, _, _, _, rfl, g1, g2, g3, g4, g5⟩
    · rintro σ H4 ⟨rs, x4, x5, x6, x7, rfl, q1, q2, q3, q4, q5⟩
      have q4 : rs.length = many := q4
      walk_at "go"
      exact k f rs H4 hfH ⟨by omega, by rw [q4]; exact q5⟩ q1 q2.drop q3.pr
end
end K38
set_option Elab.async false
set_option linter.all false
set_option maxRecDepth 100000
set_option maxHeartbeats 4000000
namespace K38
open PySem PySem.Spec PyProof.Rows L2 He SX
/-! ### the walk's own steps -/
local macro_rules | `(tactic| walk_at "hp") => `(tactic| first
  | assumption
  | with_reducible exact upd_same
  | (refine Eq.trans (upd_ne (by first | assumption | exact Ne.symm (by assumption))) ?_; walk_at "hp"))
local macro_rules | `(tactic| walk_at "st0") => `(tactic| with_reducible first
  | refine r_seq ?_ | refine r_asg ?_ | ((refine r_var (v := ?v) ?h ?_); (case h => with_unfolding_all exact rfl)) | refine r_c ?_ | refine r_op ?_ | refine r_cons ?_ | refine r_nil ?_ | refine r_gname ?_ | refine r_cb ?_ | refine r_call ?_
  | refine r_if ?_ | refine r_ret ?_ | refine r_test ?_ | refine r_bl ?_ | refine r_I0 ?_ | ((refine r_eq ?h ?_); (case h => with_unfolding_all exact rfl)) | ((refine r_ne ?h ?_); (case h => with_unfolding_all exact rfl))
  | refine r_T ?_ | refine r_F ?_ | refine r_nT ?_ | refine r_nF ?_ | refine r_not ?_ | refine r_and ?_ | refine r_or ?_ | refine r_B ?_ | refine r_next ?_ | refine r_drop ?_ | refine r_tup ?_ | refine r_bm ?_ | refine r_bm0 ?_
  | refine r_chain ?_ | refine r_andV ?_ | refine r_notV ?_ | refine r_isN ?_ | refine r_notN ?_ | refine r_dget ?_ | refine r_din ?_ | refine r_dnotin ?_ | refine r_un ?_ | refine r_rU ?_ | refine r_gsub ?_
  | ((refine r_aug (x := ?x) ?h ?_); (case h => with_unfolding_all exact rfl)) | refine r_ipI ?_ | refine r_for ?_ | refine r_lc ?_ | refine r_iList ?_ | refine r_iTup ?_ | refine r_iStr ?_ | refine r_iRng1 ?_ | refine r_iRng2 ?_ | refine r_iEnum ?_ | ((refine r_wipe ?h ?_); (case h => with_unfolding_all exact rfl)) | refine r_yes ?_ | refine r_rng ?_ | refine r_part ?_ | refine r_nopart ?_ | refine r_exi ?_ | refine r_int1 ?_ | refine r_abs ?_ | refine r_m1 ?_ | refine r_pairs ?_ | refine r_pairs0 ?_ | refine r_dput ?_ | refine r_trk ?_ | ((refine r_ixT0 (xs := ?xs) (v := ?v) ?h ?hv ?_); (case h => walk_at "hp"); (case hv => with_unfolding_all exact rfl)) | ((refine r_ixT1 (xs := ?xs) (v := ?v) ?h ?hv ?_); (case h => walk_at "hp"); (case hv => with_unfolding_all exact rfl)) | ((refine r_ixT2 (xs := ?xs) (v := ?v) ?h ?hv ?_); (case h => walk_at "hp"); (case hv => with_unfolding_all exact rfl)) | ((refine r_ixT3 (xs := ?xs) (v := ?v) ?h ?hv ?_); (case h => walk_at "hp"); (case hv => with_unfolding_all exact rfl)) | refine r_strv ?_)
local macro_rules | `(tactic| walk_at "st") => `(tactic| first | walk_at "st0" | with_reducible refine r_lst ?_)
local macro_rules | `(tactic| walk_at "g0") => `(tactic| repeat walk_at "st0")
local macro_rules | `(tactic| walk_at "go") => `(tactic| repeat walk_at "st")
local macro_rules | `(tactic| walk_at "dk") => `(tactic| first | refine r_isT (by decide +kernel) ?_ | refine r_isF (by decide +kernel) ?_)
local macro_rules | `(tactic| walk_at "gd") => `(tactic| repeat first | walk_at "st" | walk_at "dk")
local macro_rules | `(tactic| walk_at "row") => `(tactic| exact re_tup (fun _ _ _ q => by (walk_at "go"; exact q)) rfl (Nat.le_of_ble_eq_true rfl))
section
variable {H H' : Hp} {Q : VK} {M : List Addr} {s f p : Addr} {rs : List Row} {r : Row} {xs vs : List V}
theorem app_lc {Nx : Hp → Prop} (e : xs = r.vals) (hx : xs.length ≤ 10) (hp : H p = none) (m : ML (s :: M) H f rs) (hs : SD (f :: M) H s) (hl : rs.length ≤ 10000)
    (k : ∀ H', Keep [f] H H' → ML (s :: M) H' f (rs ++ [r]) → SD (f :: M) H' s → Nx H') : ∃ acc, (upd H p (.tup xs)) f = some (.lst acc) ∧ acc.length < sizeLine ∧ Nx (upd (upd H p (.tup xs)) f (.lst (acc ++ [.ref p]))) := by
  obtain ⟨p', us, y, e1, e2, e3, e4, q⟩ := app_row (Q := fun _ H' => Nx H') e hx hp m hs hl k
  injection e1 with e1
  injection e2 with e2 _
  subst e1 e2
  exact ⟨us, e3, e4, q⟩
theorem sm_nil {n : Nat} : ∀ (j : Nat) (r : Row), ([] : List Row)[j]? = some r → r.small j n := fun j r e => by simp at e
/-- a written list of rows is the answer -/
theorem prog_fin {H0 : Hp} (d : SD M H s) (hk : Keep [s] H0 H) (u : RowsAt (s :: M) H vs rs) {L : Nat} (hL : Sm L rs)
    (k : ∀ (p : Addr) (rs : List Row) (H' : Hp), H0 p = none → Sm L rs → Keep [s] H0 H' → SD M H' s → PrAt (s :: M) H' p rs → Q (.ref p) H') (hq : H p = none) : Q (.ref p) (upd H p (.lst vs)) :=
  k p rs _ (hk.free (fun m hm => by rw [List.mem_singleton.mp hm]; exact d.at_.live) hq) hL (hk.trans (Keep.new hq)) (d.same (same_new hq)) (pr_new d.dom hq u)
end
section
variable {P : Program} {w : World} {K : PySem.W.Frag} {mg : Str → Option Value} {base : Heap}
abbrev sp_law_short_program : Sp := sp_prog 8
theorem law_short_program_ok (T : Txt w K mg) : Cal P w K mg base 8 "_law_short_program" sp_law_short_program := by
  refine mkCal T.f_law_short_program T.g_law_short_program sc_law_short_program (fun _ _ _ _ _ _ us hl => match us, hl with | [_], _ => rfl) (fun vs H Q E h => ?_) (fun cdv A outer s H vs Q E hr h => ?_)
  · obtain ⟨M, s, rfl, _⟩ := h
    rfl
  · obtain ⟨M, s, rfl, hs, k⟩ := h
    refine ⟨_,
      (pss_cons (ps_st 1 sc_law_short_program.nd (pe_op op_add pe_int (pe_c (law_draw_ok T) hr (by decide) rfl (pa_cons (pv 0) (pa_cons pe_int pa_nil)))))
      (pss_cons (ps_st 2 sc_law_short_program.nd (pe_c (law_draw_ok T) hr (by decide) rfl (pa_cons (pv 0) (pa_cons pe_int pa_nil))))
      (pss_cons (ps_if (pt_cmpR op_eq (pv 2) pe_int (nomark _)) 
          (pss_one (ps_ret (pe_lc (own := [(("_law_k" : Str), 3)]) (by rfl) sc_law_short_program.nd (pi_range1 (by rfl) T.n_range (pa_cons (pe_c (law_draw_ok T) hr (by decide) rfl (pa_cons (pv 0) (pa_cons pe_int pa_nil))) pa_nil)) (blkOk_by (own := [(("_law_k" : Str), 3)]) (N := names_law_short_program) (sc := defScope s_law_short_program) (by decide +kernel)) (fun _ _ _ _ _ => (pg_nm 3 sc_law_short_program.nd)) (fun _ _ _ _ _ => pts_nil) (fun _ _ _ _ _ => (pe_tup (pa_cons (pe_ilk K (pe_lst (pa_cons pe_str (pa_cons pe_str pa_nil))) (pe_c (law_draw_ok T) hr (by decide) rfl (pa_cons (pv 0) (pa_cons pe_int pa_nil)))) (pa_cons pe_int (pa_cons pe_int pa_nil)))))))) pss_nil)
      (pss_cons (ps_if (pt_cmpR op_eq (pv 2) pe_int (nomark _)) 
          (pss_one (ps_ret (pe_lst (pa_cons (pe_tup (pa_cons pe_str (pa_cons pe_int (pa_cons (pe_c (law_tree_ok T) hr (by decide) rfl (pa_cons (pv 0) (pa_cons (pe_c (law_draw_ok T) hr (by decide) rfl (pa_cons (pv 0) (pa_cons pe_int pa_nil))) pa_nil))) pa_nil)))) pa_nil)))) pss_nil)
      (pss_cons (ps_if (pt_cmpR op_eq (pv 2) pe_int (nomark _)) 
          (pss_one (ps_ret (pe_lst (pa_cons (pe_tup (pa_cons pe_str (pa_cons pe_int (pa_cons (pe_c (law_draw_ok T) hr (by decide) rfl (pa_cons (pv 0) (pa_cons pe_int pa_nil))) (pa_cons pe_int pa_nil))))) pa_nil)))) pss_nil)
      (pss_cons (ps_if (pt_cmpR op_eq (pv 2) pe_int (nomark _)) 
          (pss_one (ps_ret (pe_lst (pa_cons (pe_tup (pa_cons pe_str (pa_cons (pv 1) (pa_cons pe_int pa_nil)))) (pa_cons (pe_tup (pa_cons pe_str (pa_cons (pe_op op_add (pv 1) pe_int) (pa_cons pe_int pa_nil)))) (pa_cons (pe_tup (pa_cons pe_str (pa_cons pe_int (pa_cons (pe_op op_add (pv 1) pe_int) (pa_cons (pv 1) pa_nil))))) pa_nil)))))) pss_nil)
      (pss_cons (ps_if (pt_cmpR op_eq (pv 2) pe_int (nomark _)) 
          (pss_one (ps_ret (pe_lst (pa_cons (pe_tup (pa_cons pe_str (pa_cons (pv 1) (pa_cons (pe_c (law_tree_ok T) hr (by decide) rfl (pa_cons (pv 0) (pa_cons (pe_op op_add pe_int (pe_c (law_draw_ok T) hr (by decide) rfl (pa_cons (pv 0) (pa_cons pe_int pa_nil)))) pa_nil))) pa_nil)))) (pa_cons (pe_tup (pa_cons pe_str (pa_cons (pv 1) (pa_cons pe_int pa_nil)))) pa_nil))))) pss_nil)
      (pss_cons (ps_if (pt_cmpR op_eq (pv 2) pe_int (nomark _)) 
          (pss_one (ps_ret (pe_lst (pa_cons (pe_tup (pa_cons pe_str (pa_cons pe_int (pa_cons pe_int pa_nil)))) (pa_cons (pe_tup (pa_cons pe_str (pa_cons pe_int (pa_cons (pe_un un_neg pe_int) pa_nil)))) (pa_cons (pe_tup (pa_cons pe_str (pa_cons pe_int (pa_cons (pe_c (law_tree_ok T) hr (by decide) rfl (pa_cons (pv 0) (pa_cons (pe_c (law_draw_ok T) hr (by decide) rfl (pa_cons (pv 0) (pa_cons pe_int pa_nil))) pa_nil))) pa_nil)))) pa_nil)))))) pss_nil)
      (pss_one (ps_ret (pe_lst (pa_cons (pe_tup (pa_cons pe_str (pa_cons (pv 1) (pa_cons pe_int pa_nil)))) (pa_cons (pe_tup (pa_cons pe_str (pa_cons (pv 1) (pa_cons pe_int pa_nil)))) (pa_cons (pe_tup (pa_cons pe_str (pa_cons pe_int (pa_cons pe_int pa_nil)))) (pa_cons (pe_tup (pa_cons pe_str (pa_cons pe_int (pa_cons pe_int (pa_cons (pv 1) pa_nil))))) pa_nil))))))))))))))), ?_⟩
    walk_at "go"
    refine draw_d 3 rfl (by decide) (by decide) hs fun a0 H1 ha0 k1 s1 => ?_
    walk_at "go"
    rw [show (1 : Int) + (a0 : Int) = ((1 + a0 : Nat) : Int) by omega]
    have ha : 1 + a0 ≤ 3 ∧ 1 ≤ 1 + a0 := by omega
    generalize 1 + a0 = a at ha
    refine draw_d 7 rfl (by decide) (by decide) s1 fun pick H2 hpk k2 s2 => ?_
    have kk2 := k1.trans k2
    walk_at "go"
    by_cases p0 : pick = 0
    · refine r_isT (dI_T (by omega)) ?_
      walk_at "go"
      refine draw_d 4 rfl (by decide) (by decide) s2 fun many H3 hm k3 s3 => ?_
      have kk3 := kk2.trans k3
      walk_at "go"
      refine ⟨_, rfl, by omega, by omega, fun D hD => ?_⟩
      have hDH : H D = none := kk3.free (fun m hm => by rw [List.mem_singleton.mp hm]; exact s3.at_.live) hD
      refine lc_it walk_range (fun i H' => ∃ rs : List Row, Keep [s] H H' ∧ SD (D :: M) H' s ∧ ML (s :: M) H' D rs ∧ rs.length = i ∧ ∀ (j : Nat) (r : Row), rs[j]? = some r → r.small j many)
        ⟨[], kk3.trans (Keep.new hD), s3.fresh hD (same_new hD) (by rw [upd_same]; intro z; cases z), ⟨s3.dom.out hD, [], upd_same, .nil⟩, rfl, sm_nil⟩ (fun _ _ _ _ => trivial) ?_ ?_
      · rintro i v H4 H5 hi ⟨rs, q1, q2, q3, q4, q5⟩ ⟨rfl, rfl⟩
        have hi' : i < many := by omega
        walk_at "go"
        refine ⟨by show 2 ≤ sizeLine; decide, fun l hl => ?_⟩
        have s9 := same_new (o := .lst [V.str "head", .str "tail"]) hl
        have e9 : (upd H5 l (.lst [V.str "head", .str "tail"])) l = some (.lst [V.str "head", .str "tail"]) := upd_same
        generalize upd H5 l (.lst [V.str "head", .str "tail"]) = H6 at s9 e9
        have sd9 := q2.same s9
        have m9 := q3.keep s9
        have lns : l ≠ s := fun z => q2.at_.live (z ▸ hl)
        walk_at "go"
        refine draw_d 2 rfl (by decide) (by decide) sd9 fun c H7 hc k7 s7 => ?_
        have m7 := m9.draw k7
        have e7 := k7 _ _ e9 (by simpa using lns)
        have kk7 := (q1.trans (same_keep s9)).trans k7
        walk_at "go"
        obtain rfl | rfl : c = 0 ∨ c = 1 := by omega
        · refine r_ixL e7 (j := 0) rfl rfl ?_
          walk_at "go"
          refine ⟨by show 3 ≤ sizeLine; decide, fun p hp => ?_⟩
          refine app_lc (Nx := fun H' => ∃ rs : List Row, Keep [s] H H' ∧ SD (D :: M) H' s ∧ ML (s :: M) H' D rs ∧ rs.length = i + 1 ∧ ∀ (j : Nat) (r : Row), rs[j]? = some r → r.small j many) (xs := [.str "head", .int 0, .int 0]) (r := .head 0 0) rfl (Nat.le_of_ble_eq_true rfl) hp m7 s7 (by omega) fun H' kf m' s' => ⟨_, ?_, s', m', by simp [q4], sm_snoc q5 (sm_head (by decide) (by decide))⟩
          exact Keep.drop (M := [s]) (H1 := H) Keep.refl hDH ((kk7.mono (fun x hx => by simp [List.mem_singleton.mp hx])).trans (kf.mono fun x hx => by simp [List.mem_singleton.mp hx]))
        · refine r_ixL e7 (j := 1) rfl rfl ?_
          walk_at "go"
          refine ⟨by show 3 ≤ sizeLine; decide, fun p hp => ?_⟩
          refine app_lc (Nx := fun H' => ∃ rs : List Row, Keep [s] H H' ∧ SD (D :: M) H' s ∧ ML (s :: M) H' D rs ∧ rs.length = i + 1 ∧ ∀ (j : Nat) (r : Row), rs[j]? = some r → r.small j many) (xs := [.str "tail", .int 0, .int 0]) (r := .tail 0 0) rfl (Nat.le_of_ble_eq_true rfl) hp m7 s7 (by omega) fun H' kf m' s' => ⟨_, ?_, s', m', by simp [q4], sm_snoc q5 (sm_tail (by decide) (by decide))⟩
          exact Keep.drop (M := [s]) (H1 := H) Keep.refl hDH ((kk7.mono (fun x hx => by simp [List.mem_singleton.mp hx])).trans (kf.mono fun x hx => by simp [List.mem_singleton.mp hx]))
      · rintro H4 ⟨rs, q1, q2, q3, q4, q5⟩
        have q4 : rs.length = many := q4
        exact k D rs H4 hDH ⟨by omega, by rw [q4]; exact q5⟩ q1 q2.drop q3.pr
    refine r_isF (dI_F (by omega)) ?_
    walk_at "go"
    by_cases p1 : pick = 1
    · refine r_isT (dI_T (by omega)) ?_
      walk_at "go"
      refine draw_d 4 rfl (by decide) (by decide) s2 fun c H3 hc k3 s3 => ?_
      walk_at "go"
      refine tree_d c rfl (by omega) s3 fun t H4 ht k4 s4 => ?_
      walk_at "go"
      refine ⟨by show 3 ≤ sizeLine; decide, fun p hp => ?_⟩
      have r5 : RowAt (s :: M) _ _ _ := row_new (r := .set 0 t) s4.dom hp rfl
      have s5 := same_new (o := .tup (Row.set 0 t).vals) hp
      walk_at "go"
      refine ⟨by show 1 ≤ sizeLine; decide, fun q hq => ?_⟩
      exact prog_fin (rs := [.set 0 t]) (s4.same s5) (((kk2.trans k3).trans k4).trans (same_keep s5)) (.cons r5 .nil) ⟨by show 1 ≤ 8; decide, sm_snoc sm_nil (sm_set (by decide) (by omega))⟩ k hq
    refine r_isF (dI_F (by omega)) ?_
    walk_at "go"
    by_cases p2 : pick = 2
    · refine r_isT (dI_T (by omega)) ?_
      walk_at "go"
      refine draw_d 2 rfl (by decide) (by decide) s2 fun c H3 hc k3 s3 => ?_
      walk_at "go"
      refine ⟨by show 4 ≤ sizeLine; decide, fun p hp => ?_⟩
      have r5 : RowAt (s :: M) _ _ _ := row_new (r := .cons 0 c 0) s3.dom hp rfl
      have s5 := same_new (o := .tup (Row.cons 0 c 0).vals) hp
      walk_at "go"
      refine ⟨by show 1 ≤ sizeLine; decide, fun q hq => ?_⟩
      exact prog_fin (rs := [.cons 0 c 0]) (s3.same s5) ((kk2.trans k3).trans (same_keep s5)) (.cons r5 .nil) ⟨by show 1 ≤ 8; decide, sm_snoc sm_nil (sm_cons (by decide) (by omega) (by decide))⟩ k hq
    refine r_isF (dI_F (by omega)) ?_
    walk_at "go"
    by_cases p3 : pick = 3
    · refine r_isT (dI_T (by omega)) ?_
      walk_at "g0"
      refine rd_lst (rs := [.head a 0, .tail (a + 1) 0, .cons 0 (a + 1) a]) (RD.cons (by walk_at "row") (RD.cons (by walk_at "row") (RD.cons (by walk_at "row") RD.nil))) (Nat.le_of_ble_eq_true rfl) s2.dom fun p H3 hp t3 e3 => ?_
      exact k p _ H3 (kk2.free (fun m hm => by rw [List.mem_singleton.mp hm]; exact s2.at_.live) hp) ⟨by show 3 ≤ 8; decide, sm_snoc (sm_snoc (sm_snoc sm_nil (sm_head (by omega) (by decide))) (sm_tail (by omega) (by decide))) (sm_cons (by decide) (by omega) (by omega))⟩ (kk2.trans (same_keep t3)) (s2.same t3) e3
    refine r_isF (dI_F (by omega)) ?_
    walk_at "go"
    by_cases p4 : pick = 4
    · refine r_isT (dI_T (by omega)) ?_
      walk_at "go"
      refine draw_d 2 rfl (by decide) (by decide) s2 fun c H3 hc k3 s3 => ?_
      walk_at "go"
      refine tree_d (1 + c) (by omega) (by omega) s3 fun t H4 ht k4 s4 => ?_
      walk_at "go"
      refine ⟨by show 3 ≤ sizeLine; decide, fun p hp => ?_⟩
      have r5 : RowAt (s :: M) _ _ _ := row_new (r := .set a t) s4.dom hp rfl
      have s5 := same_new (o := .tup (Row.set a t).vals) hp
      have s4' := s4.same s5
      walk_at "go"
      refine ⟨by show 3 ≤ sizeLine; decide, fun p' hp' => ?_⟩
      have r6 : RowAt (s :: M) _ _ _ := row_new (r := .jump a 0) s4'.dom hp' rfl
      have s6 := same_new (o := .tup (Row.jump a 0).vals) hp'
      walk_at "go"
      refine ⟨by show 2 ≤ sizeLine; decide, fun q hq => ?_⟩
      exact prog_fin (rs := [.set a t, .jump a 0]) (s4'.same s6) ((((kk2.trans k3).trans k4).trans (same_keep s5)).trans (same_keep s6)) (.cons (r5.keep (same_keep s6)) (.cons r6 .nil)) ⟨by show 2 ≤ 8; decide, sm_snoc (sm_snoc sm_nil (sm_set (by omega) (by omega))) (sm_jump (by omega) (by simp))⟩ k hq
    refine r_isF (dI_F (by omega)) ?_
    walk_at "go"
    by_cases p5 : pick = 5
    · refine r_isT (dI_T (by omega)) ?_
      walk_at "go"
      refine ⟨by show 3 ≤ sizeLine; decide, fun p hp => ?_⟩
      have r3 : RowAt (s :: M) _ _ _ := row_new (r := .tail 0 0) s2.dom hp rfl
      have s3 := same_new (o := .tup (Row.tail 0 0).vals) hp
      have s2' := s2.same s3
      walk_at "go"
      refine ⟨by show 3 ≤ sizeLine; decide, fun p' hp' => ?_⟩
      have r4 : RowAt (s :: M) _ _ _ := row_new (r := .jump 0 (-1)) s2'.dom hp' rfl
      have s4 := same_new (o := .tup (Row.jump 0 (-1)).vals) hp'
      have s2'' := s2'.same s4
      walk_at "go"
      refine draw_d 3 rfl (by decide) (by decide) s2'' fun c H5 hc k5 s5 => ?_
      walk_at "go"
      refine tree_d c (by omega) (by omega) s5 fun t H6 ht k6 s6 => ?_
      walk_at "go"
      refine ⟨by show 3 ≤ sizeLine; decide, fun p'' hp'' => ?_⟩
      have r7 : RowAt (s :: M) _ _ _ := row_new (r := .set 0 t) s6.dom hp'' rfl
      have s7 := same_new (o := .tup (Row.set 0 t).vals) hp''
      walk_at "go"
      refine ⟨by show 3 ≤ sizeLine; decide, fun q hq => ?_⟩
      have kq : Keep [s] _ _ := (k5.trans k6).trans (same_keep s7)
      have kq' := kq.mono (M' := s :: M) (fun x hx => by simp [List.mem_singleton.mp hx])
      exact prog_fin (rs := [.tail 0 0, .jump 0 (-1), .set 0 t]) (s6.same s7) ((kk2.trans (same_keep (s3.trans s4))).trans kq) (.cons ((r3.keep (same_keep s4)).keep kq') (.cons (r4.keep kq') (.cons r7 .nil))) ⟨by show 3 ≤ 8; decide, sm_snoc (sm_snoc (sm_snoc sm_nil (sm_tail (by decide) (by decide))) (sm_jump (by decide) (by simp))) (sm_set (by decide) (by omega))⟩ k hq
    refine r_isF (dI_F (by omega)) ?_
    walk_at "g0"
    refine rd_lst (rs := [.tail a 0, .jump a 2, .jump 0 0, .cons 0 0 a]) (RD.cons (by walk_at "row") (RD.cons (by walk_at "row") (RD.cons (by walk_at "row") (RD.cons (by walk_at "row") RD.nil)))) (Nat.le_of_ble_eq_true rfl) s2.dom fun p H3 hp t3 e3 => ?_
    exact k p _ H3 (kk2.free (fun m hm => by rw [List.mem_singleton.mp hm]; exact s2.at_.live) hp) ⟨by show 4 ≤ 8; decide, sm_snoc (sm_snoc (sm_snoc (sm_snoc sm_nil (sm_tail (by omega) (by decide))) (sm_jump (by omega) (by simp))) (sm_jump (by omega) (by simp))) (sm_cons (by decide) (by decide) (by omega))⟩ (kk2.trans (same_keep t3)) (s2.same t3) e3
abbrev sp_law_program : Sp := sp_prog 8
theorem law_program_ok (T : Txt w K mg) : Cal P w K mg base 9 "_law_program" sp_law_program := by
  refine mkCal T.f_law_program T.g_law_program sc_law_program (fun _ _ _ _ _ _ us hl => match us, hl with | [_], _ => rfl) (fun vs H Q E h => ?_) (fun cdv A outer s H vs Q E hr h => ?_)
  · obtain ⟨M, s, rfl, _⟩ := h
    rfl
  · obtain ⟨M, s, rfl, hs, k⟩ := h
    refine ⟨_,
      (pss_cons (ps_if (pt_cmpR op_eq (pe_c (law_draw_ok T) hr (by decide) rfl (pa_cons (pv 0) (pa_cons pe_int pa_nil))) pe_int (nomark _)) 
          (pss_one (ps_ret (pe_c (law_short_program_ok T) hr (by decide) rfl (pa_cons (pv 0) pa_nil)))) pss_nil)
      (pss_one (ps_ret (pe_c (law_random_program_ok T) hr (by decide) rfl (pa_cons (pv 0) pa_nil))))), ?_⟩
    walk_at "go"
    refine draw_d 3 rfl (by decide) (by decide) hs fun c H1 hc k1 s1 => ?_
    walk_at "go"
    refine r_2 (fun _ => ?_) (fun _ => ?_)
    · walk_at "go"
      exact ⟨M, s, rfl, s1, fun p rs H' hp hr kk ss pr => k p rs H' (k1.free (fun m hm => by rw [List.mem_singleton.mp hm]; exact s1.at_.live) hp) hr (k1.trans kk) ss pr⟩
    · walk_at "go"
      exact ⟨M, s, rfl, s1, fun p rs H' hp hr kk ss pr => k p rs H' (k1.free (fun m hm => by rw [List.mem_singleton.mp hm]; exact s1.at_.live) hp) hr (k1.trans kk) ss pr⟩
end
end K38
set_option Elab.async false
set_option linter.all false
set_option maxRecDepth 100000
set_option maxHeartbeats 4000000
namespace K38
open PySem PySem.Spec PyProof.Rows L2 He SX
/-! ### the walk's own steps -/
local macro_rules | `(tactic| walk_at "hp") => `(tactic| first
  | assumption
  | with_reducible exact upd_same
  | (refine Eq.trans (upd_ne (by first | assumption | exact Ne.symm (by assumption))) ?_; walk_at "hp"))
local macro_rules | `(tactic| walk_at "st0") => `(tactic| with_reducible first
  | refine r_seq ?_ | refine r_asg ?_ | ((refine r_var (v := ?v) ?h ?_); (case h => with_unfolding_all exact rfl)) | refine r_c ?_ | refine r_op ?_ | refine r_cons ?_ | refine r_nil ?_ | refine r_gname ?_ | refine r_cb ?_ | refine r_call ?_
  | refine r_if ?_ | refine r_ret ?_ | refine r_test ?_ | refine r_bl ?_ | refine r_I0 ?_ | ((refine r_eq ?h ?_); (case h => with_unfolding_all exact rfl)) | ((refine r_ne ?h ?_); (case h => with_unfolding_all exact rfl))
  | refine r_T ?_ | refine r_F ?_ | refine r_nT ?_ | refine r_nF ?_ | refine r_not ?_ | refine r_and ?_ | refine r_or ?_ | refine r_B ?_ | refine r_next ?_ | refine r_drop ?_ | refine r_tup ?_ | refine r_bm ?_ | refine r_bm0 ?_
  | refine r_chain ?_ | refine r_andV ?_ | refine r_notV ?_ | refine r_isN ?_ | refine r_notN ?_ | refine r_dget ?_ | refine r_din ?_ | refine r_dnotin ?_ | refine r_un ?_ | refine r_rU ?_ | refine r_gsub ?_
  | ((refine r_aug (x := ?x) ?h ?_); (case h => with_unfolding_all exact rfl)) | refine r_ipI ?_ | refine r_for ?_ | refine r_lc ?_ | refine r_iList ?_ | refine r_iTup ?_ | refine r_iStr ?_ | refine r_iRng1 ?_ | refine r_iRng2 ?_ | refine r_iEnum ?_ | ((refine r_wipe ?h ?_); (case h => with_unfolding_all exact rfl)) | refine r_yes ?_ | refine r_rng ?_ | refine r_part ?_ | refine r_nopart ?_ | refine r_exi ?_ | refine r_int1 ?_ | refine r_abs ?_ | refine r_m1 ?_ | refine r_pairs ?_ | refine r_pairs0 ?_ | refine r_dput ?_ | refine r_trk ?_ | ((refine r_ixT0 (xs := ?xs) (v := ?v) ?h ?hv ?_); (case h => walk_at "hp"); (case hv => with_unfolding_all exact rfl)) | ((refine r_ixT1 (xs := ?xs) (v := ?v) ?h ?hv ?_); (case h => walk_at "hp"); (case hv => with_unfolding_all exact rfl)) | ((refine r_ixT2 (xs := ?xs) (v := ?v) ?h ?hv ?_); (case h => walk_at "hp"); (case hv => with_unfolding_all exact rfl)) | ((refine r_ixT3 (xs := ?xs) (v := ?v) ?h ?hv ?_); (case h => walk_at "hp"); (case hv => with_unfolding_all exact rfl)) | refine r_strv ?_)
local macro_rules | `(tactic| walk_at "st") => `(tactic| first | walk_at "st0" | with_reducible refine r_lst ?_)
local macro_rules | `(tactic| walk_at "g0") => `(tactic| repeat walk_at "st0")
local macro_rules | `(tactic| walk_at "go") => `(tactic| repeat walk_at "st")
local macro_rules | `(tactic| walk_at "dk") => `(tactic| first | refine r_isT (by decide +kernel) ?_ | refine r_isF (by decide +kernel) ?_)
local macro_rules | `(tactic| walk_at "gd") => `(tactic| repeat first | walk_at "st" | walk_at "dk")
local macro_rules | `(tactic| walk_at "row") => `(tactic| exact re_tup (fun _ _ _ q => by (walk_at "go"; exact q)) rfl (Nat.le_of_ble_eq_true rfl))
section
variable {H H' : Hp} {Q : VK} {M : List Addr} {s f p : Addr} {rs : List Row} {r : Row} {xs vs : List V} {L : Nat}
theorem Sm.mono {L' : Nat} (h : Sm L rs) (k : L ≤ L') : Sm L' rs := ⟨Nat.le_trans h.len k, h.rows⟩
theorem r_mulSt {l : List Nat} {z : Int} {k : Nat} (hz : z = (k : Int)) (h : l.length * k ≤ 1000000) (hk : k ≤ 1000000) (q : Q (.str (S (List.replicate k l).flatten)) H) : rMulS (.str (S l)) (.int z) H Q := ⟨l, k, rfl, by rw [hz], h, hk, q⟩
theorem rows_rep {v : V} (h : RowAt M H v r) : ∀ k, RowsAt M H (List.replicate k [v]).flatten (List.replicate k r)
  | 0 => .nil
  | k + 1 => .cons h (rows_rep h k)
theorem small_app {a b : List Row} {i : Nat} {r : Row} {n : Nat} (ha : ∀ (i : Nat) (r : Row), a[i]? = some r → r.small i a.length) (hb : ∀ (i : Nat) (r : Row), b[i]? = some r → r.small i b.length) (e : (a ++ b)[i]? = some r) : r.small i (a ++ b).length := by
  rw [List.length_append]
  by_cases hi : i < a.length
  · rw [List.getElem?_append_left hi] at e
    obtain ⟨h1, h2, h3⟩ := ha i r e
    refine ⟨h1, h2, fun x k hk => ?_⟩
    have := h3 x k hk
    omega
  · rw [List.getElem?_append_right (by omega)] at e
    obtain ⟨h1, h2, h3⟩ := hb _ r e
    refine ⟨h1, h2, fun x k hk => ?_⟩
    have := h3 x k hk
    omega
theorem Sm.app {a b : List Row} {La Lb : Nat} (ha : Sm La a) (hb : Sm Lb b) : Sm (La + Lb) (a ++ b) := ⟨by rw [List.length_append]; have := ha.len; have := hb.len; omega, fun i r e => small_app (n := 0) ha.rows hb.rows e⟩
theorem sm_moves (k : Nat) : Sm k (List.replicate k (.move 15 15)) := ⟨by simp, fun i r e => by
  have hm : r ∈ List.replicate k (Row.move 15 15) := List.mem_of_getElem? e
  rw [(List.mem_replicate.mp hm).2]
  exact sm_move (by decide) (by decide)⟩
/-! texts of trees -/
def comb : Nat → Tr
  | 0 => .lf
  | n + 1 => .nd (comb n) .lf
theorem comb_enc : ∀ n, (comb n).enc = (List.replicate n [49]).flatten ++ (List.replicate (n + 1) [48]).flatten
  | 0 => rfl
  | n + 1 => by
    show 49 :: ((comb n).enc ++ [48]) = _
    rw [comb_enc n, List.replicate_succ, List.flatten_cons, List.replicate_succ' (n := n + 1), List.flatten_append]
    show 49 :: (((List.replicate n [49]).flatten ++ (List.replicate (n + 1) [48]).flatten) ++ [48]) = 49 :: ((List.replicate n [49]).flatten ++ ((List.replicate (n + 1) [48]).flatten ++ [48]))
    rw [List.append_assoc]
theorem comb_sz : ∀ n, (comb n).sz = 2 * n + 1
  | 0 => rfl
  | n + 1 => by
    show 1 + (comb n).sz + 1 = _
    rw [comb_sz n]
    omega
theorem ones_enc : ∀ n, (lst (List.replicate n one)).enc = (List.replicate n [49, 49, 48, 48]).flatten ++ [48]
  | 0 => rfl
  | n + 1 => by
    show 49 :: (one.enc ++ (lst (List.replicate n one)).enc) = _
    rw [ones_enc n, List.replicate_succ, List.flatten_cons]
    rfl
theorem ones_sz : ∀ n, (lst (List.replicate n one)).sz = 4 * n + 1
  | 0 => rfl
  | n + 1 => by
    show 1 + one.sz + (lst (List.replicate n one)).sz = _
    rw [ones_sz n]
    show 1 + 3 + _ = _
    omega
theorem flat_len {k c : Nat} {l : List Nat} (h : l.length = c) : (List.replicate k l).flatten.length = k * c := by
  induction k with
  | zero => simp
  | succ k ih =>
    rw [List.replicate_succ, List.flatten_cons, List.length_append, ih, h]
    rw [Nat.succ_mul]
    omega
end
section
variable {P : Program} {w : World} {K : PySem.W.Frag} {mg : Str → Option Value} {base : Heap}
abbrev sp_law_decider : Sp := sp_prog 11
theorem law_decider_ok (T : Txt w K mg) : Cal P w K mg base 10 "_law_decider" sp_law_decider := by
  refine mkCal T.f_law_decider T.g_law_decider sc_law_decider (fun _ _ _ _ _ _ us hl => match us, hl with | [_], _ => rfl) (fun vs H Q E h => ?_) (fun cdv A outer s H vs Q E hr h => ?_)
  · obtain ⟨M, s, rfl, _⟩ := h
    rfl
  · obtain ⟨M, s, rfl, hs, k⟩ := h
    refine ⟨_,
      (pss_cons (ps_st 1 sc_law_decider.nd (pe_c (law_draw_ok T) hr (by decide) rfl (pa_cons (pv 0) (pa_cons pe_int pa_nil))))
      (pss_cons (ps_if (pt_cmpR op_eq (pv 1) pe_int (nomark _)) 
          (pss_one (ps_ret (pe_lst (pa_cons (pe_tup (pa_cons pe_str (pa_cons pe_int (pa_cons (pe_il (pe_lst (pa_cons pe_str (pa_cons pe_str pa_nil))) (pe_c (law_draw_ok T) hr (by decide) rfl (pa_cons (pv 0) (pa_cons pe_int pa_nil)))) pa_nil)))) pa_nil)))) pss_nil)
      (pss_cons (ps_if (pt_cmpR op_eq (pv 1) pe_int (nomark _)) 
          (pss_cons (ps_st 2 sc_law_decider.nd (pe_lst pa_nil))
          (pss_cons (ps_for PassesOwn.never rfl (pi_range1 (by rfl) T.n_range (pa_cons (pe_c (law_draw_ok T) hr (by decide) rfl (pa_cons (pv 0) (pa_cons pe_int pa_nil))) pa_nil)) (pg_nm 3 sc_law_decider.nd) 
              (pss_one (ps_expr (pe_app (pv 2) (pe_tup (pa_cons (pe_il (pe_lst (pa_cons pe_str (pa_cons pe_str pa_nil))) (pe_c (law_draw_ok T) hr (by decide) rfl (pa_cons (pv 0) (pa_cons pe_int pa_nil)))) (pa_cons pe_int (pa_cons pe_int pa_nil))))))))
          (pss_one (ps_ret (pv 2))))) pss_nil)
      (pss_cons (ps_if (pt_cmpR op_eq (pv 1) pe_int (nomark _)) 
          (pss_one (ps_ret (pe_lst (pa_cons (pe_tup (pa_cons pe_str (pa_cons pe_int (pa_cons pe_str pa_nil)))) (pa_cons (pe_tup (pa_cons pe_str (pa_cons pe_int (pa_cons pe_int pa_nil)))) pa_nil))))) pss_nil)
      (pss_one (ps_ret (pe_c (law_program_ok T) hr (by decide) rfl (pa_cons (pv 0) pa_nil)))))))), ?_⟩
    rw [z100, z0]
    walk_at "go"
    refine draw_d 5 rfl (by decide) (by decide) hs fun pick H1 hpk k1 s1 => ?_
    walk_at "go"
    by_cases p0 : pick = 0
    · refine r_isT (dI_T (by omega)) ?_
      walk_at "go"
      refine ⟨by show 2 ≤ sizeLine; decide, fun l hl => ?_⟩
      have s2 := same_new (o := .lst [V.str (S [48]), .str (S [49, 48, 48])]) hl
      have e2 : (upd H1 l (.lst [V.str (S [48]), .str (S [49, 48, 48])])) l = some (.lst [V.str (S [48]), .str (S [49, 48, 48])]) := upd_same
      generalize upd H1 l (.lst [V.str (S [48]), .str (S [49, 48, 48])]) = H2 at s2 e2
      have lns : l ≠ s := fun z => s1.at_.live (z ▸ hl)
      walk_at "go"
      refine draw_d 2 rfl (by decide) (by decide) (s1.same s2) fun c H3 hc k3 s3 => ?_
      have e3 := k3 _ _ e2 (by simpa using lns)
      have kk3 := (k1.trans (same_keep s2)).trans k3
      walk_at "go"
      obtain rfl | rfl : c = 0 ∨ c = 1 := by omega
      · refine r_ixL e3 (j := 0) rfl rfl ?_
        walk_at "go"
        refine ⟨by show 3 ≤ sizeLine; decide, fun p hp => ?_⟩
        have r5 : RowAt (s :: M) _ _ _ := row_new (r := .set 0 .lf) s3.dom hp rfl
        have s5 := same_new (o := .tup (Row.set 0 .lf).vals) hp
        walk_at "go"
        refine ⟨by show 1 ≤ sizeLine; decide, fun q hq => ?_⟩
        exact prog_fin (rs := [.set 0 .lf]) (s3.same s5) (kk3.trans (same_keep s5)) (.cons r5 .nil) ⟨by show 1 ≤ 11; decide, sm_snoc sm_nil (sm_set (by decide) (by decide))⟩ k hq
      · refine r_ixL e3 (j := 1) rfl rfl ?_
        walk_at "go"
        refine ⟨by show 3 ≤ sizeLine; decide, fun p hp => ?_⟩
        have r5 : RowAt (s :: M) _ _ _ := row_new (r := .set 0 one) s3.dom hp rfl
        have s5 := same_new (o := .tup (Row.set 0 one).vals) hp
        walk_at "go"
        refine ⟨by show 1 ≤ sizeLine; decide, fun q hq => ?_⟩
        exact prog_fin (rs := [.set 0 one]) (s3.same s5) (kk3.trans (same_keep s5)) (.cons r5 .nil) ⟨by show 1 ≤ 11; decide, sm_snoc sm_nil (sm_set (by decide) (by decide))⟩ k hq
    refine r_isF (dI_F (by omega)) ?_
    walk_at "go"
    by_cases p1 : pick = 1
    · refine r_isT (dI_T (by omega)) ?_
      walk_at "go"
      refine ⟨Nat.zero_le _, fun f hf => ?_⟩
      have t3 : Same H1 (upd H1 f (.lst [])) := same_new hf
      have m3 : ML (s :: M) (upd H1 f (.lst [])) f [] := ⟨s1.dom.out hf, [], upd_same, .nil⟩
      have sd3 : SD (f :: M) (upd H1 f (.lst [])) s := s1.fresh hf t3 (by rw [upd_same]; intro z; cases z)
      generalize upd H1 f (.lst []) = H3 at t3 m3 sd3
      have hfH : H f = none := k1.free (fun m hm => by rw [List.mem_singleton.mp hm]; exact s1.at_.live) hf
      have kk3 := k1.trans (same_keep t3)
      walk_at "go"
      refine draw_d 12 rfl (by decide) (by decide) sd3 fun many H4 hm k4 s4 => ?_
      have m4 := m3.draw k4
      walk_at "go"
      refine ⟨_, rfl, by omega, by omega, for_it walk_range (fun i σ H' => ∃ (rs : List Row) (x3 : Option V), σ = [some (.ref s), some (.int (pick : Int)), some (.ref f), x3] ∧ Keep [s] H H' ∧ SD (f :: M) H' s ∧ ML (s :: M) H' f rs ∧ rs.length = i ∧ ∀ (j : Nat) (r : Row), rs[j]? = some r → r.small j many)
        ⟨[], none, rfl, kk3.trans k4, s4, m4, rfl, sm_nil⟩ (fun _ _ _ _ _ => trivial) ?_ ?_⟩
      · rintro i v σ H4 H5 hi ⟨rs, x3, rfl, q1, q2, q3, q4, q5⟩ ⟨rfl, rfl⟩
        have hi' : i < many := by omega
        walk_at "go"
        refine q3.ty ?_
        walk_at "go"
        refine ⟨by show 2 ≤ sizeLine; decide, fun l hl => ?_⟩
        have s9 := same_new (o := .lst [V.str "tail", .str "head"]) hl
        have e9 : (upd H5 l (.lst [V.str "tail", .str "head"])) l = some (.lst [V.str "tail", .str "head"]) := upd_same
        generalize upd H5 l (.lst [V.str "tail", .str "head"]) = H6 at s9 e9
        have sd9 := q2.same s9
        have m9 := q3.keep s9
        have lns : l ≠ s := fun z => q2.at_.live (z ▸ hl)
        walk_at "go"
        refine draw_d 2 rfl (by decide) (by decide) sd9 fun c H7 hc k7 s7 => ?_
        have m7 := m9.draw k7
        have e7 := k7 _ _ e9 (by simpa using lns)
        have kk7 := (q1.trans (same_keep s9)).trans k7
        walk_at "go"
        obtain rfl | rfl : c = 0 ∨ c = 1 := by omega
        · refine r_ixL e7 (j := 0) rfl rfl ?_
          walk_at "go"
          refine ⟨by show 3 ≤ sizeLine; decide, fun p hp => ?_⟩
          walk_at "go"
          refine app_row (r := .tail 0 0) rfl (Nat.le_of_ble_eq_true rfl) hp m7 s7 (by omega) fun H' kf m' s' => ?_
          refine ⟨_, _, rfl, ?_, s', m', by simp [q4], sm_snoc q5 (sm_tail (by decide) (by decide))⟩
          exact Keep.drop (M := [s]) (H1 := H) Keep.refl hfH ((kk7.mono (fun x hx => by simp [List.mem_singleton.mp hx])).trans (kf.mono fun x hx => by simp [List.mem_singleton.mp hx]))
        · refine r_ixL e7 (j := 1) rfl rfl ?_
          walk_at "go"
          refine ⟨by show 3 ≤ sizeLine; decide, fun p hp => ?_⟩
          walk_at "go"
          refine app_row (r := .head 0 0) rfl (Nat.le_of_ble_eq_true rfl) hp m7 s7 (by omega) fun H' kf m' s' => ?_
          refine ⟨_, _, rfl, ?_, s', m', by simp [q4], sm_snoc q5 (sm_head (by decide) (by decide))⟩
          exact Keep.drop (M := [s]) (H1 := H) Keep.refl hfH ((kk7.mono (fun x hx => by simp [List.mem_singleton.mp hx])).trans (kf.mono fun x hx => by simp [List.mem_singleton.mp hx]))
      · rintro σ H4 ⟨rs, x3, rfl, q1, q2, q3, q4, q5⟩
        have q4 : rs.length = many := q4
        walk_at "go"
        exact k f rs H4 hfH ⟨by omega, by rw [q4]; exact q5⟩ q1 q2.drop q3.pr
    refine r_isF (dI_F (by omega)) ?_
    walk_at "go"
    by_cases p2 : pick = 2
    · refine r_isT (dI_T (by omega)) ?_
      walk_at "g0"
      refine rd_lst (rs := [.set 1 one, .jump 1 0]) (RD.cons (by walk_at "row") (RD.cons (by walk_at "row") RD.nil)) (Nat.le_of_ble_eq_true rfl) s1.dom fun p H3 hp t3 e3 => ?_
      exact k p _ H3 (k1.free (fun m hm => by rw [List.mem_singleton.mp hm]; exact s1.at_.live) hp) ⟨by show 2 ≤ 11; decide, sm_snoc (sm_snoc sm_nil (sm_set (by decide) (by decide))) (sm_jump (by decide) (by simp))⟩ (k1.trans (same_keep t3)) (s1.same t3) e3
    refine r_isF (dI_F (by omega)) ?_
    walk_at "go"
    exact ⟨M, s, rfl, s1, fun p rs H' hp hr kk ss pr => k p rs H' (k1.free (fun m hm => by rw [List.mem_singleton.mp hm]; exact s1.at_.live) hp) (hr.mono (by decide)) (k1.trans kk) ss pr⟩
/-! ### _law_longer -/
def sp_law_longer : Sp := fun vs H Q _ => ∃ (M : List Addr) (s a : Addr) (rs : List Row), vs = [.ref s, .ref a] ∧ SD M H s ∧ PrAt (s :: M) H a rs ∧ Sm 8 rs ∧ ∀ (p : Addr) (rs : List Row) (H' : Hp), Sm 75 rs → Keep [s] H H' → SD M H' s → PrAt (s :: M) H' p rs → Q (.ref p) H'
theorem law_longer_ok (T : Txt w K mg) : Cal P w K mg base 9 "_law_longer" sp_law_longer := by
  refine mkCal T.f_law_longer T.g_law_longer sc_law_longer (fun _ _ _ _ _ _ us hl => match us, hl with | [_, _], _ => rfl) (fun vs H Q E h => ?_) (fun cdv A outer s H vs Q E hr h => ?_)
  · obtain ⟨M, s, a, rs, rfl, _⟩ := h
    rfl
  · obtain ⟨M, s, a, rs, rfl, hs, pr, sm, k⟩ := h
    refine ⟨_,
      (pss_cons (ps_if (pt_cmpR op_gt (pe_c (law_draw_ok T) hr (by decide) rfl (pa_cons (pv 0) (pa_cons pe_int pa_nil))) pe_int (nomark _)) 
          (pss_one (ps_ret (pv 1))) pss_nil)
      (pss_cons (ps_st 2 sc_law_longer.nd (pe_c (law_random_program_ok T) hr (by decide) rfl (pa_cons (pv 0) pa_nil)))
      (pss_one (ps_ret (pe_op op_cat (pe_op op_cat (pv 1) (pe_op op_rep (pe_lst (pa_cons (pe_tup (pa_cons pe_str (pa_cons pe_int (pa_cons pe_int pa_nil)))) pa_nil)) (pe_c (law_draw_ok T) hr (by decide) rfl (pa_cons (pv 0) (pa_cons pe_int pa_nil))))) (pv 2)))))), ?_⟩
    have kmono : ∀ {H H' : Hp}, Keep [s] H H' → Keep (s :: M) H H' := fun q => q.mono fun x hx => by simp [List.mem_singleton.mp hx]
    walk_at "go"
    refine draw_d 8 rfl (by decide) (by decide) hs fun c H1 hc k1 s1 => ?_
    walk_at "go"
    refine r_2 (fun _ => ?_) (fun _ => ?_)
    · walk_at "go"
      exact k a rs H1 (sm.mono (by decide)) k1 s1 (pr.keep (kmono k1))
    · walk_at "go"
      refine ⟨M, s, rfl, s1, fun b qs H2 hb hq k2 s2 pb => ?_⟩
      have pr2 := (pr.keep (kmono k1)).keep (kmono k2)
      walk_at "g0"
      refine rd_lst (rs := [.move 15 15]) (RD.cons (by walk_at "row") RD.nil) (Nat.le_of_ble_eq_true rfl) s2.dom fun u H3 hu t3 e3 => ?_
      have s3 := s2.same t3
      have uns : u ≠ s := fun z => s2.at_.live (z ▸ hu)
      walk_at "go"
      refine draw_d 60 rfl (by decide) (by decide) s3 fun n H4 hn k4 s4 => ?_
      obtain ⟨um, us, eu, ru⟩ := e3.keep (kmono k4)
      have hlu := RowsAt.len ru
      match us, ru, hlu with
      | [v], .cons rv _, _ =>
      have pr4 := (pr2.keep (same_keep t3)).keep (kmono k4)
      have pb4 := (pb.keep (same_keep t3)).keep (kmono k4)
      refine r_rep eu (by omega) (by omega) (by simp; omega) fun l hl => ?_
      rw [show ((n : Int)).toNat = n by omega]
      have t5 : Same H4 (upd H4 l (.lst (List.replicate n [v]).flatten)) := same_new hl
      have pl5 : PrAt (s :: M) (upd H4 l (.lst (List.replicate n [v]).flatten)) l (List.replicate n (.move 15 15)) := pr_new s4.dom hl (rows_rep rv n)
      generalize upd H4 l (.lst (List.replicate n [v]).flatten) = H5 at t5 pl5
      have s5 := s4.same t5
      have l1 := sm.len
      have l2 := hq.len
      refine rd_cat s5.dom (pr4.keep (same_keep t5)) pl5 (by rw [List.length_replicate]; omega) fun x H6 hx t6 e6 => ?_
      walk_at "go"
      refine rd_cat (s5.same t6).dom e6 (pb4.keep (same_keep (t5.trans t6))) (by rw [List.length_append, List.length_replicate]; omega) fun y H7 hy t7 e7 => ?_
      have kk := (((k1.trans k2).trans (same_keep t3)).trans k4).trans (same_keep ((t5.trans t6).trans t7))
      exact k y _ H7 (((sm.app (sm_moves n)).app hq).mono (by omega)) kk ((s5.same t6).same t7) e7
/-! ### _law_input -/
def sp_law_input : Sp := fun vs H Q _ => ∃ (M : List Addr) (s : Addr), vs = [.ref s, .int 6] ∧ SD M H s ∧ ∀ (t : Tr) (H' : Hp), t.sz ≤ 2000 → Keep [s] H H' → SD M H' s → Q (.str (S t.enc)) H'
theorem law_input_ok (T : Txt w K mg) : Cal P w K mg base 8 "_law_input" sp_law_input := by
  refine mkCal T.f_law_input T.g_law_input sc_law_input (fun _ _ _ _ _ _ us hl => match us, hl with | [_, _], _ => rfl) (fun vs H Q E h => ?_) (fun cdv A outer s H vs Q E hr h => ?_)
  · obtain ⟨M, s, rfl, _⟩ := h
    rfl
  · obtain ⟨M, s, rfl, hs, k⟩ := h
    refine ⟨_,
      (pss_cons (ps_if (pt_cmpR op_gt (pe_c (law_draw_ok T) hr (by decide) rfl (pa_cons (pv 0) (pa_cons pe_int pa_nil))) pe_int (nomark _)) 
          (pss_one (ps_ret (pe_c (law_tree_ok T) hr (by decide) rfl (pa_cons (pv 0) (pa_cons (pe_c (law_draw_ok T) hr (by decide) rfl (pa_cons (pv 0) (pa_cons (pv 1) pa_nil))) pa_nil))))) pss_nil)
      (pss_cons (ps_st 2 sc_law_input.nd (pe_op op_add pe_int (pe_c (law_draw_ok T) hr (by decide) rfl (pa_cons (pv 0) (pa_cons pe_int pa_nil)))))
      (pss_one (ps_ret (pe_il (pe_lst (pa_cons (pe_op o_addS (pe_op op_mul_str pe_str (pv 2)) pe_str) (pa_cons (pe_op o_addS (pe_op op_mul_str pe_str (pv 2)) (pe_op op_mul_str pe_str (pe_op op_add (pv 2) pe_int))) (pa_cons (pe_op o_addS (pe_op op_mul_str pe_str (pv 2)) pe_str) (pa_cons (pe_op o_addS (pe_op o_addS (pe_op o_addS pe_str (pe_op op_mul_str pe_str (pv 2))) pe_str) pe_str) pa_nil))))) (pe_c (law_draw_ok T) hr (by decide) rfl (pa_cons (pv 0) (pa_cons pe_int pa_nil)))))))), ?_⟩
    rw [z100, z0, z1, z10, z1100]
    walk_at "go"
    refine draw_d 8 rfl (by decide) (by decide) hs fun c H1 hc k1 s1 => ?_
    walk_at "go"
    refine r_2 (fun _ => ?_) (fun _ => ?_)
    · walk_at "go"
      refine draw_d 6 rfl (by decide) (by decide) s1 fun n H2 hn k2 s2 => ?_
      walk_at "go"
      refine tree_d n rfl (by omega) s2 fun t H3 ht k3 s3 => ?_
      exact k t H3 (by omega) ((k1.trans k2).trans k3) s3
    · walk_at "go"
      refine draw_d 300 rfl (by decide) (by decide) s1 fun m0 H2 hm0 k2 s2 => ?_
      walk_at "go"
      rw [show (20 : Int) + (m0 : Int) = ((20 + m0 : Nat) : Int) by omega]
      have hm : 20 + m0 < 320 := by omega
      generalize 20 + m0 = m at hm
      walk_at "go"
      refine r_mulSt rfl (by show 2 * m ≤ _; omega) (by omega) ?_
      walk_at "go"
      refine r_addS (by rw [flat_len (c := 2) rfl]; show m * 2 + 1 ≤ _; omega) ?_
      walk_at "go"
      refine r_mulSt rfl (by show 1 * m ≤ _; omega) (by omega) ?_
      walk_at "go"
      refine r_mulSt (k := m + 1) (by omega) (by show 1 * (m + 1) ≤ _; omega) (by omega) ?_
      walk_at "go"
      refine r_addS (by rw [flat_len (c := 1) rfl, flat_len (c := 1) rfl]; omega) ?_
      walk_at "go"
      refine r_mulSt rfl (by show 4 * m ≤ _; omega) (by omega) ?_
      walk_at "go"
      refine r_addS (by rw [flat_len (c := 4) rfl]; show m * 4 + 1 ≤ _; omega) ?_
      walk_at "go"
      refine r_mulSt rfl (by show 2 * m ≤ _; omega) (by omega) ?_
      walk_at "go"
      refine r_addS (by rw [flat_len (c := 2) rfl]; show 1 + m * 2 ≤ _; omega) ?_
      walk_at "go"
      refine r_addS (by rw [List.length_append, flat_len (c := 2) rfl]; show 1 + m * 2 + 1 ≤ _; omega) ?_
      walk_at "go"
      refine r_addS (by rw [List.length_append, List.length_append, flat_len (c := 2) rfl]; show 1 + m * 2 + 1 + 3 ≤ _; omega) ?_
      rw [← num_enc, ← comb_enc, ← ones_enc, show [49] ++ (List.replicate m [49, 48]).flatten ++ [48] ++ [49, 48, 48] = (Tr.nd (num m) one).enc by
        show _ = 49 :: ((num m).enc ++ [49, 48, 48])
        rw [num_enc]
        simp]
      have hz : (num m).sz ≤ 2000 ∧ (comb m).sz ≤ 2000 ∧ (lst (List.replicate m one)).sz ≤ 2000 ∧ (Tr.nd (num m) one).sz ≤ 2000 := by
        rw [comb_sz, ones_sz]
        show _ ∧ _ ∧ _ ∧ 1 + (num m).sz + 3 ≤ 2000
        rw [num_sz]
        omega
      walk_at "go"
      refine ⟨by show 4 ≤ sizeLine; decide, fun l hl => ?_⟩
      have lns : l ≠ s := fun z => s2.at_.live (z ▸ hl)
      have t3 := same_new (o := .lst [V.str (S (num m).enc), .str (S (comb m).enc), .str (S (lst (List.replicate m one)).enc), .str (S (Tr.nd (num m) one).enc)]) hl
      have e3 : (upd H2 l (.lst [V.str (S (num m).enc), .str (S (comb m).enc), .str (S (lst (List.replicate m one)).enc), .str (S (Tr.nd (num m) one).enc)])) l = some (.lst [V.str (S (num m).enc), .str (S (comb m).enc), .str (S (lst (List.replicate m one)).enc), .str (S (Tr.nd (num m) one).enc)]) := upd_same
      generalize upd H2 l (.lst [V.str (S (num m).enc), .str (S (comb m).enc), .str (S (lst (List.replicate m one)).enc), .str (S (Tr.nd (num m) one).enc)]) = H3 at t3 e3
      walk_at "go"
      refine draw_d 4 rfl (by decide) (by decide) (s2.same t3) fun c H4 hc k4 s4 => ?_
      have e4 := k4 _ _ e3 (by simpa using lns)
      have kk := ((k1.trans k2).trans (same_keep t3)).trans k4
      obtain rfl | rfl | rfl | rfl : c = 0 ∨ c = 1 ∨ c = 2 ∨ c = 3 := by omega
      · exact r_ixL e4 (j := 0) rfl rfl (k _ H4 hz.1 kk s4)
      · exact r_ixL e4 (j := 1) rfl rfl (k _ H4 hz.2.1 kk s4)
      · exact r_ixL e4 (j := 2) rfl rfl (k _ H4 hz.2.2.1 kk s4)
      · exact r_ixL e4 (j := 3) rfl rfl (k _ H4 hz.2.2.2 kk s4)
end
end K38
set_option Elab.async false
set_option linter.all false
set_option maxRecDepth 100000
set_option maxHeartbeats 4000000
namespace K38
open PySem PySem.Spec PyProof.Rows L2 He SX
/-! ### the walk's own steps -/
local macro_rules | `(tactic| walk_at "hp") => `(tactic| first
  | assumption
  | with_reducible exact upd_same
  | (refine Eq.trans (upd_ne (by first | assumption | exact Ne.symm (by assumption))) ?_; walk_at "hp"))
local macro_rules | `(tactic| walk_at "st0") => `(tactic| with_reducible first
  | refine r_seq ?_ | refine r_asg ?_ | ((refine r_var (v := ?v) ?h ?_); (case h => with_unfolding_all exact rfl)) | refine r_c ?_ | refine r_op ?_ | refine r_cons ?_ | refine r_nil ?_ | refine r_gname ?_ | refine r_cb ?_ | refine r_call ?_
  | refine r_if ?_ | refine r_ret ?_ | refine r_test ?_ | refine r_bl ?_ | refine r_I0 ?_ | ((refine r_eq ?h ?_); (case h => with_unfolding_all exact rfl)) | ((refine r_ne ?h ?_); (case h => with_unfolding_all exact rfl))
  | refine r_T ?_ | refine r_F ?_ | refine r_nT ?_ | refine r_nF ?_ | refine r_not ?_ | refine r_and ?_ | refine r_or ?_ | refine r_B ?_ | refine r_next ?_ | refine r_drop ?_ | refine r_tup ?_ | refine r_bm ?_ | refine r_bm0 ?_
  | refine r_chain ?_ | refine r_andV ?_ | refine r_notV ?_ | refine r_isN ?_ | refine r_notN ?_ | refine r_dget ?_ | refine r_din ?_ | refine r_dnotin ?_ | refine r_un ?_ | refine r_rU ?_ | refine r_gsub ?_
  | ((refine r_aug (x := ?x) ?h ?_); (case h => with_unfolding_all exact rfl)) | refine r_ipI ?_ | refine r_for ?_ | refine r_lc ?_ | refine r_iList ?_ | refine r_iTup ?_ | refine r_iStr ?_ | refine r_iRng1 ?_ | refine r_iRng2 ?_ | refine r_iEnum ?_ | ((refine r_wipe ?h ?_); (case h => with_unfolding_all exact rfl)) | refine r_yes ?_ | refine r_rng ?_ | refine r_part ?_ | refine r_nopart ?_ | refine r_exi ?_ | refine r_int1 ?_ | refine r_abs ?_ | refine r_m1 ?_ | refine r_pairs ?_ | refine r_pairs0 ?_ | refine r_dput ?_ | refine r_trk ?_ | ((refine r_ixT0 (xs := ?xs) (v := ?v) ?h ?hv ?_); (case h => walk_at "hp"); (case hv => with_unfolding_all exact rfl)) | ((refine r_ixT1 (xs := ?xs) (v := ?v) ?h ?hv ?_); (case h => walk_at "hp"); (case hv => with_unfolding_all exact rfl)) | ((refine r_ixT2 (xs := ?xs) (v := ?v) ?h ?hv ?_); (case h => walk_at "hp"); (case hv => with_unfolding_all exact rfl)) | ((refine r_ixT3 (xs := ?xs) (v := ?v) ?h ?hv ?_); (case h => walk_at "hp"); (case hv => with_unfolding_all exact rfl)) | refine r_strv ?_)
local macro_rules | `(tactic| walk_at "st") => `(tactic| first | walk_at "st0" | with_reducible refine r_lst ?_)
local macro_rules | `(tactic| walk_at "g0") => `(tactic| repeat walk_at "st0")
local macro_rules | `(tactic| walk_at "go") => `(tactic| repeat walk_at "st")
local macro_rules | `(tactic| walk_at "dk") => `(tactic| first | refine r_isT (by decide +kernel) ?_ | refine r_isF (by decide +kernel) ?_)
local macro_rules | `(tactic| walk_at "gd") => `(tactic| repeat first | walk_at "st" | walk_at "dk")
section
variable {P : Program} {w : World} {K : PySem.W.Frag} {mg : Str → Option Value} {base : Heap}
/-! ### _law_width -/
theorem wd_snoc (rs : List Row) (r : Row) : wd (rs ++ [r]) = (r.regs.map (· + 1)).foldl max (wd rs) := by
  unfold wd
  rw [List.flatMap_append, List.foldl_append]
  simp
theorem max_is {l : List Nat} {f : Nat} {m : Int} (h1 : m ∈ [(f : Int)] ++ l.map fun a : Nat => 1 + (a : Int)) (h2 : ∀ y, y ∈ [(f : Int)] ++ l.map (fun a : Nat => 1 + (a : Int)) → y ≤ m) : m = (((l.map (· + 1)).foldl max f : Nat) : Int) := by
  have g1 : ∀ y : Nat, y ∈ l.map (fun a : Nat => a + 1) → (y : Int) ≤ m := fun y hy => by
    obtain ⟨a, ha, rfl⟩ := List.mem_map.mp hy
    have := h2 (1 + (a : Int)) (List.mem_append.mpr (.inr (List.mem_map.mpr ⟨a, ha, rfl⟩)))
    omega
  have g0 : (f : Int) ≤ m := h2 _ (by simp)
  have e1 : (((l.map (· + 1)).foldl max f : Nat) : Int) ≤ m := by
    rcases fm_mem (l.map (· + 1)) f with e | e
    · rw [e]
      exact g0
    · exact g1 _ e
  have e2 : m ≤ (((l.map (· + 1)).foldl max f : Nat) : Int) := by
    rcases List.mem_append.mp h1 with h | h
    · have := fm_ge (l.map (· + 1)) f
      simp at h
      omega
    · obtain ⟨a, ha, rfl⟩ := List.mem_map.mp h
      have := fm_all (l.map (· + 1)) f (a + 1) (List.mem_map.mpr ⟨a, ha, rfl⟩)
      omega
  omega
def sp_law_width : Sp := fun vs H Q _ => ∃ (M : List Addr) (a : Addr) (rs : List Row), vs = [.ref a] ∧ PrAt M H a rs ∧ rs.length ≤ 1000 ∧ ∀ H', Same H H' → Q (.int (wd rs : Int)) H'
theorem law_width_ok (T : Txt w K mg) : Cal P w K mg base 1 "_law_width" sp_law_width := by
  refine mkCal T.f_law_width T.g_law_width sc_law_width (fun _ _ _ _ _ _ us hl => match us, hl with | [_], _ => rfl) (fun vs H Q E h => ?_) (fun cdv A outer s H vs Q E hr h => ?_)
  · obtain ⟨M, a, rs, rfl, _⟩ := h
    rfl
  · obtain ⟨M, a, rs, rfl, pr, hl, k⟩ := h
    refine ⟨_,
      (pss_cons (ps_st 1 sc_law_width.nd pe_int)
      (pss_cons (ps_for PassesOwn.never rfl (pi_list (pv 0)) (pg_nm 2 sc_law_width.nd) 
          (pss_cons (ps_st 3 sc_law_width.nd (pe_slice sl_tupA (pv 2) (po_some pe_int) po_none))
          (C8.pss_cut (ps_if (PW.pt (pw_or (pt_cmpR op_eq (pe_it (pv 2) pe_int) pe_str (nomark _)) (pw_or1 (pt_cmpR op_eq (pe_it (pv 2) pe_int) pe_str (nomark _))))) 
              (pss_one (ps_st 3 sc_law_width.nd (pe_slice sl_tupA (pv 2) (po_some pe_int) (po_some pe_int)))) pss_nil)
          (pss_one (ps_st 1 sc_law_width.nd (pe_callB (cr_max rfl) (by rfl) T.n_max (by decide +kernel) (pa_cons (pe_op op_cat (pe_lst (pa_cons (pv 1) pa_nil)) (pe_lc (own := [(("_law_part" : Str), 4)]) (by rfl) sc_law_width.nd (pi_tup (pv 3)) (blkOk_by (own := [(("_law_part" : Str), 4)]) (N := names_law_width) (sc := defScope s_law_width) (by decide +kernel)) (fun _ _ _ _ _ => (pg_nm 4 sc_law_width.nd)) (fun _ _ _ _ _ => pts_nil) (fun _ _ _ _ _ => (pe_op op_add pe_int (pv 4))))) pa_nil)))))))
      (pss_one (ps_ret (pv 1))))), ?_⟩
    obtain ⟨am, us, ha, hu⟩ := pr
    have hul := RowsAt.len hu
    walk_at "go"
    refine ⟨a, rfl, ⟨_, SqL.of ha⟩, for_it (walk_list (xs := us)) (fun i σ H' => Same H H' ∧ ∃ (x2 x3 x4 : Option V), σ = [some (.ref a), some (.int ((wd (rs.take i) : Nat) : Int)), x2, x3, x4]) ⟨Same.refl H, none, none, none, rfl⟩ (fun i σ H' _ h => SqL.of (h.1 _ _ ha)) ?_ ?_⟩
    · rintro i x σ H1 H' hi ⟨hs, x2, x3, x4, rfl⟩ ⟨rfl, hx⟩
      obtain ⟨r, hr', p, rfl, hpM, hp0⟩ := RowsAt.get hu hx
      have hp := hs _ _ hp0
      have hrl := regs_len r
      have et : wd (rs.take (i + 1)) = (r.regs.map (· + 1)).foldl max (wd (rs.take i)) := by
        rw [List.take_add_one, hr']
        exact wd_snoc _ r
      rw [vals_eq] at hp
      generalize wd (rs.take i) = f at et
      walk_at "go"
      refine r_sl1 hp fun l hl => ?_
      walk_at "go"
      have s1 : Same H' (upd H' l (.tup r.rest)) := same_new hl
      have e1 : (upd H' l (.tup r.rest)) l = some (.tup r.rest) := upd_same
      generalize upd H' l (.tup r.rest) = H2 at s1 e1
      have hp1 := s1 _ _ hp
      refine ⟨fun σ H3 => Same H H3 ∧ ∃ l, σ = [some (.ref a), some (.int (f : Int)), some (.ref p), some (.ref l), x4] ∧ H3 l = some (.tup (r.regs.map fun a : Nat => V.int (a : Int))), ?_, ?_⟩
      · cases r with
        | set b t =>
          walk_at "go"
          refine r_isT (dw_set (.set b t)) ?_
          walk_at "go"
          refine r_sl12 hp1 fun l2 hl2 => ?_
          walk_at "go"
          exact ⟨(hs.trans s1).trans (same_new hl2), l2, rfl, upd_same⟩
        | jump b n =>
          walk_at "go"
          refine r_isF (dw_set (.jump b n)) ?_
          walk_at "go"
          refine r_isT (dw_jump (.jump b n)) ?_
          walk_at "go"
          refine r_sl12 hp1 fun l2 hl2 => ?_
          walk_at "go"
          exact ⟨(hs.trans s1).trans (same_new hl2), l2, rfl, upd_same⟩
        | move b c =>
          walk_at "go"
          refine r_isF (dw_set (.move b c)) ?_
          walk_at "go"
          refine r_isF (dw_jump (.move b c)) ?_
          walk_at "go"
          exact ⟨hs.trans s1, l, rfl, e1⟩
        | cons b c d =>
          walk_at "go"
          refine r_isF (dw_set (.cons b c d)) ?_
          walk_at "go"
          refine r_isF (dw_jump (.cons b c d)) ?_
          walk_at "go"
          exact ⟨hs.trans s1, l, rfl, e1⟩
        | head b c =>
          walk_at "go"
          refine r_isF (dw_set (.head b c)) ?_
          walk_at "go"
          refine r_isF (dw_jump (.head b c)) ?_
          walk_at "go"
          exact ⟨hs.trans s1, l, rfl, e1⟩
        | tail b c =>
          walk_at "go"
          refine r_isF (dw_set (.tail b c)) ?_
          walk_at "go"
          refine r_isF (dw_jump (.tail b c)) ?_
          walk_at "go"
          exact ⟨hs.trans s1, l, rfl, e1⟩
      · rintro σ H3 ⟨s3, l3, rfl, e3⟩
        walk_at "go"
        refine ⟨by show 1 ≤ sizeLine; decide, fun o ho => ?_⟩
        have s4 : Same H3 (upd H3 o (.lst [.int (f : Int)])) := same_new ho
        have e4 : (upd H3 o (.lst [.int (f : Int)])) o = some (.lst [.int (f : Int)]) := upd_same
        generalize upd H3 o (.lst [.int (f : Int)]) = H4 at s4 e4
        have t3 := s4 _ _ e3
        walk_at "go"
        refine ⟨l3, rfl, ⟨_, SqT.of t3⟩, fun D hD => ?_⟩
        refine lc_it (walk_tup (xs := r.regs.map fun a : Nat => V.int (a : Int))) (fun j H' => Same H4 H' ∧ H' l3 = some (.tup (r.regs.map fun a : Nat => V.int (a : Int))) ∧ H' D = some (.lst (((r.regs.take j).map fun a : Nat => 1 + (a : Int)).map V.int))) ⟨same_new hD, (same_new hD) _ _ t3, upd_same⟩ (fun j H' _ h => SqT.of h.2.1) ?_ ?_
        · rintro j x H5 H6 hj ⟨hs5, ht5, hd5⟩ ⟨rfl, hx⟩
          rw [List.length_map] at hj
          rw [List.getElem?_map, List.getElem?_eq_getElem hj] at hx
          obtain rfl := Option.some.inj hx
          have hne : l3 ≠ D := ne_of_none t3 hD
          walk_at "go"
          refine ⟨_, hd5, ?_, same_mut hs5 hD, by rw [upd_ne hne]; exact ht5, ?_⟩
          · rw [List.length_map, List.length_map, List.length_take]
            exact Nat.lt_of_lt_of_le (show _ < 1000000 by omega) (by decide)
          · rw [upd_same, List.take_add_one, List.getElem?_eq_getElem hj]
            simp only [List.map_append, Option.toList, List.map_cons, List.map_nil]
        · rintro H5 ⟨hs5, ht5, hd5⟩
          rw [List.length_map, List.take_length] at hd5
          refine r_cat (hs5 _ _ e4) hd5 (by simp; omega) fun q hq => ?_
          walk_at "go"
          refine ⟨q, [(f : Int)] ++ r.regs.map fun a : Nat => 1 + (a : Int), rfl, SqL.of (by rw [upd_same, List.map_append]; rfl), by simp, fun m h1 h2 => ?_⟩
          rw [max_is h1 h2, ← et]
          walk_at "go"
          exact ⟨((s3.trans s4).trans hs5).trans (same_new hq), _, _, _, rfl⟩
    · rintro σ H1 ⟨hs, x2, x3, x4, rfl⟩
      rw [hul, List.take_length]
      walk_at "go"
      exact k _ hs
/-! ### _law_are_rows -/
def manyV : List (Key × V) := [(.inr "set", .int 3), (.inr "move", .int 3), (.inr "cons", .int 4), (.inr "head", .int 3), (.inr "tail", .int 3), (.inr "jump", .int 3)]
theorem many_m : mergeK [] manyV = manyV := by kernel_rfl
theorem many_at (r : Row) : valV manyV (.inr r.word) = some (.int (r.vals.length : Nat)) := by
  cases r with
  | set a t => exact (show valV manyV (.inr "set") = some (.int 3) by kernel_rfl)
  | move a t => exact (show valV manyV (.inr "move") = some (.int 3) by kernel_rfl)
  | cons a b t => exact (show valV manyV (.inr "cons") = some (.int 4) by kernel_rfl)
  | head a t => exact (show valV manyV (.inr "head") = some (.int 3) by kernel_rfl)
  | tail a t => exact (show valV manyV (.inr "tail") = some (.int 3) by kernel_rfl)
  | jump a t => exact (show valV manyV (.inr "jump") = some (.int 3) by kernel_rfl)
def Row.midI : Row → List Int
  | .set a _ => [(a : Int)]
  | .move a b => [(a : Int), (b : Int)]
  | .cons a b c => [(a : Int), (b : Int), (c : Int)]
  | .head a b => [(a : Int), (b : Int)]
  | .tail a b => [(a : Int), (b : Int)]
  | .jump a n => [(a : Int), n]
def sp_law_are_rows : Sp := fun vs H Q _ => ∃ (M : List Addr) (a : Addr) (rs : List Row), vs = [.ref a] ∧ PrAt M H a rs ∧ Ok rs ∧ ∀ H', Same H H' → Q (.bl true) H'
theorem law_are_rows_ok (T : Txt w K mg) : Cal P w K mg base 1 "_law_are_rows" sp_law_are_rows := by
  refine mkCal T.f_law_are_rows T.g_law_are_rows sc_law_are_rows (fun _ _ _ _ _ _ us hl => match us, hl with | [_], _ => rfl) (fun vs H Q E h => ?_) (fun cdv A outer s H vs Q E hr h => ?_)
  · obtain ⟨M, a, rs, rfl, _⟩ := h
    rfl
  · obtain ⟨M, a, rs, rfl, pr, ok, k⟩ := h
    refine ⟨_,
      (pss_cons (ps_st 1 sc_law_are_rows.nd (pe_disp (pps_cons pe_str pe_int (pps_cons pe_str pe_int (pps_cons pe_str pe_int (pps_cons pe_str pe_int (pps_cons pe_str pe_int (pps_cons pe_str pe_int pps_nil)))))) (by rfl) (by rfl) (fun z => by cases z) (by decide)))
      (pss_cons (ps_for PassesOwn.never rfl (pi_range1 (by rfl) T.n_range (pa_cons (pe_callB c_lenQ (by rfl) T.n_len PySem.boot_len (pa_cons (pv 0) pa_nil)) pa_nil)) (pg_nm 2 sc_law_are_rows.nd) 
          (pss_cons (ps_st 3 sc_law_are_rows.nd (pe_il (pv 0) (pv 2)))
          (pss_cons (ps_if (PW.pt (pw_or (pt_not (pt_val (pe_callB call_isi (by rfl) T.n_isinstance (by decide +kernel) (pa_cons (pv 3) (pa_cons (pe_bltn (v := .ty "tuple") (by rfl) T.n_tuple (by decide +kernel) rfl) pa_nil))))) (pw_or (pt_cmp (pc_dnotin (hu_of hr) (pe_it (pv 3) pe_int) (pv 1)) rfl) (pw_or1 (pt_cmpR op_ne (pe_callB c_lenQ (by rfl) T.n_len PySem.boot_len (pa_cons (pv 3) pa_nil)) (pe_dg hr (pv 1) (pe_it (pv 3) pe_int)) (nomark _)))))) 
              (pss_one (ps_ret pe_bl)) pss_nil)
          (pss_cons (ps_st 4 sc_law_are_rows.nd (pe_slice sl_tupA (pv 3) (po_some pe_int) po_none))
          (C8.pss_cut (ps_if (pt_cmpR op_eq (pe_it (pv 3) pe_int) pe_str (nomark _)) 
              (pss_cons (ps_st 4 sc_law_are_rows.nd (pe_slice sl_tupA (pv 3) (po_some pe_int) (po_some pe_int)))
              (pss_one (ps_if (pt_not (pt_val (pe_callB call_isi (by rfl) T.n_isinstance (by decide +kernel) (pa_cons (pe_it (pv 3) pe_int) (pa_cons (pe_bltn (v := .ty "str") (by rfl) T.n_str (by decide +kernel) rfl) pa_nil))))) 
                  (pss_one (ps_ret pe_bl)) pss_nil))) pss_nil)
          (pss_cons (ps_if (pt_cmpR op_gt (pe_callB c_lenQ (by rfl) T.n_len PySem.boot_len (pa_cons (pe_lc (own := [(("_law_part" : Str), 5)]) (by rfl) sc_law_are_rows.nd (pi_tup (pv 4)) (blkOk_by (own := [(("_law_part" : Str), 5)]) (N := names_law_are_rows) (sc := defScope s_law_are_rows) (by decide +kernel)) (fun _ _ _ _ _ => (pg_nm 5 sc_law_are_rows.nd)) (fun _ _ _ _ _ => pts_one (PW.pt (pw_or (pt_not (pt_val (pe_callB (c_isik K) (by rfl) T.n_isinstance (by decide +kernel) (pa_cons (pv 5) (pa_cons (pe_bltn (v := .ty "int") (by rfl) T.n_int (by decide +kernel) rfl) pa_nil))))) (pw_or1 (pt_val (pe_callB (c_isik K) (by rfl) T.n_isinstance (by decide +kernel) (pa_cons (pv 5) (pa_cons (pe_bltn (v := .ty "bool") (by rfl) T.n_bool (by decide +kernel) rfl) pa_nil)))))))) (fun _ _ _ _ _ => (pv 5))) pa_nil)) pe_int (nomark _)) 
              (pss_one (ps_ret pe_bl)) pss_nil)
          (pss_one (ps_if (PW.pt (pw_and (pt_cmpR op_eq (pe_it (pv 3) pe_int) pe_str (nomark _)) (pw_and1 (pt_not (pt_chain op_le op_le pe_int (pe_op op_add (pv 2) (pe_it (pv 3) pe_int)) (pe_callB c_lenQ (by rfl) T.n_len PySem.boot_len (pa_cons (pv 0) pa_nil))))))) 
              (pss_one (ps_ret pe_bl)) pss_nil))))))))
      (pss_one (ps_ret (pe_cmpR op_le (pe_callB c_lenQ (by rfl) T.n_len PySem.boot_len (pa_cons (pv 0) pa_nil)) pe_int (nomark _)))))), ?_⟩
    obtain ⟨am, us, ha, hu⟩ := pr
    have hul := RowsAt.len hu
    have h600 := ok.len
    walk_at "go"
    intro d hd
    have s0 : Same H (upd H d (.dK [])) := same_new hd
    have e0 : (upd H d (.dK [])) d = some (.dK []) := upd_same
    generalize upd H d (.dK []) = H0 at s0 e0
    walk_at "go"
    refine ⟨e0, manyV, rfl, by show 6 ≤ 15; decide, ?_⟩
    rw [many_m]
    have s1 := same_mut s0 hd (o := .dK manyV)
    have e1 : (upd H0 d (.dK manyV)) d = some (.dK manyV) := upd_same
    generalize upd H0 d (.dK manyV) = H1 at s1 e1 ⊢
    walk_at "go"
    refine r_lenL (s1 _ _ ha) ?_
    walk_at "go"
    refine ⟨_, rfl, by omega, by omega, for_it walk_range (fun i σ H' => Same H1 H' ∧ ∃ (x2 x3 x4 x5 : Option V), σ = [some (.ref a), some (.ref d), x2, x3, x4, x5]) ⟨Same.refl H1, none, none, none, none, rfl⟩ (fun _ _ _ _ _ => trivial) ?_ ?_⟩
    · rintro i v σ H2 H' hi ⟨hs, x2, x3, x4, x5, rfl⟩ ⟨rfl, rfl⟩
      have hi' : i < rs.length := by omega
      have hrow : rs[i]? = some rs[i] := List.getElem?_eq_getElem hi'
      generalize rs[i] = r at hrow
      obtain ⟨v, hv, p, rfl, pm, hp0⟩ := RowsAt.getR hu hrow
      have ha1 := hs _ _ (s1 _ _ ha)
      have hp := hs _ _ (s1 _ _ hp0)
      have hok := ok.rows _ _ hrow
      rw [vals_eq] at hp
      walk_at "go"
      refine r_ixL ha1 (j := i) (by omega) hv ?_
      walk_at "go"
      refine isi_tt hp ?_
      walk_at "go"
      refine ⟨d, _, rfl, DGet.k (k := .inr r.word) (hs _ _ e1), ?_⟩
      rw [many_at]
      walk_at "go"
      refine r_isF rfl ?_
      walk_at "go"
      refine r_lenT hp ?_
      walk_at "go"
      refine ⟨d, _, rfl, by rw [← many_at]; exact DGet.k (k := .inr r.word) (hs _ _ e1), ?_⟩
      walk_at "go"
      refine r_isF (by rw [dI_T (by rw [vals_eq])]; rfl) ?_
      walk_at "go"
      refine r_sl1 hp fun l hl => ?_
      walk_at "go"
      have s3 : Same H' (upd H' l (.tup r.rest)) := same_new hl
      have e3 : (upd H' l (.tup r.rest)) l = some (.tup r.rest) := upd_same
      generalize upd H' l (.tup r.rest) = H3 at s3 e3
      have hp3 := s3 _ _ hp
      have t3 := hs.trans s3
      refine ⟨fun σ H4 => Same H1 H4 ∧ ∃ l, σ = [some (.ref a), some (.ref d), some (.int (0 + (i : Int))), some (.ref p), some (.ref l), x5] ∧ H4 l = some (.tup (r.midI.map V.int)), ?_, ?_⟩
      · cases r with
        | set b t =>
          walk_at "go"
          refine r_isT (dw_set (.set b t)) ?_
          walk_at "go"
          refine r_sl12 hp3 fun l2 hl2 => ?_
          have hp4 := (same_new (o := .tup [V.int (b : Int)]) hl2) _ _ hp3
          have e4 : (upd H3 l2 (.tup [V.int (b : Int)])) l2 = some (.tup [V.int (b : Int)]) := upd_same
          have s4 := same_new (o := .tup [V.int (b : Int)]) hl2
          generalize upd H3 l2 (.tup [V.int (b : Int)]) = H4 at hp4 e4 s4 ⊢
          walk_at "go"
          refine isi_ss ?_
          walk_at "go"
          exact ⟨t3.trans s4, l2, rfl, e4⟩
        | move b c =>
          walk_at "go"
          refine r_isF (dw_set (.move b c)) ?_
          walk_at "go"
          exact ⟨t3, l, rfl, e3⟩
        | cons b c e =>
          walk_at "go"
          refine r_isF (dw_set (.cons b c e)) ?_
          walk_at "go"
          exact ⟨t3, l, rfl, e3⟩
        | head b c =>
          walk_at "go"
          refine r_isF (dw_set (.head b c)) ?_
          walk_at "go"
          exact ⟨t3, l, rfl, e3⟩
        | tail b c =>
          walk_at "go"
          refine r_isF (dw_set (.tail b c)) ?_
          walk_at "go"
          exact ⟨t3, l, rfl, e3⟩
        | jump b n =>
          walk_at "go"
          refine r_isF (dw_set (.jump b n)) ?_
          walk_at "go"
          exact ⟨t3, l, rfl, e3⟩
      · rintro σ H4 ⟨s4, l4, rfl, e4⟩
        walk_at "go"
        refine ⟨l4, rfl, ⟨_, SqT.of e4⟩, fun D hD => ?_⟩
        have hne : l4 ≠ D := ne_of_none e4 hD
        refine lc_it (walk_tup (xs := r.midI.map V.int)) (fun j H' => Same H4 H' ∧ H' l4 = some (.tup (r.midI.map V.int)) ∧ H' D = some (.lst [])) ⟨same_new hD, (same_new hD) _ _ e4, upd_same⟩ (fun j H' _ h => SqT.of h.2.1) ?_ ?_
        · rintro j x H5 H6 hj ⟨hs5, ht5, hd5⟩ ⟨rfl, hx⟩
          rw [List.length_map] at hj
          rw [List.getElem?_map, List.getElem?_eq_getElem hj] at hx
          obtain rfl := Option.some.inj hx
          walk_at "go"
          refine isi_ii ?_
          walk_at "go"
          refine isi_ib ?_
          walk_at "go"
          exact ⟨hs5, ht5, hd5⟩
        · rintro H5 ⟨hs5, ht5, hd5⟩
          walk_at "go"
          refine r_lenL hd5 ?_
          walk_at "go"
          refine r_isF rfl ?_
          have t5 := s4.trans hs5
          have hp5 := t5 _ _ (s1 _ _ hp0)
          have ha5 := t5 _ _ (s1 _ _ ha)
          clear hp hp3 ha1
          rw [vals_eq] at hp5
          cases r with
          | jump b n =>
            have hj := hok.2.2 b n rfl
            walk_at "go"
            refine r_isT (dw_jump (.jump b n)) ?_
            walk_at "go"
            refine r_isT (decide_eq_true (by omega)) ?_
            walk_at "go"
            refine r_lenL ha5 ?_
            walk_at "go"
            rw [decide_eq_true (show (0 : Int) + (i : Int) + n ≤ (us.length : Int) by omega)]
            walk_at "go"
            exact ⟨t5, _, _, _, _, rfl⟩
          | set b t =>
            walk_at "go"
            refine r_isF (dw_jump (.set b t)) ?_
            walk_at "go"
            exact ⟨t5, _, _, _, _, rfl⟩
          | move b c =>
            walk_at "go"
            refine r_isF (dw_jump (.move b c)) ?_
            walk_at "go"
            exact ⟨t5, _, _, _, _, rfl⟩
          | cons b c e =>
            walk_at "go"
            refine r_isF (dw_jump (.cons b c e)) ?_
            walk_at "go"
            exact ⟨t5, _, _, _, _, rfl⟩
          | head b c =>
            walk_at "go"
            refine r_isF (dw_jump (.head b c)) ?_
            walk_at "go"
            exact ⟨t5, _, _, _, _, rfl⟩
          | tail b c =>
            walk_at "go"
            refine r_isF (dw_jump (.tail b c)) ?_
            walk_at "go"
            exact ⟨t5, _, _, _, _, rfl⟩
    · rintro σ H2 ⟨hs, x2, x3, x4, x5, rfl⟩
      walk_at "go"
      refine r_lenL (hs _ _ (s1 _ _ ha)) ?_
      walk_at "go"
      rw [decide_eq_true (show (us.length : Int) ≤ 600 by omega)]
      exact k _ (s1.trans hs)
end
end K38
set_option Elab.async false
set_option linter.all false
set_option maxRecDepth 100000
set_option maxHeartbeats 4000000
namespace K38
open PySem PySem.Spec PyProof.Rows L2 He SX
/-! ### sizes of the whole -/
def Row.okk (i n : Nat) (r : Row) : Prop := (∀ a ∈ r.regs, a < 20) ∧ (∀ a k, r = .jump a k → 0 ≤ (i : Int) + k ∧ (i : Int) + k ≤ n) ∧ r.code.sz ≤ 250
def Seg (off N : Nat) (rs : List Row) : Prop := ∀ (i : Nat) (r : Row), rs[i]? = some r → r.okk (off + i) N
theorem Seg.app {off N : Nat} {a b : List Row} (ha : Seg off N a) (hb : Seg (off + a.length) N b) : Seg off N (a ++ b) := by
  intro i r e
  by_cases hi : i < a.length
  · rw [List.getElem?_append_left hi] at e
    exact ha i r e
  · rw [List.getElem?_append_right (by omega)] at e
    have := hb _ r e
    rw [show off + a.length + (i - a.length) = off + i by omega] at this
    exact this
theorem Seg.nil {off N : Nat} : Seg off N [] := fun i r e => by simp at e
theorem Seg.one {off N : Nat} {r : Row} (h : r.okk off N) : Seg off N [r] := fun i x e => by
  have hi : i = 0 := by
    have := (List.getElem?_eq_some_iff.mp e).1
    simp at this
    omega
  subst hi
  have : r = x := by simpa using e
  subst this
  exact h
theorem Seg.cons {off N : Nat} {r : Row} {rs : List Row} (h : r.okk off N) (t : Seg (off + 1) N rs) : Seg off N (r :: rs) := Seg.app (a := [r]) (Seg.one h) t
theorem sg_sz (k : Int) : (if k < 0 then one else Tr.lf).sz ≤ 3 := by
  split
  · decide
  · decide
theorem okk_set {i n a : Nat} {t : Tr} (h : a < 20) (ht : t.sz ≤ 100) : (Row.set a t).okk i n := ⟨fun x hx => by simp [Row.regs] at hx; omega, fun a' k' e => (by cases e), by simp only [Row.code, Tr.sz, num_sz]; omega⟩
theorem okk_move {i n a b : Nat} (h : a < 20) (hb : b < 20) : (Row.move a b).okk i n := ⟨fun x hx => by simp [Row.regs] at hx; omega, fun a' k' e => (by cases e), by simp only [Row.code, Tr.sz, num_sz]; omega⟩
theorem okk_cons {i n a b c : Nat} (h : a < 20) (hb : b < 20) (hc : c < 20) : (Row.cons a b c).okk i n := ⟨fun x hx => by simp [Row.regs] at hx; omega, fun a' k' e => (by cases e), by simp only [Row.code, Tr.sz, num_sz]; omega⟩
theorem okk_head {i n a b : Nat} (h : a < 20) (hb : b < 20) : (Row.head a b).okk i n := ⟨fun x hx => by simp [Row.regs] at hx; omega, fun a' k' e => (by cases e), by simp only [Row.code, Tr.sz, num_sz]; omega⟩
theorem okk_tail {i n a b : Nat} (h : a < 20) (hb : b < 20) : (Row.tail a b).okk i n := ⟨fun x hx => by simp [Row.regs] at hx; omega, fun a' k' e => (by cases e), by simp only [Row.code, Tr.sz, num_sz]; omega⟩
theorem okk_jump {i n a : Nat} {k : Int} (h : a < 20) (hk : 0 ≤ (i : Int) + k ∧ (i : Int) + k ≤ n) (hz : k.natAbs ≤ 80) : (Row.jump a k).okk i n := ⟨fun x hx => by simp [Row.regs] at hx; omega, fun a' k' e => (by injection e with _ e; subst e; exact hk), by
  have := sg_sz k
  simp only [Row.code, Tr.sz, num_sz]
  omega⟩
theorem small_okk {i n off N : Nat} {r : Row} (h : r.small i n) (hN : off + n ≤ N) : r.okk (off + i) N := by
  obtain ⟨h1, h2, h3⟩ := h
  cases r with
  | set a t => exact okk_set (Nat.lt_trans (h1 a (by simp [Row.regs])) (by decide)) (Nat.le_trans (h2 a t rfl) (by decide))
  | move a b => exact okk_move (Nat.lt_trans (h1 a (by simp [Row.regs])) (by decide)) (Nat.lt_trans (h1 b (by simp [Row.regs])) (by decide))
  | cons a b c => exact okk_cons (Nat.lt_trans (h1 a (by simp [Row.regs])) (by decide)) (Nat.lt_trans (h1 b (by simp [Row.regs])) (by decide)) (Nat.lt_trans (h1 c (by simp [Row.regs])) (by decide))
  | head a b => exact okk_head (Nat.lt_trans (h1 a (by simp [Row.regs])) (by decide)) (Nat.lt_trans (h1 b (by simp [Row.regs])) (by decide))
  | tail a b => exact okk_tail (Nat.lt_trans (h1 a (by simp [Row.regs])) (by decide)) (Nat.lt_trans (h1 b (by simp [Row.regs])) (by decide))
  | jump a k =>
    have := h3 a k rfl
    exact okk_jump (Nat.lt_trans (h1 a (by simp [Row.regs])) (by decide)) (by omega) (by omega)
theorem Sm.seg {L off N : Nat} {rs : List Row} (h : Sm L rs) (hN : off + rs.length ≤ N) : Seg off N rs := fun i r e => small_okk (h.rows i r e) hN
theorem tsz_code (r : Row) : r.tsz ≤ r.code.sz := by
  cases r with
  | set a t =>
    simp only [Row.tsz, Row.code, Tr.sz]
    omega
  | _ => exact Nat.zero_le _
theorem sum_map_le {α : Type} (f : α → Nat) (c : Nat) : ∀ l : List α, (∀ x ∈ l, f x ≤ c) → (l.map f).sum ≤ c * l.length
  | [], _ => by simp
  | x :: l, h => by
    have h1 := h x (List.mem_cons_self ..)
    have h2 := sum_map_le f c l fun y hy => h y (List.mem_cons_of_mem _ hy)
    rw [List.map_cons, List.sum_cons, List.length_cons, Nat.mul_succ]
    omega
theorem Seg.mem {off N : Nat} {rs : List Row} (h : Seg off N rs) {r : Row} (hr : r ∈ rs) : r.code.sz ≤ 250 := by
  obtain ⟨i, hi⟩ := List.mem_iff_getElem?.mp hr
  exact (h i r hi).2.2
theorem Seg.sets {off N : Nat} {rs : List Row} (h : Seg off N rs) : (rs.map Row.tsz).sum ≤ 250 * rs.length := sum_map_le _ _ _ fun r hr => Nat.le_trans (tsz_code r) (h.mem hr)
theorem Seg.code {off N : Nat} {rs : List Row} (h : Seg off N rs) : (codeT rs).sz ≤ 251 * rs.length + 1 := by
  unfold codeT
  rw [lst_sz, List.map_map]
  have := sum_map_le ((fun t : Tr => t.sz + 1) ∘ Row.code) 251 rs fun r hr => by
    have := h.mem hr
    show r.code.sz + 1 ≤ 251
    omega
  omega
theorem okk_ok {i n : Nat} {r : Row} (h : r.okk i n) : r.ok i n := ⟨h.1, fun a t e => by
  have h1 := tsz_code r
  have h2 := h.2.2
  subst e
  have h1 : t.sz ≤ _ := h1
  omega, h.2.1⟩
theorem Seg.ok {rs : List Row} (h : Seg 0 rs.length rs) (hl : rs.length ≤ 600) : Ok rs := ⟨hl, fun i r e => by
  have := okk_ok (h i r e)
  rw [Nat.zero_add] at this
  exact this, by
  have := h.sets
  omega⟩
theorem clr_len (f n : Nat) : (clr f n).length = n := by simp [clr]
theorem clr_get {f n i : Nat} {r : Row} (e : (clr f n)[i]? = some r) : i < n ∧ r = .set (f + i) .lf := by
  have hi := (List.getElem?_eq_some_iff.mp e).1
  rw [clr_len] at hi
  unfold clr at e
  rw [List.getElem?_map, List.getElem?_range hi] at e
  exact ⟨hi, (Option.some.inj e).symm⟩
theorem Seg.clr {off N f n : Nat} (h : f + n ≤ 20) : Seg off N (clr f n) := fun i r e => by
  obtain ⟨hi, rfl⟩ := clr_get e
  exact okk_set (by omega) (by decide)
theorem Sm.wd {L : Nat} {rs : List Row} (h : Sm L rs) : wd rs ≤ 16 := fm_le _ _ _ (by decide) fun x hx => by
  obtain ⟨r, hr, hx⟩ := List.mem_flatMap.mp hx
  obtain ⟨a, ha, rfl⟩ := List.mem_map.mp hx
  obtain ⟨i, hi⟩ := List.mem_iff_getElem?.mp hr
  have := (h.rows i r hi).1 a ha
  omega
theorem wd_reg {rs : List Row} {i : Nat} {r : Row} (e : rs[i]? = some r) {a : Nat} (ha : a ∈ r.regs) : a < wd rs := by
  have : a + 1 ≤ wd rs := fm_all _ _ _ (List.mem_flatMap.mpr ⟨r, List.mem_of_getElem? e, List.mem_map.mpr ⟨a, ha, rfl⟩⟩)
  omega
section
variable {d y n : List Row}
theorem dft_len : (dft d y n).length = 7 + d.length + (pl d y n - 1) + y.length + n.length := by
  unfold dft
  simp only [List.length_append, clr_len, List.length_cons, List.length_nil]
  omega
theorem pl_le (hd : Sm 11 d) (hy : Sm 75 y) (hn : Sm 8 n) : pl d y n ≤ 16 ∧ 1 ≤ pl d y n := by
  have h1 := hd.wd
  have h2 := hy.wd
  have h3 := hn.wd
  have := wd_pos d
  unfold pl
  omega
theorem dft_seg (hd : Sm 11 d) (hy : Sm 75 y) (hn : Sm 8 n) (off : Nat) : Seg off (off + (dft d y n).length) (dft d y n) := by
  have hp := pl_le hd hy hn
  have l1 := hd.len
  have l2 := hy.len
  have l3 := hn.len
  rw [dft_len]
  unfold dft
  generalize pl d y n = pp at hp
  refine Seg.app (Seg.app (Seg.app (Seg.app (Seg.app (Seg.app (Seg.app ?_ ?_) ?_) ?_) ?_) ?_) ?_) ?_
  · exact Seg.cons (okk_tail (by omega) (by decide)) (Seg.one (okk_head (by decide) (by decide)))
  · refine hd.seg ?_
    simp only [List.length_append, clr_len, List.length_cons, List.length_nil]
    omega
  · exact Seg.one (okk_move (by omega) (by decide))
  · exact Seg.clr (by omega)
  · refine Seg.cons (okk_move (by decide) (by omega)) (Seg.one (okk_jump (by omega) ?_ (by omega)))
    simp only [List.length_append, clr_len, List.length_cons, List.length_nil]
    omega
  · refine hy.seg ?_
    simp only [List.length_append, clr_len, List.length_cons, List.length_nil]
    omega
  · refine Seg.cons (okk_set (by omega) (by decide)) (Seg.one (okk_jump (by omega) ?_ (by omega)))
    simp only [List.length_append, clr_len, List.length_cons, List.length_nil]
    omega
  · refine hn.seg ?_
    simp only [List.length_append, clr_len, List.length_cons, List.length_nil]
    omega
theorem opn_len : opn.length = 16 := by decide
theorem opn_seg (off N : Nat) : Seg off N opn := by
  unfold opn opn0
  refine Seg.app ?_ (Seg.clr (by decide))
  exact Seg.cons (okk_head (by decide) (by decide)) (Seg.cons (okk_tail (by decide) (by decide)) (Seg.cons (okk_set (by decide) (by decide)) (Seg.cons (okk_cons (by decide) (by decide) (by decide)) (Seg.cons (okk_cons (by decide) (by decide) (by decide)) (Seg.cons (okk_set (by decide) (by decide)) (Seg.cons (okk_cons (by decide) (by decide) (by decide)) (Seg.cons (okk_set (by decide) (by decide)) (Seg.cons (okk_cons (by decide) (by decide) (by decide)) (Seg.cons (okk_cons (by decide) (by decide) (by decide)) (Seg.one (okk_cons (by decide) (by decide) (by decide))))))))))))
theorem dft_le (hd : Sm 11 d) (hy : Sm 75 y) (hn : Sm 8 n) : (dft d y n).length ≤ 116 := by
  have hp := pl_le hd hy hn
  have l1 := hd.len
  have l2 := hy.len
  have l3 := hn.len
  rw [dft_len]
  omega
theorem od_seg (hd : Sm 11 d) (hy : Sm 75 y) (hn : Sm 8 n) (off : Nat) : Seg off (off + (opn ++ dft d y n).length) (opn ++ dft d y n) := by
  refine Seg.app (opn_seg _ _) ?_
  have := dft_seg hd hy hn (off + 16)
  rw [List.length_append, opn_len, ← Nat.add_assoc]
  exact this
theorem od_code (hd : Sm 11 d) (hy : Sm 75 y) (hn : Sm 8 n) : (codeT (opn ++ dft d y n)).sz ≤ 33200 := by
  have h1 := (od_seg hd hy hn 0).code
  have h2 := dft_le hd hy hn
  rw [List.length_append, opn_len] at h1
  omega
theorem kn_len (rs : List Row) : (kn rs).length = 19 + rs.length := by
  unfold kn fill
  rw [List.length_append, List.length_append, opn_len]
  show 3 + _ = _
  omega
theorem kn_code (hd : Sm 11 d) (hy : Sm 75 y) (hn : Sm 8 n) : (codeT (kn (dft d y n))).sz ≤ 67000 := by
  have h1 := od_code hd hy hn
  have e : codeT (kn (dft d y n)) = .nd (.nd .lf (.nd one (codeT (opn ++ dft d y n)))) (.nd c2 (.nd c1 (codeT (opn ++ dft d y n)))) := rfl
  rw [e]
  have e1 : c1.sz ≤ 100 := by decide
  have e2 : c2.sz ≤ 100 := by decide
  simp only [Tr.sz]
  omega
theorem fill_get {rs : List Row} {t : Tr} {i : Nat} {r : Row} (e : (fill rs t)[i]? = some r) : r = .set 1 t ∨ r = .cons 0 1 0 ∨ r = .set 1 .lf ∨ (3 ≤ i ∧ rs[i - 3]? = some r) := by
  unfold fill at e
  match i, e with
  | 0, e => exact .inl (Option.some.inj e).symm
  | 1, e => exact .inr (.inl (Option.some.inj e).symm)
  | 2, e => exact .inr (.inr (.inl (Option.some.inj e).symm))
  | i + 3, e => exact .inr (.inr (.inr ⟨by omega, e⟩))
theorem fill_sum (rs : List Row) (t : Tr) : ((fill rs t).map Row.tsz).sum = t.sz + 1 + (rs.map Row.tsz).sum := by
  unfold fill
  rw [List.map_append, List.sum_append]
  show t.sz + (0 + (1 + 0)) + _ = _
  omega
theorem fill_len (rs : List Row) (t : Tr) : (fill rs t).length = 3 + rs.length := by
  unfold fill
  rw [List.length_append]
  rfl
theorem fill_ok {rs : List Row} {t : Tr} (hs : Seg 3 (3 + rs.length) rs) (hl : rs.length ≤ 300) (ht : t.sz ≤ 40000) : Ok (fill rs t) := by
  refine ⟨by rw [fill_len]; omega, fun i r e => ?_, ?_⟩
  · rw [fill_len]
    rcases fill_get e with rfl | rfl | rfl | ⟨hi, e⟩
    · exact ⟨fun x hx => by simp [Row.regs] at hx; omega, fun a t e => (by injection e with _ e; subst e; omega), fun a k e => by cases e⟩
    · exact okk_ok (okk_cons (by decide) (by decide) (by decide))
    · exact okk_ok (okk_set (by decide) (by decide))
    · have := okk_ok (hs _ r e)
      rw [show 3 + (i - 3) = i by omega] at this
      exact this
  · rw [fill_sum]
    have := hs.sets
    omega
theorem kn_ok (hd : Sm 11 d) (hy : Sm 75 y) (hn : Sm 8 n) : Ok (kn (dft d y n)) := by
  have h2 := dft_le hd hy hn
  exact fill_ok (od_seg hd hy hn 3) (by rw [List.length_append, opn_len]; omega) (Nat.le_trans (od_code hd hy hn) (by decide))
theorem dok (hd : Sm 11 d) (hy : Sm 75 y) (hn : Sm 8 n) : DOk d y n := by
  have h1 := od_code hd hy hn
  have h2 := dft_le hd hy hn
  have h3 := kn_code hd hy hn
  have s0 := dft_seg hd hy hn 0
  have s1 := od_seg hd hy hn 0
  rw [Nat.zero_add] at s0 s1
  exact ⟨hd.wd, hy.wd, hn.wd, Nat.le_trans hd.len (by decide), Nat.le_trans hy.len (by decide), Nat.le_trans hn.len (by decide), s0.ok (by omega), s1.ok (by rw [List.length_append, opn_len]; omega), kn_ok hd hy hn, by omega, by omega⟩
theorem Sm.vok {L : Nat} {rs : List Row} (h : Sm L rs) (hL : L ≤ 100) : VOk rs := by
  have hs : Seg 0 rs.length rs := h.seg (by omega)
  have h1 := h.len
  have h2 := hs.ok (by omega)
  exact ⟨by omega, h2.rows, by have := h2.sets; omega⟩
theorem kn_vok (hd : Sm 11 d) (hy : Sm 75 y) (hn : Sm 8 n) : VOk (kn (dft d y n)) := by
  have h := kn_ok hd hy hn
  exact ⟨by have := h.len; omega, h.rows, by have := h.sets; omega⟩
/-- how wide the whole is -/
theorem kn_wd (hd : Sm 11 d) (hy : Sm 75 y) (hn : Sm 8 n) : wd (kn (dft d y n)) ≤ max 8 (pl d y n + 2) := by
  refine fm_le _ _ _ (by omega) fun x hx => ?_
  obtain ⟨r, hr, hx⟩ := List.mem_flatMap.mp hx
  obtain ⟨a, ha, rfl⟩ := List.mem_map.mp hx
  have hp := pl_le hd hy hn
  have w1 : ∀ {rs : List Row}, r ∈ rs → wd rs ≤ pl d y n → a + 1 ≤ max 8 (pl d y n + 2) := fun hr hw => by
    obtain ⟨i, hi⟩ := List.mem_iff_getElem?.mp hr
    have := wd_reg hi ha
    omega
  have w2 : ∀ {q : Row}, r = q → (∀ b ∈ q.regs, b + 1 ≤ 8) → a + 1 ≤ max 8 (pl d y n + 2) := fun e h => by
    subst e
    have := h a ha
    omega
  unfold kn fill at hr
  rcases List.mem_append.mp hr with hr | hr
  · simp only [List.mem_cons, List.not_mem_nil, or_false] at hr
    rcases hr with hr | hr | hr
    · exact w2 hr (by simp [Row.regs])
    · exact w2 hr (by simp [Row.regs])
    · exact w2 hr (by simp [Row.regs])
  rcases List.mem_append.mp hr with hr | hr
  · have key : ∀ q ∈ opn, ∀ b ∈ q.regs, b + 1 ≤ 8 := by decide
    exact w2 rfl (key r hr)
  unfold dft at hr
  simp only [List.mem_append] at hr
  rcases hr with ((((((hr | hr) | hr) | hr) | hr) | hr) | hr) | hr
  · simp only [List.mem_cons, List.not_mem_nil, or_false] at hr
    rcases hr with rfl | rfl
    · simp [Row.regs] at ha
      omega
    · simp [Row.regs] at ha
      omega
  · exact w1 hr (by unfold pl; omega)
  · simp only [List.mem_cons, List.not_mem_nil, or_false] at hr
    subst hr
    simp [Row.regs] at ha
    omega
  · obtain ⟨i, hi⟩ := List.mem_iff_getElem?.mp hr
    obtain ⟨hi, rfl⟩ := clr_get hi
    simp [Row.regs] at ha
    omega
  · simp only [List.mem_cons, List.not_mem_nil, or_false] at hr
    rcases hr with rfl | rfl
    · simp [Row.regs] at ha
      omega
    · simp [Row.regs] at ha
      omega
  · exact w1 hr (by unfold pl; omega)
  · simp only [List.mem_cons, List.not_mem_nil, or_false] at hr
    rcases hr with rfl | rfl
    · simp [Row.regs] at ha
      omega
    · simp [Row.regs] at ha
      omega
  · exact w1 hr (by unfold pl; omega)
end
end K38
set_option Elab.async false
set_option linter.all false
set_option maxRecDepth 100000
set_option maxHeartbeats 4000000
namespace K38
open PySem PySem.Spec PyProof.Rows L2 He SX
/-! ### runs from a state -/
def itr (L : List Row) (s : MS) : Nat → MS
  | 0 => s
  | n + 1 => stp L (itr L s n)
theorem sts_itr (L : List Row) (x : Tr) : ∀ n, sts L x n = itr L (ini x) n
  | 0 => rfl
  | n + 1 => by
    show stp L (sts L x n) = stp L (itr L (ini x) n)
    rw [sts_itr L x n]
theorem itr_add (L : List Row) (s : MS) (k : Nat) : ∀ m, itr L s (k + m) = itr L (itr L s k) m
  | 0 => rfl
  | m + 1 => by
    show stp L (itr L s (k + m)) = stp L (itr L (itr L s k) m)
    rw [itr_add L s k m]
/-- k steps, none of them at the end and none too large -/
structure Rch (L : List Row) (s : MS) (k : Nat) (s' : MS) : Prop where
  e : itr L s k = s'
  go : ∀ j, j < k → (itr L s j).1 ≠ L.length ∧ ¬ big L (itr L s j)
theorem Rch.refl {L : List Row} {s : MS} : Rch L s 0 s := ⟨rfl, fun j h => absurd h (Nat.not_lt_zero _)⟩
theorem Rch.trans {L : List Row} {s s1 s2 : MS} {k m : Nat} (a : Rch L s k s1) (b : Rch L s1 m s2) : Rch L s (k + m) s2 := by
  refine ⟨by rw [itr_add, a.e, b.e], fun j hj => ?_⟩
  by_cases h : j < k
  · exact a.go j h
  · have := b.go (j - k) (by omega)
    rw [← a.e, ← itr_add, show k + (j - k) = j by omega] at this
    exact this
def Fo (L : List Row) (s : MS) : Prop := ∀ k, (itr L s k).1 ≠ L.length ∧ ¬ big L (itr L s k)
theorem Fo.of {L : List Row} {s s' : MS} {k : Nat} (a : Rch L s k s') (f : Fo L s') : Fo L s := fun j => by
  by_cases h : j < k
  · exact a.go j h
  · have := f (j - k)
    rw [← a.e, ← itr_add, show k + (j - k) = j by omega] at this
    exact this
theorem runs_non {L : List Row} {x : Tr} {n : Nat} {res : Res} (f : Fo L (ini x)) (h : RunIs L x n res) : res = .non := by
  cases res with
  | non => rfl
  | large =>
    obtain ⟨j, _, _, _, hb⟩ := h
    rw [sts_itr] at hb
    exact absurd hb (f j).2
  | done t k =>
    obtain ⟨_, _, he, _⟩ := h
    rw [sts_itr] at he
    exact absurd he (f k).1
theorem runs_done {L : List Row} {x : Tr} {n k : Nat} {s : MS} {res : Res} (a : Rch L (ini x) k s) (hs : s.1 = L.length) (hk : k ≤ n) (h : RunIs L x n res) : res = .done (s.2.getD 0 .lf) k := by
  have hend : (sts L x k).1 = L.length := by rw [sts_itr, a.e, hs]
  have hgo : Going L x k := fun j hj => by
    rw [sts_itr]
    exact a.go j hj
  cases res with
  | non =>
    obtain ⟨hg, hn⟩ := h
    by_cases e : k = n
    · subst e
      exact absurd hend hn
    · exact absurd hend (hg k (by omega)).1
  | large =>
    obtain ⟨j, hj, hg, hn, hb⟩ := h
    by_cases e : j < k
    · exact absurd hb (hgo j e).2
    · by_cases e2 : j = k
      · subst e2
        exact absurd hend hn
      · exact absurd hend (hg k (by omega)).1
  | done t k' =>
    obtain ⟨hk', hg, he, ht⟩ := h
    have : k' = k := by
      by_cases e : k' < k
      · exact absurd he (hgo k' e).1
      · by_cases e2 : k' = k
        · exact e2
        · exact absurd hend (hg k (by omega)).1
    subst this
    rw [ht, sts_itr, a.e]
/-! ### registers -/
theorem getD_set (R : List Tr) (a j : Nat) (v : Tr) : (R.set a v).getD j .lf = if a = j ∧ a < R.length then v else R.getD j .lf := by
  rw [List.getD_eq_getElem?_getD, List.getD_eq_getElem?_getD, List.getElem?_set]
  by_cases h : a = j
  · subst h
    by_cases h2 : a < R.length
    · simp [h2]
    · simp [h2]
  · simp [h]
/-! ### straight rows -/
def sm1 (r : Row) (R : List Tr) : Prop := match r with
  | .cons _ b c => 1 + (R.getD b .lf).sz + (R.getD c .lf).sz ≤ 200000
  | .jump _ _ => False
  | _ => True
def ex1 (r : Row) (R : List Tr) : List Tr := (r.next 0 R).2
def exs : List Row → List Tr → List Tr
  | [], R => R
  | r :: rs, R => exs rs (ex1 r R)
def exOk : List Row → List Tr → Prop
  | [], _ => True
  | r :: rs, R => sm1 r R ∧ exOk rs (ex1 r R)
theorem exs_app (a b : List Row) : ∀ R, exs (a ++ b) R = exs b (exs a R) := by
  induction a with
  | nil => intro R; rfl
  | cons r a ih => intro R; exact ih (ex1 r R)
theorem exOk_app (a b : List Row) : ∀ R, exOk a R → exOk b (exs a R) → exOk (a ++ b) R := by
  induction a with
  | nil => intro R _ h; exact h
  | cons r a ih => intro R h h2; exact ⟨h.1, ih _ h.2 h2⟩
theorem Rch.row {L : List Row} {pc : Nat} {r : Row} {R : List Tr} (h : L[pc]? = some r) (hs : sm1 r R) : Rch L (pc, R) 1 (pc + 1, ex1 r R) := by
  have hlt := (List.getElem?_eq_some_iff.mp h).1
  have e : itr L (pc, R) 1 = r.next pc R := by
    show stp L (pc, R) = _
    unfold stp
    show (match L[pc]? with | some r => r.next pc R | none => (pc, R)) = _
    rw [h]
  have e2 : r.next pc R = (pc + 1, ex1 r R) := by
    cases r with
    | jump a n => exact hs.elim
    | _ => rfl
  refine ⟨e.trans e2, fun j hj => ?_⟩
  obtain rfl : j = 0 := by omega
  refine ⟨Nat.ne_of_lt hlt, ?_⟩
  rintro ⟨a, b, c, h1, h2⟩
  have h1 : L[pc]? = some (.cons a b c) := h1
  rw [h] at h1
  obtain rfl := Option.some.inj h1
  have h2 : 200000 < ((itr L (pc, R) 1).2.getD a .lf).sz := h2
  rw [e.trans e2] at h2
  have h2 : 200000 < ((R.set a (.nd (R.getD b .lf) (R.getD c .lf))).getD a .lf).sz := h2
  rw [getD_set] at h2
  have hs : 1 + (R.getD b .lf).sz + (R.getD c .lf).sz ≤ 200000 := hs
  by_cases hc : a = a ∧ a < R.length
  · rw [if_pos hc] at h2
    have h2 : 200000 < 1 + (R.getD b .lf).sz + (R.getD c .lf).sz := h2
    omega
  · rw [if_neg hc] at h2
    have : ¬ a < R.length := fun z => hc ⟨rfl, z⟩
    rw [List.getD_eq_getElem?_getD, List.getElem?_eq_none (by omega)] at h2
    exact absurd h2 (by decide)
theorem Rch.seg : ∀ (seg pre post : List Row) (R : List Tr), exOk seg R → Rch (pre ++ (seg ++ post)) (pre.length, R) seg.length (pre.length + seg.length, exs seg R)
  | [], pre, post, R, _ => Rch.refl
  | r :: seg, pre, post, R, h => by
    have h1 : Rch (pre ++ (r :: seg ++ post)) (pre.length, R) 1 (pre.length + 1, ex1 r R) := Rch.row (by rw [List.getElem?_append_right (Nat.le_refl _), Nat.sub_self]; rfl) h.1
    have h2 := Rch.seg seg (pre ++ [r]) post (ex1 r R) h.2
    rw [List.append_assoc, List.length_append] at h2
    have h3 := h1.trans h2
    rw [show 1 + seg.length = (r :: seg).length by rw [List.length_cons]; omega, show pre.length + [r].length + seg.length = pre.length + (r :: seg).length by rw [List.length_cons, List.length_cons, List.length_nil]; omega] at h3
    exact h3
theorem Rch.segAt {L : List Row} (seg pre post : List Row) {pc k pc' : Nat} {R R' : List Tr} (hL : L = pre ++ (seg ++ post)) (hp : pc = pre.length) (hk : k = seg.length) (hp' : pc' = pre.length + seg.length) (hR : R' = exs seg R) (h : exOk seg R) : Rch L (pc, R) k (pc', R') := by
  subst hL hp hk hp' hR
  exact Rch.seg seg pre post R h
/-- a jump -/
theorem Rch.jmp {L : List Row} {pc a : Nat} {n : Int} {R : List Tr} (h : L[pc]? = some (.jump a n)) : Rch L (pc, R) 1 ((Row.jump a n).next pc R) := by
  have hlt := (List.getElem?_eq_some_iff.mp h).1
  have e : itr L (pc, R) 1 = (Row.jump a n).next pc R := by
    show stp L (pc, R) = _
    unfold stp
    show (match L[pc]? with | some r => r.next pc R | none => (pc, R)) = _
    rw [h]
  refine ⟨e, fun j hj => ?_⟩
  obtain rfl : j = 0 := by omega
  refine ⟨Nat.ne_of_lt hlt, ?_⟩
  rintro ⟨a', b, c, h1, _⟩
  have h1 : L[pc]? = some (.cons a' b c) := h1
  rw [h] at h1
  cases h1
/-! ### a program within another -/
structure Agr (pp : Nat) (R RB R0 : List Tr) : Prop where
  len : R.length = 20
  lenB : RB.length = 20
  ag : ∀ j, j < pp → R.getD j .lf = RB.getD j .lf
  fr : ∀ j, pp ≤ j → R.getD j .lf = R0.getD j .lf
theorem Agr.set {pp : Nat} {R RB R0 : List Tr} (h : Agr pp R RB R0) {a : Nat} (ha : a < pp) {v v' : Tr} (hv : v = v') : Agr pp (R.set a v) (RB.set a v') R0 := by
  subst hv
  refine ⟨by rw [List.length_set]; exact h.len, by rw [List.length_set]; exact h.lenB, fun j hj => ?_, fun j hj => ?_⟩
  · rw [getD_set, getD_set, h.len, h.lenB, h.ag j hj]
  · rw [getD_set, if_neg (fun z => by omega)]
    exact h.fr j hj
theorem next_agr {pp o pc : Nat} {R RB R0 : List Tr} (h : Agr pp R RB R0) {r : Row} (hr : ∀ a ∈ r.regs, a < pp) (hj : ∀ a n, r = .jump a n → 0 ≤ (pc : Int) + n) :
    (r.next (o + pc) R).1 = o + (r.next pc RB).1 ∧ Agr pp (r.next (o + pc) R).2 (r.next pc RB).2 R0 := by
  cases r with
  | set a t => exact ⟨rfl, h.set (hr a (by simp [Row.regs])) rfl⟩
  | move a b => exact ⟨rfl, h.set (hr a (by simp [Row.regs])) (h.ag b (hr b (by simp [Row.regs])))⟩
  | cons a b c => exact ⟨rfl, h.set (hr a (by simp [Row.regs])) (by rw [h.ag b (hr b (by simp [Row.regs])), h.ag c (hr c (by simp [Row.regs]))])⟩
  | head a b => exact ⟨rfl, h.set (hr a (by simp [Row.regs])) (by rw [h.ag b (hr b (by simp [Row.regs]))])⟩
  | tail a b => exact ⟨rfl, h.set (hr a (by simp [Row.regs])) (by rw [h.ag b (hr b (by simp [Row.regs]))])⟩
  | jump a n =>
    have h1 := h.ag a (hr a (by simp [Row.regs]))
    have h2 := hj a n rfl
    simp only [Row.next]
    rw [h1]
    by_cases h0 : RB.getD a .lf = .lf
    · rw [if_pos h0, if_pos h0]
      exact ⟨rfl, h⟩
    · rw [if_neg h0, if_neg h0]
      refine ⟨?_, h⟩
      show (((o + pc : Nat) : Int) + n).toNat = o + ((pc : Int) + n).toNat
      omega
theorem sim (A B C : List Row) (ok : VOk B) {pp : Nat} (hreg : ∀ (i : Nat) (r : Row), B[i]? = some r → ∀ a ∈ r.regs, a < pp) {z : Tr} {R0 : List Tr} (h0 : Agr pp R0 (ini z).2 R0) :
    ∀ k, Going B z k → ∃ R', Rch (A ++ (B ++ C)) (A.length, R0) k (A.length + (sts B z k).1, R') ∧ Agr pp R' (sts B z k).2 R0
  | 0, _ => ⟨R0, Rch.refl, h0⟩
  | k + 1, hg => by
    obtain ⟨R1, r1, g1⟩ := sim A B C ok hreg h0 k fun j hj => hg j (by omega)
    obtain ⟨hne, hnb⟩ := hg k (by omega)
    have hpc := sts_pc ok z k
    have hs : sts B z (k + 1) = stp B (sts B z k) := rfl
    generalize sts B z k = s at *
    have hlt : s.1 < B.length := by omega
    have hrow : B[s.1]? = some B[s.1] := List.getElem?_eq_getElem hlt
    generalize B[s.1] = r at hrow
    have hok := ok.rows _ _ hrow
    have e1 : stp B s = r.next s.1 s.2 := by unfold stp; rw [hrow]
    obtain ⟨n1, n2⟩ := next_agr (o := A.length) (pc := s.1) g1 (hreg _ _ hrow) (fun a n e => (hok.2.2 a n e).1)
    have hL : (A ++ (B ++ C))[A.length + s.1]? = some r := by
      rw [List.getElem?_append_right (by omega), show A.length + s.1 - A.length = s.1 by omega, List.getElem?_append_left hlt]
      exact hrow
    have e2 : itr (A ++ (B ++ C)) (A.length + s.1, R1) 1 = r.next (A.length + s.1) R1 := by
      show stp _ (A.length + s.1, R1) = _
      unfold stp
      show (match (A ++ (B ++ C))[A.length + s.1]? with | some r => r.next (A.length + s.1) R1 | none => (A.length + s.1, R1)) = _
      rw [hL]
    have step : Rch (A ++ (B ++ C)) (A.length + s.1, R1) 1 (r.next (A.length + s.1) R1) := by
      refine ⟨e2, fun j hj => ?_⟩
      obtain rfl : j = 0 := by omega
      refine ⟨?_, ?_⟩
      · show A.length + s.1 ≠ (A ++ (B ++ C)).length
        rw [List.length_append, List.length_append]
        omega
      · rintro ⟨a, b, c, q1, q2⟩
        have q1 : (A ++ (B ++ C))[A.length + s.1]? = some (.cons a b c) := q1
        rw [hL] at q1
        obtain rfl := Option.some.inj q1
        refine hnb ⟨a, b, c, hrow, ?_⟩
        have q2 : 200000 < ((itr (A ++ (B ++ C)) (A.length + s.1, R1) 1).2.getD a .lf).sz := q2
        rw [e2, n2.ag a (hreg _ _ hrow a (by simp [Row.regs]))] at q2
        rw [e1]
        exact q2
    rw [hs, e1]
    refine ⟨_, r1.trans ?_, n2⟩
    rw [← n1]
    exact step
/-! ### what never ends -/
theorem stuck_fo {B : List Row} {z : Tr} (h : Stuck B z) : ∀ k, (sts B z k).1 ≠ B.length ∧ ¬ big B (sts B z k) := by
  obtain ⟨j, i, hji, hi, he, hne, hsz⟩ := h
  have per : ∀ m, sts B z (i + m) = sts B z (j + m) := by
    intro m
    rw [sts_itr, sts_itr, itr_add, itr_add, ← sts_itr, ← sts_itr, he]
  have low : ∀ k, k < i → (sts B z k).1 ≠ B.length ∧ ¬ big B (sts B z k) := fun k hk => by
    refine ⟨hne k hk, ?_⟩
    rintro ⟨a, b, c, _, hb⟩
    have hb : 200000 < ((sts B z (k + 1)).2.getD a .lf).sz := hb
    have hall := hsz (k + 1) (by omega) (by omega)
    generalize (sts B z (k + 1)).2 = R at hb hall
    rw [List.getD_eq_getElem?_getD] at hb
    cases hq : R[a]? with
    | none =>
      rw [hq] at hb
      exact absurd hb (by decide)
    | some t =>
      rw [hq] at hb
      have hb : 200000 < t.sz := hb
      have := hall t (List.mem_of_getElem? hq)
      omega
  intro k
  induction k using Nat.strongRecOn with
  | ind k ih =>
    by_cases hk : k < i
    · exact low k hk
    · have := ih (j + (k - i)) (by omega)
      rw [← per (k - i), show i + (k - i) = k by omega] at this
      exact this
end K38
set_option Elab.async false
set_option linter.all false
set_option maxRecDepth 100000
set_option maxHeartbeats 4000000
namespace K38
open PySem PySem.Spec PyProof.Rows L2 He SX
/-! ### the whole -/
abbrev pre19 (T : Tr) : List Row := [Row.set 1 T, .cons 0 1 0, .set 1 .lf] ++ opn
abbrev full (T : Tr) : Tr := .nd (.nd .lf (.nd one T)) (.nd c2 (.nd c1 T))
theorem pre_ex (T x : Tr) : exs (pre19 T) (x :: List.replicate 19 .lf) = .nd (full T) x :: List.replicate 19 .lf := by rfl
theorem pre_ok (T x : Tr) (hT : T.sz ≤ 40000) (hx : x.sz ≤ 2000) : exOk (pre19 T) (x :: List.replicate 19 .lf) := by
  have e1 : c1.sz ≤ 100 := by decide
  have e2 : c2.sz ≤ 100 := by decide
  have g1 : 1 + T.sz + x.sz ≤ 200000 := by omega
  have g2 : 1 + one.sz + T.sz ≤ 200000 := by simp only [Tr.sz]; omega
  have g3 : 1 + Tr.lf.sz + (Tr.nd one T).sz ≤ 200000 := by simp only [Tr.sz]; omega
  have g4 : 1 + c1.sz + T.sz ≤ 200000 := by omega
  have g5 : 1 + c2.sz + (Tr.nd c1 T).sz ≤ 200000 := by simp only [Tr.sz]; omega
  have g6 : 1 + (Tr.nd .lf (.nd one T)).sz + (Tr.nd c2 (.nd c1 T)).sz ≤ 200000 := by simp only [Tr.sz]; omega
  have g7 : 1 + (full T).sz + x.sz ≤ 200000 := by simp only [Tr.sz]; omega
  exact And.intro trivial (And.intro g1 (And.intro trivial (And.intro trivial (And.intro trivial (And.intro trivial (And.intro g2 (And.intro g3 (And.intro trivial (And.intro g4 (And.intro trivial (And.intro g5 (And.intro g6 (And.intro g7 (And.intro trivial (And.intro trivial (And.intro trivial (And.intro trivial (And.intro trivial trivial))))))))))))))))))
theorem ini_get (a : Tr) (j : Nat) : (a :: List.replicate 19 Tr.lf).getD j .lf = if j = 0 then a else .lf := by
  cases j with
  | zero => rfl
  | succ j =>
    rw [if_neg (by omega)]
    show (List.replicate 19 Tr.lf).getD j .lf = .lf
    rw [List.getD_eq_getElem?_getD, List.getElem?_replicate]
    split <;> rfl
theorem clr_succ (f n : Nat) : clr f (n + 1) = clr f n ++ [Row.set (f + n) .lf] := by
  unfold clr
  rw [List.range_succ, List.map_append]
  rfl
theorem exs_len : ∀ (rs : List Row) (R : List Tr), (exs rs R).length = R.length
  | [], _ => rfl
  | r :: rs, R => (exs_len rs (ex1 r R)).trans (next_len r 0 R)
theorem clr_exOk : ∀ (f n : Nat) (R : List Tr), exOk (clr f n) R
  | _, 0, _ => trivial
  | f, n + 1, R => by
    rw [clr_succ]
    exact exOk_app _ _ _ (clr_exOk f n R) (And.intro trivial trivial)
theorem clr_get2 (f : Nat) : ∀ (n j : Nat) (R : List Tr), j < R.length → (exs (clr f n) R).getD j .lf = if f ≤ j ∧ j < f + n then .lf else R.getD j .lf
  | 0, j, R, _ => by
    rw [if_neg (by omega)]
    rfl
  | n + 1, j, R, h => by
    rw [clr_succ, exs_app]
    show ((exs (clr f n) R).set (f + n) .lf).getD j .lf = _
    rw [getD_set, exs_len, clr_get2 f n j R h]
    by_cases e : f + n = j
    · rw [if_pos ⟨e, by omega⟩, if_pos (by omega)]
    · rw [if_neg (fun z => e z.1)]
      by_cases e2 : f ≤ j ∧ j < f + n
      · rw [if_pos e2, if_pos (by omega)]
      · rw [if_neg e2, if_neg (by omega)]
theorem at_len {A B : List Row} {r : Row} {k : Nat} (h : k = A.length) : (A ++ (r :: B))[k]? = some r := by
  subst h
  rw [List.getElem?_append_right (Nat.le_refl _), Nat.sub_self]
  rfl
section
variable {d y n : List Row} {pp : Nat} {T x : Tr}
/-- the whole, piece by piece -/
abbrev whole (d y n : List Row) (pp : Nat) (T : Tr) : List Row := pre19 T ++ ([Row.tail pp 0, Row.head 0 0] ++ (d ++ (([Row.move (pp + 1) 0] ++ (clr 1 (pp - 1) ++ [Row.move 0 pp])) ++ (Row.jump (pp + 1) ((y.length : Int) + 3) :: (y ++ ([Row.set (pp + 1) one] ++ (Row.jump (pp + 1) ((n.length : Int) + 1) :: n)))))))
theorem kn_whole (d y n : List Row) : kn (dft d y n) = whole d y n (pl d y n) (codeT (opn ++ dft d y n)) := by
  unfold kn fill
  generalize codeT (opn ++ dft d y n) = T
  unfold dft whole pre19
  generalize pl d y n = pp
  simp only [List.append_assoc, List.cons_append, List.nil_append]
theorem to_d (hp : 1 ≤ pp ∧ pp ≤ 16) (hT : T.sz ≤ 40000) (hx : x.sz ≤ 2000) : ∃ R1, Rch (whole d y n pp T) (ini x) 21 (21, R1) ∧ Agr pp R1 (ini (full T)).2 R1 ∧ R1.getD pp .lf = x := by
  have s1 : Rch (whole d y n pp T) (0, x :: List.replicate 19 .lf) 19 (19, .nd (full T) x :: List.replicate 19 .lf) := Rch.segAt (pre19 T) [] ([Row.tail pp 0, Row.head 0 0] ++ (d ++ (([Row.move (pp + 1) 0] ++ (clr 1 (pp - 1) ++ [Row.move 0 pp])) ++ (Row.jump (pp + 1) ((y.length : Int) + 3) :: (y ++ ([Row.set (pp + 1) one] ++ (Row.jump (pp + 1) ((n.length : Int) + 1) :: n))))))) rfl rfl rfl rfl (pre_ex T x).symm (pre_ok T x hT hx)
  have s2 : Rch (whole d y n pp T) (19, .nd (full T) x :: List.replicate 19 .lf) 2 (21, exs [Row.tail pp 0, Row.head 0 0] (.nd (full T) x :: List.replicate 19 .lf)) := Rch.segAt [Row.tail pp 0, Row.head 0 0] (pre19 T) _ rfl rfl rfl rfl rfl (And.intro trivial (And.intro trivial trivial))
  have e0 : (ini (full T)).2 = full T :: List.replicate 19 .lf := rfl
  refine ⟨_, s1.trans s2, ?_⟩
  have hl : (Tr.nd (full T) x :: List.replicate 19 .lf).length = 20 := rfl
  rw [e0]
  generalize full T = C at hl ⊢
  have hR : exs [Row.tail pp 0, Row.head 0 0] (.nd C x :: List.replicate 19 .lf) = ((Tr.nd C x :: List.replicate 19 .lf).set pp x).set 0 (((Tr.nd C x :: List.replicate 19 .lf).set pp x).getD 0 .lf).hd := rfl
  rw [hR, getD_set, if_neg (fun z => by omega)]
  have e3 : ((Tr.nd C x :: List.replicate 19 Tr.lf).getD 0 .lf).hd = C := rfl
  rw [e3]
  have g : ∀ j, (((Tr.nd C x :: List.replicate 19 .lf).set pp x).set 0 C).getD j .lf = if 0 = j then C else if pp = j then x else .lf := fun j => by
    rw [getD_set, List.length_set, hl, getD_set, hl, ini_get]
    by_cases h0 : 0 = j
    · rw [if_pos ⟨h0, by decide⟩, if_pos h0]
    · rw [if_neg (fun z => h0 z.1), if_neg h0]
      by_cases h1 : pp = j
      · rw [if_pos ⟨h1, by omega⟩, if_pos h1]
      · rw [if_neg (fun z => h1 z.1), if_neg h1, if_neg (by omega)]
  refine ⟨⟨by rw [List.length_set, List.length_set, hl], rfl, fun j hj => ?_, fun j _ => rfl⟩, ?_⟩
  · rw [g, ini_get]
    by_cases h0 : 0 = j
    · rw [if_pos h0, if_pos h0.symm]
    · rw [if_neg h0, if_neg (by omega), if_neg (by omega)]
  · rw [g, if_neg (by omega), if_pos rfl]
/-- from the end of the decider to the jump -/
theorem to_j (hp : 1 ≤ pp ∧ pp ≤ 16) {R : List Tr} (hl : R.length = 20) (hx : R.getD pp .lf = x) : ∃ R1, Rch (whole d y n pp T) (21 + d.length, R) (pp + 1) (22 + d.length + pp, R1) ∧ Agr pp R1 (ini x).2 R1 ∧ R1.getD (pp + 1) .lf = R.getD 0 .lf := by
  have hL : whole d y n pp T = (pre19 T ++ ([Row.tail pp 0, Row.head 0 0] ++ d)) ++ (([Row.move (pp + 1) 0] ++ (clr 1 (pp - 1) ++ [Row.move 0 pp])) ++ (Row.jump (pp + 1) ((y.length : Int) + 3) :: (y ++ ([Row.set (pp + 1) one] ++ (Row.jump (pp + 1) ((n.length : Int) + 1) :: n))))) := by
    unfold whole
    simp only [List.append_assoc]
  have hpl : (pre19 T ++ ([Row.tail pp 0, Row.head 0 0] ++ d)).length = 21 + d.length := by
    simp only [pre19, List.length_append, List.length_cons, List.length_nil, clr_len, opn_len]
    omega
  have hsl : ([Row.move (pp + 1) 0] ++ (clr 1 (pp - 1) ++ [Row.move 0 pp])).length = pp + 1 := by
    simp only [pre19, List.length_append, List.length_cons, List.length_nil, clr_len, opn_len]
    omega
  have hok : exOk ([Row.move (pp + 1) 0] ++ (clr 1 (pp - 1) ++ [Row.move 0 pp])) R := exOk_app _ _ _ (And.intro trivial trivial) (exOk_app _ _ _ (clr_exOk _ _ _) (And.intro trivial trivial))
  have s1 := Rch.segAt (L := whole d y n pp T) (pc := 21 + d.length) (k := pp + 1) (pc' := 22 + d.length + pp) _ _ _ hL hpl.symm hsl.symm (by rw [hpl, hsl]; omega) rfl hok
  refine ⟨_, s1, ?_⟩
  have e1 : exs ([Row.move (pp + 1) 0] ++ (clr 1 (pp - 1) ++ [Row.move 0 pp])) R = (exs (clr 1 (pp - 1)) (R.set (pp + 1) (R.getD 0 .lf))).set 0 ((exs (clr 1 (pp - 1)) (R.set (pp + 1) (R.getD 0 .lf))).getD pp .lf) := by
    rw [exs_app, exs_app]
    rfl
  have hl1 : (R.set (pp + 1) (R.getD 0 .lf)).length = 20 := by rw [List.length_set, hl]
  have g1 : ∀ j, j < 20 → (exs (clr 1 (pp - 1)) (R.set (pp + 1) (R.getD 0 .lf))).getD j .lf = if 1 ≤ j ∧ j < pp then .lf else if pp + 1 = j then R.getD 0 .lf else R.getD j .lf := fun j hj => by
    rw [clr_get2 _ _ _ _ (by rw [hl1]; exact hj), getD_set, hl]
    by_cases h1 : 1 ≤ j ∧ j < pp
    · rw [if_pos (by omega), if_pos h1]
    · rw [if_neg (by omega), if_neg h1]
      by_cases h2 : pp + 1 = j
      · rw [if_pos ⟨h2, by omega⟩, if_pos h2]
      · rw [if_neg (fun z => h2 z.1), if_neg h2]
  have hl2 : (exs (clr 1 (pp - 1)) (R.set (pp + 1) (R.getD 0 .lf))).length = 20 := by rw [exs_len, hl1]
  rw [e1, g1 pp (by omega), if_neg (by omega), if_neg (by omega), hx]
  refine ⟨⟨by rw [List.length_set, hl2], rfl, fun j hj => ?_, fun j _ => rfl⟩, ?_⟩
  · rw [getD_set, hl2, g1 j (by omega)]
    show _ = (x :: List.replicate 19 Tr.lf).getD j .lf
    rw [ini_get]
    by_cases h0 : 0 = j
    · rw [if_pos ⟨h0, by decide⟩, if_pos h0.symm]
    · rw [if_neg (fun z => h0 z.1), if_pos (by omega), if_neg (by omega)]
  · rw [getD_set, if_neg (fun z => by omega), g1 (pp + 1) (by omega), if_neg (by omega), if_pos rfl]
theorem whole_len (hp : 1 ≤ pp) : (whole d y n pp T).length = 25 + d.length + pp + y.length + n.length := by
  simp only [whole, pre19, List.length_append, List.length_cons, List.length_nil, clr_len, opn_len]
  omega
/-- yes -/
theorem y_end (hp : 1 ≤ pp ∧ pp ≤ 16) (ok : VOk y) (hw : wd y ≤ pp) {R : List Tr} (ha : Agr pp R (ini x).2 R) (hv : R.getD (pp + 1) .lf = .lf) :
    (∀ j t, Going y x j → (sts y x j).1 = y.length → t = (sts y x j).2.getD 0 .lf → ∃ s, Rch (whole d y n pp T) (22 + d.length + pp, R) (j + 3) s ∧ s.1 = (whole d y n pp T).length ∧ s.2.getD 0 .lf = t) ∧
    (Stuck y x → Fo (whole d y n pp T) (22 + d.length + pp, R)) := by
  have hreg : ∀ (i : Nat) (r : Row), y[i]? = some r → ∀ a ∈ r.regs, a < pp := fun i r e a h => Nat.lt_of_lt_of_le (wd_reg e h) hw
  have hA : (pre19 T ++ ([Row.tail pp 0, Row.head 0 0] ++ (d ++ ([Row.move (pp + 1) 0] ++ (clr 1 (pp - 1) ++ [Row.move 0 pp]))))).length = 22 + d.length + pp := by
    simp only [pre19, List.length_append, List.length_cons, List.length_nil, clr_len, opn_len]
    omega
  have hL : whole d y n pp T = (pre19 T ++ ([Row.tail pp 0, Row.head 0 0] ++ (d ++ ([Row.move (pp + 1) 0] ++ (clr 1 (pp - 1) ++ [Row.move 0 pp]))))) ++ (Row.jump (pp + 1) ((y.length : Int) + 3) :: (y ++ ([Row.set (pp + 1) one] ++ (Row.jump (pp + 1) ((n.length : Int) + 1) :: n)))) := by
    unfold whole
    simp only [List.append_assoc]
  have j1 : Rch (whole d y n pp T) (22 + d.length + pp, R) 1 (23 + d.length + pp, R) := by
    have := Rch.jmp (L := whole d y n pp T) (pc := 22 + d.length + pp) (R := R) (a := pp + 1) (n := (y.length : Int) + 3) (by rw [hL]; exact at_len hA.symm)
    have e : (Row.jump (pp + 1) ((y.length : Int) + 3)).next (22 + d.length + pp) R = (23 + d.length + pp, R) := by
      show (if R.getD (pp + 1) .lf = .lf then (22 + d.length + pp + 1, R) else _) = _
      rw [if_pos hv]
      exact Prod.ext (by show 22 + d.length + pp + 1 = _; omega) rfl
    rw [e] at this
    exact this
  generalize hAA : pre19 T ++ ([Row.tail pp 0, Row.head 0 0] ++ (d ++ ([Row.move (pp + 1) 0] ++ (clr 1 (pp - 1) ++ [Row.move 0 pp])))) = A at hA hL
  have hL2 : whole d y n pp T = (A ++ [Row.jump (pp + 1) ((y.length : Int) + 3)]) ++ (y ++ ([Row.set (pp + 1) one] ++ (Row.jump (pp + 1) ((n.length : Int) + 1) :: n))) := by
    rw [hL]
    simp only [List.append_assoc, List.cons_append, List.nil_append]
  have hA2 : (A ++ [Row.jump (pp + 1) ((y.length : Int) + 3)]).length = 23 + d.length + pp := by
    rw [List.length_append, hA]
    show 22 + d.length + pp + 1 = _
    omega
  have sm := sim (A ++ [Row.jump (pp + 1) ((y.length : Int) + 3)]) y ([Row.set (pp + 1) one] ++ (Row.jump (pp + 1) ((n.length : Int) + 1) :: n)) ok hreg ha
  rw [← hL2, hA2] at sm
  refine ⟨fun j t hg he ht => ?_, fun hst => Fo.of j1 fun k => ?_⟩
  · obtain ⟨R1, r1, a1⟩ := sm j hg
    rw [he] at r1
    have r2 : Rch (whole d y n pp T) (23 + d.length + pp + y.length, R1) 1 (24 + d.length + pp + y.length, R1.set (pp + 1) one) := by
      refine Rch.segAt [Row.set (pp + 1) one] ((A ++ [Row.jump (pp + 1) ((y.length : Int) + 3)]) ++ y) (Row.jump (pp + 1) ((n.length : Int) + 1) :: n) ?_ ?_ rfl ?_ rfl (And.intro trivial trivial)
      · rw [hL2]
        simp only [List.append_assoc]
      · rw [List.length_append, hA2]
      · rw [List.length_append, hA2]
        show _ = 23 + d.length + pp + y.length + 1
        omega
    have r3 := Rch.jmp (L := whole d y n pp T) (pc := 24 + d.length + pp + y.length) (R := R1.set (pp + 1) one) (a := pp + 1) (n := (n.length : Int) + 1) (by
      have hL3 : whole d y n pp T = ((A ++ [Row.jump (pp + 1) ((y.length : Int) + 3)]) ++ (y ++ [Row.set (pp + 1) one])) ++ (Row.jump (pp + 1) ((n.length : Int) + 1) :: n) := by
        rw [hL2]
        simp only [List.append_assoc]
      rw [hL3]
      refine at_len ?_
      rw [List.length_append, hA2, List.length_append]
      show _ = 23 + d.length + pp + (y.length + 1)
      omega)
    have e : (Row.jump (pp + 1) ((n.length : Int) + 1)).next (24 + d.length + pp + y.length) (R1.set (pp + 1) one) = (25 + d.length + pp + y.length + n.length, R1.set (pp + 1) one) := by
      show (if (R1.set (pp + 1) one).getD (pp + 1) .lf = .lf then _ else ((((24 + d.length + pp + y.length : Nat) : Int) + ((n.length : Int) + 1)).toNat, R1.set (pp + 1) one)) = _
      have h : (R1.set (pp + 1) one).getD (pp + 1) .lf = one := by rw [getD_set, if_pos ⟨rfl, by rw [a1.len]; omega⟩]
      rw [h, if_neg (fun z => by cases z)]
      exact Prod.ext (by show (((24 + d.length + pp + y.length : Nat) : Int) + ((n.length : Int) + 1)).toNat = _; omega) rfl
    rw [e] at r3
    refine ⟨(25 + d.length + pp + y.length + n.length, R1.set (pp + 1) one), ?_, (whole_len hp.1).symm, ?_⟩
    · have := ((j1.trans r1).trans r2).trans r3
      rw [show 1 + j + 1 + 1 = j + 3 by omega] at this
      exact this
    · show (R1.set (pp + 1) one).getD 0 .lf = t
      rw [getD_set, if_neg (fun z => by omega), a1.ag 0 (by omega), ht]
  · have hf := stuck_fo hst
    obtain ⟨R1, r1, a1⟩ := sm (k + 1) fun j _ => hf j
    exact r1.go k (by omega)
/-- no -/
theorem n_end (hp : 1 ≤ pp ∧ pp ≤ 16) (ok : VOk n) (hw : wd n ≤ pp) {R : List Tr} (ha : Agr pp R (ini x).2 R) (hv : R.getD (pp + 1) .lf ≠ .lf) :
    (∀ j t, Going n x j → (sts n x j).1 = n.length → t = (sts n x j).2.getD 0 .lf → ∃ s, Rch (whole d y n pp T) (22 + d.length + pp, R) (j + 3) s ∧ s.1 = (whole d y n pp T).length ∧ s.2.getD 0 .lf = t ∨ Rch (whole d y n pp T) (22 + d.length + pp, R) (j + 1) s ∧ s.1 = (whole d y n pp T).length ∧ s.2.getD 0 .lf = t) ∧
    (Stuck n x → Fo (whole d y n pp T) (22 + d.length + pp, R)) := by
  have hreg : ∀ (i : Nat) (r : Row), n[i]? = some r → ∀ a ∈ r.regs, a < pp := fun i r e a h => Nat.lt_of_lt_of_le (wd_reg e h) hw
  have hA : (pre19 T ++ ([Row.tail pp 0, Row.head 0 0] ++ (d ++ ([Row.move (pp + 1) 0] ++ (clr 1 (pp - 1) ++ [Row.move 0 pp]))))).length = 22 + d.length + pp := by
    simp only [pre19, List.length_append, List.length_cons, List.length_nil, clr_len, opn_len]
    omega
  have hL : whole d y n pp T = (pre19 T ++ ([Row.tail pp 0, Row.head 0 0] ++ (d ++ ([Row.move (pp + 1) 0] ++ (clr 1 (pp - 1) ++ [Row.move 0 pp]))))) ++ (Row.jump (pp + 1) ((y.length : Int) + 3) :: (y ++ ([Row.set (pp + 1) one] ++ (Row.jump (pp + 1) ((n.length : Int) + 1) :: n)))) := by
    unfold whole
    simp only [List.append_assoc]
  have j1 : Rch (whole d y n pp T) (22 + d.length + pp, R) 1 (25 + d.length + pp + y.length, R) := by
    have := Rch.jmp (L := whole d y n pp T) (pc := 22 + d.length + pp) (R := R) (a := pp + 1) (n := (y.length : Int) + 3) (by rw [hL]; exact at_len hA.symm)
    have e : (Row.jump (pp + 1) ((y.length : Int) + 3)).next (22 + d.length + pp) R = (25 + d.length + pp + y.length, R) := by
      show (if R.getD (pp + 1) .lf = .lf then _ else ((((22 + d.length + pp : Nat) : Int) + ((y.length : Int) + 3)).toNat, R)) = _
      rw [if_neg hv]
      exact Prod.ext (by show (((22 + d.length + pp : Nat) : Int) + ((y.length : Int) + 3)).toNat = _; omega) rfl
    rw [e] at this
    exact this
  generalize hAA : pre19 T ++ ([Row.tail pp 0, Row.head 0 0] ++ (d ++ ([Row.move (pp + 1) 0] ++ (clr 1 (pp - 1) ++ [Row.move 0 pp])))) = A at hA hL
  have hL2 : whole d y n pp T = (A ++ (Row.jump (pp + 1) ((y.length : Int) + 3) :: (y ++ [Row.set (pp + 1) one, Row.jump (pp + 1) ((n.length : Int) + 1)]))) ++ (n ++ []) := by
    rw [hL]
    simp only [List.append_assoc, List.cons_append, List.nil_append, List.append_nil]
  have hA2 : (A ++ (Row.jump (pp + 1) ((y.length : Int) + 3) :: (y ++ [Row.set (pp + 1) one, Row.jump (pp + 1) ((n.length : Int) + 1)]))).length = 25 + d.length + pp + y.length := by
    rw [List.length_append, hA, List.length_cons, List.length_append]
    show 22 + d.length + pp + (y.length + 2 + 1) = _
    omega
  have sm := sim (A ++ (Row.jump (pp + 1) ((y.length : Int) + 3) :: (y ++ [Row.set (pp + 1) one, Row.jump (pp + 1) ((n.length : Int) + 1)]))) n [] ok hreg ha
  rw [← hL2, hA2] at sm
  refine ⟨fun j t hg he ht => ?_, fun hst => Fo.of j1 fun k => ?_⟩
  · obtain ⟨R1, r1, a1⟩ := sm j hg
    rw [he] at r1
    refine ⟨(25 + d.length + pp + y.length + n.length, R1), .inr ⟨?_, (whole_len hp.1).symm, ?_⟩⟩
    · have := j1.trans r1
      rw [show 1 + j = j + 1 by omega] at this
      exact this
    · rw [ht]
      exact a1.ag 0 (by omega)
  · have hf := stuck_fo hst
    obtain ⟨R1, r1, a1⟩ := sm (k + 1) fun j _ => hf j
    exact r1.go k (by omega)
end
section
variable {d y n : List Row} {x : Tr}
theorem kn_full (d y n : List Row) : codeT (kn (dft d y n)) = full (codeT (opn ++ dft d y n)) := rfl
theorem d_sim (hd : Sm 11 d) (hy : Sm 75 y) (hn : Sm 8 n) (hx : x.sz ≤ 2000) : ∃ R0, R0.getD (pl d y n) .lf = x ∧ ∀ k, Going d (codeT (kn (dft d y n))) k →
    ∃ R', Rch (kn (dft d y n)) (ini x) (21 + k) (21 + (sts d (codeT (kn (dft d y n))) k).1, R') ∧ Agr (pl d y n) R' (sts d (codeT (kn (dft d y n))) k).2 R0 := by
  have hp := pl_le hd hy hn
  have hw : wd d ≤ pl d y n := by unfold pl; omega
  have hT := od_code hd hy hn
  rw [kn_full, kn_whole]
  generalize pl d y n = pp at hp hw ⊢
  generalize codeT (opn ++ dft d y n) = T at hT ⊢
  obtain ⟨R0, r0, a0, e0⟩ := to_d (d := d) (y := y) (n := n) ⟨hp.2, hp.1⟩ (Nat.le_trans hT (by decide)) hx
  refine ⟨R0, e0, fun k hg => ?_⟩
  have hL : whole d y n pp T = (pre19 T ++ [Row.tail pp 0, Row.head 0 0]) ++ (d ++ (([Row.move (pp + 1) 0] ++ (clr 1 (pp - 1) ++ [Row.move 0 pp])) ++ (Row.jump (pp + 1) ((y.length : Int) + 3) :: (y ++ ([Row.set (pp + 1) one] ++ (Row.jump (pp + 1) ((n.length : Int) + 1) :: n)))))) := by
    unfold whole
    simp only [List.append_assoc]
  obtain ⟨R', r1, a1⟩ := sim (pre19 T ++ [Row.tail pp 0, Row.head 0 0]) d (([Row.move (pp + 1) 0] ++ (clr 1 (pp - 1) ++ [Row.move 0 pp])) ++ (Row.jump (pp + 1) ((y.length : Int) + 3) :: (y ++ ([Row.set (pp + 1) one] ++ (Row.jump (pp + 1) ((n.length : Int) + 1) :: n))))) (hd.vok (by decide)) (fun i r e a h => Nat.lt_of_lt_of_le (wd_reg e h) hw) a0 k hg
  rw [← hL] at r1
  have hA : (pre19 T ++ [Row.tail pp 0, Row.head 0 0]).length = 21 := rfl
  rw [hA] at r1
  exact ⟨R', r0.trans r1, a1⟩
/-- the decider never ends -/
theorem whole_non (hd : Sm 11 d) (hy : Sm 75 y) (hn : Sm 8 n) (hx : x.sz ≤ 2000) (st : Stuck d (codeT (kn (dft d y n)))) {m : Nat} {res : Res} (h : RunIs (kn (dft d y n)) x m res) : res = .non := by
  obtain ⟨R0, _, key⟩ := d_sim hd hy hn hx
  have hf := stuck_fo st
  refine runs_non (fun k => ?_) h
  obtain ⟨R', r1, _⟩ := key (k + 1) fun j _ => hf j
  exact r1.go k (by omega)
/-- the decider says r -/
theorem whole_done (hd : Sm 11 d) (hy : Sm 75 y) (hn : Sm 8 n) (hx : x.sz ≤ 2000) {r : Tr} {k : Nat} {due act : Res} (hs : RunIs d (codeT (kn (dft d y n))) 300 (.done r k)) (o : List Row) (ho : o = if r = .lf then y else n)
    (h1 : RunIs o x 300 due) (h2 : RunIs (kn (dft d y n)) x 800 act) : (∀ t j, due = .done t j → ∃ j', act = .done t j' ∧ j' ≤ j + k + 120) ∧ (Stuck o x → act = .non) := by
  obtain ⟨hk, hg, he, hr⟩ := hs
  have hp := pl_le hd hy hn
  have hwy : wd y ≤ pl d y n := by unfold pl; omega
  have hwn : wd n ≤ pl d y n := by unfold pl; omega
  obtain ⟨R0, e0, key⟩ := d_sim hd hy hn hx
  obtain ⟨R', r1, a1⟩ := key k hg
  rw [he] at r1
  have ev : R'.getD 0 .lf = r := by rw [a1.ag 0 (by omega), hr]
  have ex : R'.getD (pl d y n) .lf = x := by rw [a1.fr _ (Nat.le_refl _), e0]
  have lR := a1.len
  clear a1 key e0 hr he hg
  rw [kn_whole] at r1 h2
  generalize pl d y n = pp at hp hwy hwn ex r1 h2
  generalize codeT (opn ++ dft d y n) = T at r1 h2
  obtain ⟨R1, r2, a2, v2⟩ := to_j (d := d) (y := y) (n := n) (T := T) ⟨hp.2, hp.1⟩ lR ex
  rw [ev] at v2
  have r3 := r1.trans r2
  have main : (∀ t j, due = .done t j → ∃ s m, Rch (whole d y n pp T) (22 + d.length + pp, R1) m s ∧ m ≤ j + 3 ∧ s.1 = (whole d y n pp T).length ∧ s.2.getD 0 .lf = t) ∧ (Stuck o x → Fo (whole d y n pp T) (22 + d.length + pp, R1)) := by
    by_cases e : r = .lf
    · rw [if_pos e] at ho
      subst ho
      obtain ⟨q1, q2⟩ := y_end (d := d) (n := n) (T := T) ⟨hp.2, hp.1⟩ (hy.vok (by decide)) hwy a2 (v2.trans e)
      refine ⟨fun t j hj => ?_, q2⟩
      subst hj
      obtain ⟨_, g1, g2, g3⟩ := h1
      obtain ⟨s, w1, w2, w3⟩ := q1 j t g1 g2 g3
      exact ⟨s, _, w1, Nat.le_refl _, w2, w3⟩
    · rw [if_neg e] at ho
      subst ho
      obtain ⟨q1, q2⟩ := n_end (d := d) (y := y) (T := T) ⟨hp.2, hp.1⟩ (hn.vok (by decide)) hwn a2 (by rw [v2]; exact e)
      refine ⟨fun t j hj => ?_, q2⟩
      subst hj
      obtain ⟨_, g1, g2, g3⟩ := h1
      obtain ⟨s, w | w⟩ := q1 j t g1 g2 g3
      · exact ⟨s, _, w.1, Nat.le_refl _, w.2⟩
      · exact ⟨s, _, w.1, by omega, w.2⟩
  refine ⟨fun t j hj => ?_, fun hst => runs_non (Fo.of r3 (main.2 hst)) h2⟩
  obtain ⟨s, m, w1, w2, w3, w4⟩ := main.1 t j hj
  subst hj
  have hj300 : j ≤ 300 := h1.1
  have := runs_done (r3.trans w1) w3 (by omega) h2
  rw [w4] at this
  exact ⟨_, this, by omega⟩
end
end K38
set_option Elab.async false
set_option linter.all false
set_option maxRecDepth 100000
set_option maxHeartbeats 4000000
namespace K38
open PySem PySem.Spec PyProof.Rows L2 He SX
/-! ### programs as data -/
structure Gd (n : Nat) (d : PyData) : Prop where
  lay : d.canLay0 = true
  dep : d.depth ≤ n
  same : PyData.eqv d d = true
theorem gd_all {n : Nat} : ∀ ds : List PyData, (∀ d ∈ ds, Gd n d) → PyData.canLayAll0 ds = true ∧ PyData.depthAll ds ≤ n ∧ PyData.eqvAll ds ds = true
  | [], _ => ⟨rfl, Nat.zero_le _, rfl⟩
  | d :: ds, h => by
    obtain ⟨h1, h2, h3⟩ := h d (List.mem_cons_self ..)
    obtain ⟨g1, g2, g3⟩ := gd_all ds fun x hx => h x (List.mem_cons_of_mem _ hx)
    refine ⟨?_, ?_, ?_⟩
    · rw [PyData.canLayAll0, h1, g1]
      rfl
    · rw [PyData.depthAll]
      omega
    · rw [PyData.eqvAll, h3, g3]
      rfl
theorem gd_list {n : Nat} {ds : List PyData} (h : ∀ d ∈ ds, Gd n d) : Gd (n + 1) (.list ds) := by
  obtain ⟨g1, g2, g3⟩ := gd_all ds h
  exact ⟨by rw [PyData.canLay0]; exact g1, by rw [PyData.depth]; omega, by rw [PyData.eqv]; exact g3⟩
theorem gd_tup {n : Nat} {ds : List PyData} (h : ∀ d ∈ ds, Gd n d) : Gd (n + 1) (.tuple ds) := by
  obtain ⟨g1, g2, g3⟩ := gd_all ds h
  exact ⟨by rw [PyData.canLay0]; exact g1, by rw [PyData.depth]; omega, by rw [PyData.eqv]; exact g3⟩
theorem gd_int (i : Int) : Gd 0 (.int i) := ⟨rfl, by rw [PyData.depth]; exact Nat.le_refl _, by simp [PyData.eqv]⟩
theorem gd_str {x : Str} (h : PyData.strOk x = true) : Gd 0 (.str x) := ⟨by rw [PyData.canLay0]; exact h, by rw [PyData.depth]; exact Nat.le_refl _, by simp [PyData.eqv]⟩
theorem Gd.shaped {n : Nat} {d : PyData} (h : Gd n d) (hn : n ≤ 64) : SeqAt.shaped d = true := by
  unfold SeqAt.shaped
  rw [h.lay, Bool.true_and]
  exact decide_eq_true (Nat.le_trans h.dep hn)
theorem enc_mem : ∀ (t : Tr) (c : Nat), c ∈ t.enc → c < 0x110000
  | .lf, c, h => by
    have : c = 48 := by simpa [Tr.enc] using h
    rw [this]
    decide
  | .nd a b, c, h => by
    unfold Tr.enc at h
    rcases List.mem_cons.mp h with h | h
    · rw [h]
      decide
    · rcases List.mem_append.mp h with h | h
      · exact enc_mem a c h
      · exact enc_mem b c h
theorem strOk_enc (t : Tr) : PyData.strOk (S t.enc) = true := by
  show (t.enc.toArray).all (fun c => decide (c < 0x110000)) = true
  rw [List.all_toArray, List.all_eq_true]
  intro c hc
  exact decide_eq_true (enc_mem t c hc)
def vD : V → PyData
  | .int i => .int i
  | .str x => .str x
  | _ => .none
def Row.dat (r : Row) : PyData := .tuple (r.vals.map vD)
def progD (rs : List Row) : PyData := .list (rs.map Row.dat)
theorem dat_gd (r : Row) : Gd 1 r.dat := by
  have w : PyData.strOk r.word = true := by
    cases r with
    | set a t => exact (show PyData.strOk "set" = true by decide +kernel)
    | move a t => exact (show PyData.strOk "move" = true by decide +kernel)
    | cons a b t => exact (show PyData.strOk "cons" = true by decide +kernel)
    | head a t => exact (show PyData.strOk "head" = true by decide +kernel)
    | tail a t => exact (show PyData.strOk "tail" = true by decide +kernel)
    | jump a t => exact (show PyData.strOk "jump" = true by decide +kernel)
  refine gd_tup fun d hd => ?_
  rw [vals_eq, List.map_cons] at hd
  rcases List.mem_cons.mp hd with h | h
  · rw [h]
    exact gd_str w
  · cases r with
    | set a t =>
      simp only [Row.rest, List.map_cons, List.map_nil, List.mem_cons, List.not_mem_nil, or_false, vD] at h
      rcases h with rfl | rfl
      · exact gd_int _
      · exact gd_str (strOk_enc t)
    | move a b =>
      simp only [Row.rest, List.map_cons, List.map_nil, List.mem_cons, List.not_mem_nil, or_false, vD] at h
      rcases h with rfl | rfl <;> exact gd_int _
    | cons a b c =>
      simp only [Row.rest, List.map_cons, List.map_nil, List.mem_cons, List.not_mem_nil, or_false, vD] at h
      rcases h with rfl | rfl | rfl <;> exact gd_int _
    | head a b =>
      simp only [Row.rest, List.map_cons, List.map_nil, List.mem_cons, List.not_mem_nil, or_false, vD] at h
      rcases h with rfl | rfl <;> exact gd_int _
    | tail a b =>
      simp only [Row.rest, List.map_cons, List.map_nil, List.mem_cons, List.not_mem_nil, or_false, vD] at h
      rcases h with rfl | rfl <;> exact gd_int _
    | jump a b =>
      simp only [Row.rest, List.map_cons, List.map_nil, List.mem_cons, List.not_mem_nil, or_false, vD] at h
      rcases h with rfl | rfl <;> exact gd_int _
theorem prog_gd (rs : List Row) : Gd 2 (progD rs) := gd_list fun d hd => by
  obtain ⟨r, _, rfl⟩ := List.mem_map.mp hd
  exact dat_gd r
section
variable {K : PySem.W.Frag} {M : List Addr} {H H' : Hp} {a : Addr} {v : V} {vs : List V} {r : Row} {rs : List Row} {Q : VK}
theorem dp_row (h : RowAt M H v r) : Dp K H v r.dat := by
  obtain ⟨p, rfl, _, e⟩ := h
  refine .tup (SqT.of e) ?_
  cases r with
  | set a t => exact .cons (.str _) (.cons (.int _) (.cons (.str _) .nil))
  | move a b => exact .cons (.str _) (.cons (.int _) (.cons (.int _) .nil))
  | cons a b c => exact .cons (.str _) (.cons (.int _) (.cons (.int _) (.cons (.int _) .nil)))
  | head a b => exact .cons (.str _) (.cons (.int _) (.cons (.int _) .nil))
  | tail a b => exact .cons (.str _) (.cons (.int _) (.cons (.int _) .nil))
  | jump a b => exact .cons (.str _) (.cons (.int _) (.cons (.int _) .nil))
theorem dp_rows (h : RowsAt M H vs rs) : DpAll K H vs (rs.map Row.dat) := by
  induction h with
  | nil => exact .nil
  | cons hx _ ih => exact .cons (dp_row hx) ih
theorem dp_prog (h : PrAt M H a rs) : Dp K H (.ref a) (progD rs) := by
  obtain ⟨_, us, e, u⟩ := h
  exact .lst (SqL.of e) (dp_rows u)
theorem ne_prog {a b : Addr} (h : PrAt M H a rs) (h' : PrAt M H b rs) (q : Q (.bl false) H) : rNeD K (.ref a) (.ref b) H Q := by
  have g := prog_gd rs
  refine ⟨_, _, dp_prog h, dp_prog h', g.shaped (by decide), g.shaped (by decide), ?_⟩
  rw [g.same]
  exact q
theorem ne_three {g g' a b c a' b' c' : Addr} {d y n : List Row} (e : H g = some (.lst [.ref a, .ref b, .ref c])) (e' : H g' = some (.lst [.ref a', .ref b', .ref c'])) (ha : PrAt M H a d) (hb : PrAt M H b y) (hc : PrAt M H c n) (ha' : PrAt M H a' d) (hb' : PrAt M H b' y) (hc' : PrAt M H c' n) (q : Q (.bl false) H) : rNeD K (.ref g) (.ref g') H Q := by
  have gd : Gd 3 (.list [progD d, progD y, progD n]) := gd_list fun x hx => by
    simp only [List.mem_cons, List.not_mem_nil, or_false] at hx
    rcases hx with rfl | rfl | rfl <;> exact prog_gd _
  refine ⟨_, _, .lst (SqL.of e) (.cons (dp_prog ha) (.cons (dp_prog hb) (.cons (dp_prog hc) .nil))), .lst (SqL.of e') (.cons (dp_prog ha') (.cons (dp_prog hb') (.cons (dp_prog hc') .nil))), gd.shaped (by decide), gd.shaped (by decide), ?_⟩
  rw [gd.same]
  exact q
/-- is it 'large'? -/
def Res.lg : Res → Bool
  | .large => true
  | _ => false
theorem eq_large {ts : List Tr} {res : Res} (h : ResV H ts v res) (q : Q (.bl res.lg) H) : rEqD K v (.str "large") H Q := by
  have ok : PyData.strOk "large" = true := by decide +kernel
  have gl := gd_str ok
  cases res with
  | non =>
    obtain rfl := (show v = .non from h)
    refine ⟨.none, _, .non, .str _, by decide, gl.shaped (by decide), ?_⟩
    exact q
  | large =>
    obtain rfl := (show v = .str "large" from h)
    refine ⟨_, _, .str _, .str _, gl.shaped (by decide), gl.shaped (by decide), ?_⟩
    rw [gl.same]
    exact q
  | done t k =>
    obtain ⟨p, i, rfl, e, _⟩ := h
    have gt : Gd 1 (.tuple [.int (i : Int), .int (k : Int)]) := gd_tup fun x hx => by
      simp only [List.mem_cons, List.not_mem_nil, or_false] at hx
      rcases hx with rfl | rfl <;> exact gd_int _
    refine ⟨_, _, .tup (SqT.of e) (.cons (.int _) (.cons (.int _) .nil)), .str _, gt.shaped (by decide), gl.shaped (by decide), ?_⟩
    have : PyData.eqv (.tuple [.int (i : Int), .int (k : Int)]) (.str "large") = false := by simp [PyData.eqv]
    rw [this]
    exact q
/-! ### the state of the law -/
theorem pr_copy {K : PySem.W.Frag} (h : PrAt M H a rs) (d : Dom M H) (k : ∀ l H', H l = none → Same H H' → PrAt M H' l rs → Q (.ref l) H') : rListOf K [.ref a] H Q := by
  obtain ⟨n, us, e, u⟩ := h
  exact r_listOf e fun l hl => k l _ hl (same_new hl) (pr_new d hl u)
structure LS (W : Wd) (s : Addr) (H : Hp) (ts : List Tr) : Prop where
  sd : SD W.m H s
  w : WAt H W ts
  ne : s ≠ W.w
theorem LS.dom {W : Wd} {s : Addr} {ts : List Tr} (h : LS W s H ts) : Dom (s :: W.m) H := h.sd.dom
theorem LS.draw {W : Wd} {s : Addr} {ts : List Tr} (h : LS W s H ts) (k : Keep [s] H H') (d : SD W.m H' s) : LS W s H' ts :=
  ⟨d, h.w.keep k fun m hm => by rw [List.mem_singleton.mp hm]; exact ⟨h.ne, h.sd.at_.out⟩, h.ne⟩
theorem LS.same {W : Wd} {s : Addr} {ts : List Tr} (h : LS W s H ts) (k : Same H H') : LS W s H' ts := ⟨h.sd.same k, h.w.same k, h.ne⟩
theorem LS.grow {W : Wd} {s : Addr} {ts ts' : List Tr} {c : Nat} (h : LS W s H ts) (g : Grow W ts c H H' ts') : LS W s H' ts' := ⟨⟨h.sd.at_.keep g.keep, g.at_.dom⟩, g.at_, h.ne⟩
theorem PrAt.draw {s : Addr} (h : PrAt (s :: M) H a rs) (k : Keep [s] H H') : PrAt (s :: M) H' a rs := h.keep (k.mono fun x hx => by simp [List.mem_singleton.mp hx])
theorem PrAt.grow {W : Wd} {s : Addr} {ts ts' : List Tr} {c : Nat} (h : PrAt (s :: W.m) H a rs) (g : Grow W ts c H H' ts') : PrAt (s :: W.m) H' a rs := h.keep (g.keep.mono fun x hx => List.mem_cons_of_mem _ hx)
theorem PrAt.w {W : Wd} {s : Addr} (h : PrAt (s :: W.m) H a rs) : PrAt W.m H a rs := h.mono fun x hx => List.mem_cons_of_mem _ hx
theorem PrAt.same (h : PrAt M H a rs) (k : Same H H') : PrAt M H' a rs := h.keep (same_keep k)
/-- a program stays where another list is changed -/
theorem PrAt.other {f : Addr} {us ws : List V} (h : PrAt M H a rs) (e : H f = some (.lst us)) (n : a ≠ f) : PrAt M (upd H f (.lst ws)) a rs := by
  obtain ⟨am, vs, e1, u⟩ := h
  refine ⟨am, vs, by rw [upd_ne n]; exact e1, Paired.mapP u fun v r hv => ?_⟩
  obtain ⟨p, e2, pm, e3⟩ := hv
  refine ⟨p, e2, pm, ?_⟩
  rw [upd_ne (fun z => by rw [z, e] at e3; cases e3)]
  exact e3
end
end K38
set_option Elab.async false
set_option linter.all false
set_option maxRecDepth 100000
set_option maxHeartbeats 4000000
namespace K38
open PySem PySem.Spec PyProof.Rows L2 He SX
/-! ### the walk's own steps -/
local macro_rules | `(tactic| walk_at "hp") => `(tactic| first
  | assumption
  | with_reducible exact upd_same
  | (refine Eq.trans (upd_ne (by first | assumption | exact Ne.symm (by assumption))) ?_; walk_at "hp"))
local macro_rules | `(tactic| walk_at "st0") => `(tactic| with_reducible first
  | refine r_seq ?_ | refine r_asg ?_ | ((refine r_var (v := ?v) ?h ?_); (case h => with_unfolding_all exact rfl)) | refine r_c ?_ | refine r_op ?_ | refine r_cons ?_ | refine r_nil ?_ | refine r_gname ?_ | refine r_cb ?_ | refine r_call ?_
  | refine r_if ?_ | refine r_ret ?_ | refine r_test ?_ | refine r_bl ?_ | refine r_I0 ?_ | ((refine r_eq ?h ?_); (case h => with_unfolding_all exact rfl)) | ((refine r_ne ?h ?_); (case h => with_unfolding_all exact rfl))
  | refine r_T ?_ | refine r_F ?_ | refine r_nT ?_ | refine r_nF ?_ | refine r_not ?_ | refine r_and ?_ | refine r_or ?_ | refine r_B ?_ | refine r_next ?_ | refine r_drop ?_ | refine r_tup ?_ | refine r_bm ?_ | refine r_bm0 ?_
  | refine r_chain ?_ | refine r_andV ?_ | refine r_notV ?_ | refine r_isN ?_ | refine r_notN ?_ | refine r_dget ?_ | refine r_din ?_ | refine r_dnotin ?_ | refine r_un ?_ | refine r_rU ?_ | refine r_gsub ?_
  | ((refine r_aug (x := ?x) ?h ?_); (case h => with_unfolding_all exact rfl)) | refine r_ipI ?_ | refine r_for ?_ | refine r_lc ?_ | refine r_iList ?_ | refine r_iTup ?_ | refine r_iStr ?_ | refine r_iRng1 ?_ | refine r_iRng2 ?_ | refine r_iEnum ?_ | ((refine r_wipe ?h ?_); (case h => with_unfolding_all exact rfl)) | refine r_yes ?_ | refine r_rng ?_ | refine r_part ?_ | refine r_nopart ?_ | refine r_exi ?_ | refine r_int1 ?_ | refine r_abs ?_ | refine r_m1 ?_ | refine r_pairs ?_ | refine r_pairs0 ?_ | refine r_dput ?_ | refine r_trk ?_ | ((refine r_ixT0 (xs := ?xs) (v := ?v) ?h ?hv ?_); (case h => walk_at "hp"); (case hv => with_unfolding_all exact rfl)) | ((refine r_ixT1 (xs := ?xs) (v := ?v) ?h ?hv ?_); (case h => walk_at "hp"); (case hv => with_unfolding_all exact rfl)) | ((refine r_ixT2 (xs := ?xs) (v := ?v) ?h ?hv ?_); (case h => walk_at "hp"); (case hv => with_unfolding_all exact rfl)) | ((refine r_ixT3 (xs := ?xs) (v := ?v) ?h ?hv ?_); (case h => walk_at "hp"); (case hv => with_unfolding_all exact rfl)) | refine r_strv ?_)
local macro_rules | `(tactic| walk_at "st") => `(tactic| first | walk_at "st0" | with_reducible refine r_lst ?_)
local macro_rules | `(tactic| walk_at "g0") => `(tactic| repeat walk_at "st0")
local macro_rules | `(tactic| walk_at "go") => `(tactic| repeat walk_at "st")
local macro_rules | `(tactic| walk_at "dk") => `(tactic| first | refine r_isT (by decide +kernel) ?_ | refine r_isF (by decide +kernel) ?_)
local macro_rules | `(tactic| walk_at "gd") => `(tactic| repeat first | walk_at "st" | walk_at "dk")
section
variable {H H' : Hp} {M : List Addr} {s q : Addr} {W : Wd} {ts ts' : List Tr} {v : V} {res : Res}
theorem SAt.world (h : SAt [] H s) (k : Same H H') (hm : ∀ m ∈ M, H m = none) : SAt M H' s := by
  obtain ⟨a, ns, v1, v2, v3, e1, e2, n1, n2, q⟩ := h.ex
  exact ⟨a, ns, v1, v2, v3, k _ _ e1, k _ _ e2, fun z => (by rw [hm s z] at e1; cases e1), fun z => (by rw [hm a z] at e2; cases e2), q⟩
theorem LS.out {us : List V} (h : LS W s H ts) (e : H q = some (.tup us)) : q ∉ s :: W.m := fun hm => by
  rcases List.mem_cons.mp hm with z | z
  · obtain ⟨a, ns, v1, v2, v3, e1, _⟩ := h.sd.at_.ex
    rw [z, e1] at e
    cases e
  · exact h.w.out e (fun _ z => by cases z) (fun _ z => by cases z) z
theorem ResV.keep (r : ResV H ts v res) (h : LS W s H ts) (k : Keep (s :: W.m) H H') (p : ts <+: ts') : ResV H' ts' v res := by
  cases res with
  | non => exact r
  | large => exact r
  | done t j =>
    obtain ⟨q, i, e1, e2, e3⟩ := r
    exact ⟨q, i, e1, k _ _ e2 (h.out e2), pre_get p e3⟩
theorem ResV.draw (r : ResV H ts v res) (h : LS W s H ts) (k : Keep [s] H H') : ResV H' ts v res := r.keep h (k.mono fun x hx => by simp [List.mem_singleton.mp hx]) (List.prefix_refl _)
theorem ResV.grow {c : Nat} (r : ResV H ts v res) (h : LS W s H ts) (g : Grow W ts c H H' ts') : ResV H' ts' v res := r.keep h (g.keep.mono fun x hx => List.mem_cons_of_mem _ hx) g.pre
end
section
variable {P : Program} {w : World} {K : PySem.W.Frag} {mg : Str → Option Value} {base : Heap}
def sp_law (K : PySem.W.Frag) : Sp := fun vs H Q _ => ∃ (a : Addr) (ns : List Int), vs = [.ref a] ∧ SqL K H a (ns.map V.int) ∧ ns.length ≤ 63 ∧ ∀ H', Q (.bl true) H'
theorem law_fn (T : Txt w K mg) {f : Addr} {fd : FuncData} (F : FunD K "law" "law" (defArgs s_law) (defBody s_law) (defScope s_law) [] [] f fd) : FnOk P w K mg base L2.CX0 11 f fd ["_law_script"] (sp_law K) := by
  refine F.ok sc_law (fun vs H Q E h => ?_) (fun cdv A outer s H vs Q E hr h => ?_)
  · obtain ⟨a, ns, rfl, _⟩ := h
    rfl
  · obtain ⟨a, ns, rfl, hq, hl, kt⟩ := h
    suffices hb : ∃ t, PSs (cxOf L2.CX0 P w K mg base names_law "law" (defScope s_law) f cdv A outer s H E).nox (defBody s_law) t ∧ t { nx := fun _ H' => Q .non H', rt := Q } (L2.start names_law [.ref a]) H from let ⟨t, h1, h2⟩ := hb; ⟨t, h1.nox, h2⟩
    refine ⟨_,
      (pss_cons (ps_st 1 sc_law.nd (pe_c (law_stream_ok T) hr (by decide) rfl (pa_cons (pv 0) pa_nil)))
      (pss_cons (ps_st 2 sc_law.nd (pe_c0 (law_world_ok T) hr (by decide) rfl))
      (pss_cons (ps_st 3 sc_law.nd (pe_c (law_decider_ok T) hr (by decide) rfl (pa_cons (pv 1) pa_nil)))
      (pss_cons (ps_st 4 sc_law.nd (pe_c (law_longer_ok T) hr (by decide) rfl (pa_cons (pv 1) (pa_cons (pe_c (law_program_ok T) hr (by decide) rfl (pa_cons (pv 1) pa_nil)) pa_nil))))
      (pss_cons (ps_st 5 sc_law.nd (pe_c (law_program_ok T) hr (by decide) rfl (pa_cons (pv 1) pa_nil)))
      (pss_cons (ps_st 6 sc_law.nd (pe_lst (pa_cons (pe_callTy c_listOf (by rfl) T.n_list (by decide +kernel) (pa_cons (pv 3) pa_nil)) (pa_cons (pe_callTy c_listOf (by rfl) T.n_list (by decide +kernel) (pa_cons (pv 4) pa_nil)) (pa_cons (pe_callTy c_listOf (by rfl) T.n_list (by decide +kernel) (pa_cons (pv 5) pa_nil)) pa_nil)))))
      (pss_cons (ps_st 7 sc_law.nd (pe_c (defeat_ok T) hr (by decide) rfl (pa_cons (pe_il (pv 6) pe_int) (pa_cons (pe_il (pv 6) pe_int) (pa_cons (pe_il (pv 6) pe_int) pa_nil)))))
      (pss_cons (ps_if (PW.pt (pw_or (pt_cmpR (op_neD hr.units) (pv 6) (pe_lst (pa_cons (pv 3) (pa_cons (pv 4) (pa_cons (pv 5) pa_nil)))) (nomark _)) (pw_or1 (pt_not (pt_val (pe_callB call_isi (by rfl) T.n_isinstance (by decide +kernel) (pa_cons (pv 7) (pa_cons (pe_bltn (v := .ty "list") (by rfl) T.n_list (by decide +kernel) rfl) pa_nil)))))))) 
          (pss_one (ps_ret pe_bl)) pss_nil)
      (pss_cons (ps_if (PW.pt (pw_or (pt_not (pt_val (pe_c (law_are_rows_ok T) hr (by decide) rfl (pa_cons (pv 7) pa_nil)))) (pw_or1 (pt_cmpR op_gt (pe_c (law_width_ok T) hr (by decide) rfl (pa_cons (pv 7) pa_nil)) (pe_callB (cr_max rfl) (by rfl) T.n_max (by decide +kernel) (pa_cons (pe_op op_cat (pe_lst (pa_cons pe_int pa_nil)) (pe_lc (own := [(("_law_program_here" : Str), 16)]) (by rfl) sc_law.nd (pi_list (pv 6)) (blkOk_by (own := [(("_law_program_here" : Str), 16)]) (N := names_law) (sc := defScope s_law) (by decide +kernel)) (fun _ _ _ _ _ => (pg_nm 16 sc_law.nd)) (fun _ _ _ _ _ => pts_nil) (fun _ _ _ _ _ => (pe_op op_add pe_int (pe_c (law_width_ok T) hr (by decide) rfl (pa_cons (pv 16) pa_nil)))))) pa_nil)) (nomark _))))) 
          (pss_one (ps_ret pe_bl)) pss_nil)
      (pss_cons (ps_st 8 sc_law.nd (pe_callTy c_listOf (by rfl) T.n_list (by decide +kernel) (pa_cons (pv 7) pa_nil)))
      (pss_cons (ps_expr (pe_app (pv 7) pe_int))
      (pss_cons (ps_if (pt_cmpR (op_neD hr.units) (pe_c (defeat_ok T) hr (by decide) rfl (pa_cons (pe_il (pv 6) pe_int) (pa_cons (pe_il (pv 6) pe_int) (pa_cons (pe_il (pv 6) pe_int) pa_nil)))) (pv 8) (nomark _)) 
          (pss_one (ps_ret pe_bl)) pss_nil)
      (pss_cons (ps_st 7 sc_law.nd (pv 8))
      (pss_cons (ps_st 9 sc_law.nd (pe_c (law_run_ok T) hr (by decide) rfl (pa_cons (pv 2) (pa_cons (pv 3) (pa_cons (pe_c (law_code_ok T) hr (by decide) rfl (pa_cons (pv 2) (pa_cons (pv 7) pa_nil))) (pa_cons pe_int pa_nil))))))
      (pss_cons (ps_if (pt_cmpR (op_eqD hr.units) (pv 9) pe_str (nomark _)) 
          (pss_one (ps_ret pe_bl)) pss_nil)
      (pss_cons (ps_for PassesOwn.never rfl (pi_range1 (by rfl) T.n_range (pa_cons pe_int pa_nil)) (pg_nm 10 sc_law.nd) 
          (pss_cons (ps_st 11 sc_law.nd (pe_c (law_in_ok T) hr (by decide) rfl (pa_cons (pv 2) (pa_cons (pe_c (law_input_ok T) hr (by decide) rfl (pa_cons (pv 1) (pa_cons pe_int pa_nil))) pa_nil))))
          (pss_one (ps_if (pt_cmp (pc_isN (pv 9)) rfl) 
              (pss_cons (ps_st 12 sc_law.nd (pe_c (law_is_stuck_ok T) hr (by decide) rfl (pa_cons (pv 2) (pa_cons (pv 3) (pa_cons (pe_c (law_code_ok T) hr (by decide) rfl (pa_cons (pv 2) (pa_cons (pv 7) pa_nil))) pa_nil)))))
              (pss_one (ps_if (PW.pt (pw_and (pt_val (pv 12)) (pw_and1 (pt_cmp (pc_notN (pe_c (law_run_ok T) hr (by decide) rfl (pa_cons (pv 2) (pa_cons (pv 7) (pa_cons (pv 11) (pa_cons pe_int pa_nil)))))) rfl)))) 
                  (pss_one (ps_ret pe_bl)) pss_nil))) 
              (pss_cons (ps_st 13 sc_law.nd (pv 4))
              (C8.pss_cut (ps_if (pt_cmpR op_ne (pe_it (pv 9) pe_int) pe_int (nomark _)) 
                  (pss_one (ps_st 13 sc_law.nd (pv 5))) pss_nil)
              (pss_cons (ps_st 14 sc_law.nd (pe_c (law_run_ok T) hr (by decide) rfl (pa_cons (pv 2) (pa_cons (pv 13) (pa_cons (pv 11) (pa_cons pe_int pa_nil))))))
              (pss_cons (ps_st 15 sc_law.nd (pe_c (law_run_ok T) hr (by decide) rfl (pa_cons (pv 2) (pa_cons (pv 7) (pa_cons (pv 11) (pa_cons pe_int pa_nil))))))
              (pss_cons (ps_if (pt_cmpR (op_eqD hr.units) (pv 14) pe_str (nomark _)) 
                  (pss_one (ps_ret pe_bl)) pss_nil)
              (pss_cons (ps_if (pt_cmpR (op_eqD hr.units) (pv 15) pe_str (nomark _)) 
                  (pss_one (ps_ret (pe_cmp (pc_isN (pv 14)) rfl))) pss_nil)
              (pss_one (ps_if (pt_cmp (pc_notN (pv 14)) rfl) 
                  (pss_one (ps_if (PW.pt (pw_or (pt_cmp (pc_isN (pv 15)) rfl) (pw_or (pt_cmpR op_ne (pe_it (pv 15) pe_int) (pe_it (pv 14) pe_int) (nomark _)) (pw_or1 (pt_cmpR op_gt (pe_it (pv 15) pe_int) (pe_op op_add (pe_op op_add (pe_it (pv 14) pe_int) (pe_it (pv 9) pe_int)) pe_int) (nomark _)))))) 
                      (pss_one (ps_ret pe_bl)) pss_nil)) 
                  (pss_one (ps_if (PW.pt (pw_and (pt_val (pe_c (law_is_stuck_ok T) hr (by decide) rfl (pa_cons (pv 2) (pa_cons (pv 13) (pa_cons (pv 11) pa_nil))))) (pw_and1 (pt_cmp (pc_notN (pv 15)) rfl)))) 
                      (pss_one (ps_ret pe_bl)) pss_nil))))))))))))))
      (pss_one (ps_ret pe_bl)))))))))))))))))), ?_⟩
    walk_at "go"
    refine ⟨a, ns, rfl, hq, hl, fun s H1 t1 s1 hs0 => ?_⟩
    walk_at "go"
    refine ⟨rfl, fun W H2 t2 hn2 w2 => ?_⟩
    have ls2 : LS W s H2 [.lf] := ⟨⟨s1.world t2 fun m hm => hn2 m (List.mem_cons_of_mem _ hm), w2.dom⟩, w2, fun z => s1.live (z ▸ hn2 W.w (List.mem_cons_self ..))⟩
    clear s1 w2
    walk_at "go"
    refine ⟨W.m, s, rfl, ls2.sd, fun p1 d H3 _ hd k3 s3 pd3 => ?_⟩
    have ls3 := ls2.draw k3 s3
    walk_at "go"
    refine ⟨W.m, s, rfl, ls3.sd, fun p0 y0 H4 _ hy0 k4 s4 py4 => ?_⟩
    have ls4 := ls3.draw k4 s4
    have pd4 := pd3.draw k4
    walk_at "go"
    refine ⟨W.m, s, p0, y0, rfl, ls4.sd, py4, hy0, fun p2 y H5 hy k5 s5 py5 => ?_⟩
    have ls5 := ls4.draw k5 s5
    have pd5 := pd4.draw k5
    walk_at "go"
    refine ⟨W.m, s, rfl, ls5.sd, fun p3 n H6 _ hn k6 s6 pn6 => ?_⟩
    have ls6 := ls5.draw k6 s6
    have pd6 := pd5.draw k6
    have py6 := py5.draw k6
    clear ls2 ls3 ls4 ls5 pd3 pd4 pd5 py4 py5 s3 s4 s5 s6
    walk_at "go"
    refine pr_copy pd6 ls6.dom fun a1 H7 _ t7 q1 => ?_
    walk_at "go"
    refine pr_copy (py6.same t7) (same_dom t7 ls6.dom) fun a2 H8 _ t8 q2 => ?_
    walk_at "go"
    refine pr_copy ((pn6.same t7).same t8) (same_dom (t7.trans t8) ls6.dom) fun a3 H9 _ t9 q3 => ?_
    walk_at "go"
    refine ⟨by show 3 ≤ sizeLine; decide, fun g hg => ?_⟩
    have t10 : Same H9 (upd H9 g (.lst [.ref a1, .ref a2, .ref a3])) := same_new hg
    have eg : (upd H9 g (.lst [.ref a1, .ref a2, .ref a3])) g = some (.lst [.ref a1, .ref a2, .ref a3]) := upd_same
    generalize upd H9 g (.lst [.ref a1, .ref a2, .ref a3]) = H10 at t10 eg
    have u10 := ((t7.trans t8).trans t9).trans t10
    have ls10 := ls6.same u10
    have pd10 := pd6.same u10
    have py10 := py6.same u10
    have pn10 := pn6.same u10
    have q1' := q1.same ((t8.trans t9).trans t10)
    have q2' := q2.same (t9.trans t10)
    have q3' := q3.same t10
    clear ls6 pd6 py6 pn6 q1 q2 q3 t7 t8 t9 t10 u10
    walk_at "go"
    refine r_ixL eg (j := 0) rfl rfl ?_
    walk_at "go"
    refine r_ixL eg (j := 1) rfl rfl ?_
    walk_at "go"
    refine r_ixL eg (j := 2) rfl rfl ?_
    walk_at "go"
    refine ⟨s :: W.m, a1, a2, a3, d, y, n, rfl, ls10.dom, q1', q2', q3', dok hd hy hn, fun f H11 hf t11 pf11 => ?_⟩
    walk_at "go"
    refine ⟨by show 3 ≤ sizeLine; decide, fun g2 hg2 => ?_⟩
    have t12 : Same H11 (upd H11 g2 (.lst [.ref p1, .ref p2, .ref p3])) := same_new hg2
    have eg2 : (upd H11 g2 (.lst [.ref p1, .ref p2, .ref p3])) g2 = some (.lst [.ref p1, .ref p2, .ref p3]) := upd_same
    generalize upd H11 g2 (.lst [.ref p1, .ref p2, .ref p3]) = H12 at t12 eg2
    have u12 := t11.trans t12
    have pf12 := pf11.same t12
    walk_at "go"
    refine ne_three (u12 _ _ eg) eg2 (q1'.same u12) (q2'.same u12) (q3'.same u12) (pd10.same u12) (py10.same u12) (pn10.same u12) ?_
    walk_at "go"
    obtain ⟨fm, uf, ef, _⟩ := pf12
    refine isi_ll ef ?_
    walk_at "go"
    refine ⟨s :: W.m, f, _, rfl, pf11.same t12, kn_ok hd hy hn, fun H13 t13 => ?_⟩
    have u13 := u12.trans t13
    have pf13 := (pf11.same t12).same t13
    have hkl : (kn (dft d y n)).length ≤ 1000 := by
      have := (kn_ok hd hy hn).len
      omega
    walk_at "go"
    refine ⟨s :: W.m, f, _, rfl, pf13, hkl, fun H14 t14 => ?_⟩
    have u14 := u13.trans t14
    have pf14 := pf13.same t14
    walk_at "go"
    refine ⟨by show 1 ≤ sizeLine; decide, fun o ho => ?_⟩
    have t15 : Same H14 (upd H14 o (.lst [.int 8])) := same_new ho
    have eo : (upd H14 o (.lst [.int 8])) o = some (.lst [.int 8]) := upd_same
    generalize upd H14 o (.lst [.int 8]) = H15 at t15 eo
    have u15 := u14.trans t15
    have pf15 := pf14.same t15
    have eg15 := u15 _ _ eg
    walk_at "go"
    refine ⟨g, rfl, ⟨_, SqL.of eg15⟩, fun D hD => ?_⟩
    refine lc_it (walk_list (xs := [V.ref a1, .ref a2, .ref a3])) (fun i H' => Same H15 H' ∧ H' D = some (.lst (((([d, y, n] : List (List Row)).take i).map fun r => 2 + (wd r : Int)).map V.int))) ⟨same_new hD, upd_same⟩ (fun i H' _ h => SqL.of (h.1 _ _ eg15)) ?_ ?_
    · rintro i x H16 H' hi ⟨hs, hd2⟩ ⟨rfl, hx⟩
      have key : ∃ ai ri, x = .ref ai ∧ PrAt (s :: W.m) H10 ai ri ∧ ri.length ≤ 1000 ∧ ([d, y, n] : List (List Row))[i]? = some ri := by
        have l1 := hd.len
        have l2 := hy.len
        have l3 := hn.len
        match i, hi, hx with
        | 0, _, hx => exact ⟨a1, d, (Option.some.inj hx).symm, q1', by omega, rfl⟩
        | 1, _, hx => exact ⟨a2, y, (Option.some.inj hx).symm, q2', by omega, rfl⟩
        | 2, _, hx => exact ⟨a3, n, (Option.some.inj hx).symm, q3', by omega, rfl⟩
      obtain ⟨ai, ri, rfl, pri, lri, eri⟩ := key
      walk_at "go"
      refine ⟨s :: W.m, ai, ri, rfl, (pri.same u15).same hs, lri, fun H17 t17 => ?_⟩
      walk_at "go"
      refine ⟨_, t17 _ _ hd2, ?_, same_mut (hs.trans t17) hD, ?_⟩
      · rw [List.length_map, List.length_map, List.length_take]
        exact Nat.lt_of_lt_of_le (show _ < 1000000 by simp; omega) (by decide)
      · rw [upd_same, List.take_add_one, eri, List.map_append, List.map_append]
        rfl
    rintro H16 ⟨t16, hd16⟩
    have hd16 : H16 D = some (.lst [.int (2 + (wd d : Int)), .int (2 + (wd y : Int)), .int (2 + (wd n : Int))]) := hd16
    refine r_cat (t16 _ _ eo) hd16 (Nat.le_of_ble_eq_true rfl) fun o2 ho2 => ?_
    have t17 := same_new (o := .lst ([V.int 8] ++ [.int (2 + (wd d : Int)), .int (2 + (wd y : Int)), .int (2 + (wd n : Int))])) ho2
    have eo2 : (upd H16 o2 (.lst ([V.int 8] ++ [.int (2 + (wd d : Int)), .int (2 + (wd y : Int)), .int (2 + (wd n : Int))]))) o2 = some (.lst ([(8 : Int), 2 + (wd d : Int), 2 + (wd y : Int), 2 + (wd n : Int)].map V.int)) := upd_same
    generalize upd H16 o2 (.lst ([V.int 8] ++ [.int (2 + (wd d : Int)), .int (2 + (wd y : Int)), .int (2 + (wd n : Int))])) = H17 at t17 eo2
    have u17 := (u15.trans t16).trans t17
    have pf17 := (pf15.same t16).same t17
    walk_at "go"
    refine ⟨o2, [(8 : Int), 2 + (wd d : Int), 2 + (wd y : Int), 2 + (wd n : Int)], rfl, SqL.of eo2, by simp, fun m h1 h2 => ?_⟩
    have hkw := kn_wd hd hy hn
    have g1 := h2 8 (by simp)
    have g2 := h2 (2 + (wd d : Int)) (by simp)
    have g3 := h2 (2 + (wd y : Int)) (by simp)
    have g4 := h2 (2 + (wd n : Int)) (by simp)
    have hkw2 : ((wd (kn (dft d y n)) : Nat) : Int) ≤ m := by
      unfold pl at hkw
      omega
    clear h1 h2 hkw g1 g2 g3 g4 eo2 hd16
    walk_at "go"
    refine r_isF (decide_eq_false (by omega)) ?_
    walk_at "go"
    refine pr_copy pf17 (same_dom u17 ls10.dom) fun kp H18 hkp t18 pk18 => ?_
    have u18 := u17.trans t18
    have pf18 := pf17.same t18
    obtain ⟨fm18, uf18, ef18, ru18⟩ := pf18
    have nkf : kp ≠ f := fun z => by
      obtain ⟨_, _, e, _⟩ := pf17
      rw [z, e] at hkp
      cases hkp
    walk_at "go"
    refine r_tyL ef18 ?_
    walk_at "go"
    refine r_app ef18 (Nat.lt_of_lt_of_le (show uf18.length < 1000000 by rw [RowsAt.len ru18]; omega) (by decide)) ?_
    have t19 : Same H10 (upd H18 f (.lst (uf18 ++ [.int 0]))) := same_mut u18 hf
    have pk19 : PrAt (s :: W.m) (upd H18 f (.lst (uf18 ++ [.int 0]))) kp (kn (dft d y n)) := pk18.other ef18 nkf
    generalize upd H18 f (.lst (uf18 ++ [.int 0])) = H19 at t19 pk19
    have eg19 := t19 _ _ eg
    walk_at "go"
    refine r_ixL eg19 (j := 0) rfl rfl ?_
    walk_at "go"
    refine r_ixL eg19 (j := 1) rfl rfl ?_
    walk_at "go"
    refine r_ixL eg19 (j := 2) rfl rfl ?_
    walk_at "go"
    refine ⟨s :: W.m, a1, a2, a3, d, y, n, rfl, same_dom t19 ls10.dom, q1'.same t19, q2'.same t19, q3'.same t19, dok hd hy hn, fun f2 H20 hf2 t20 pf20 => ?_⟩
    have u20 := t19.trans t20
    have pk20 := pk19.same t20
    walk_at "go"
    refine ne_prog pf20 pk20 ?_
    have ls20 := ls10.same u20
    have pd20 := pd10.same u20
    have py20 := py10.same u20
    have pn20 := pn10.same u20
    clear ls10 pd10 py10 pn10 q1' q2' q3' u20 t20 t19 pk19 eg19 u18 u17 u15 u14 u13 u12 pf20 pk18 pf17 pf15 pf14 pf13 pf11 ru18 ef18 ef eg15 eg2 eo
    have hkc := kn_code hd hy hn
    walk_at "go"
    refine ⟨W, [.lf], kp, kn (dft d y n), rfl, ls20.w, pk20.w, by omega, by show 1 + _ ≤ _; omega, fun ci ts21 H21 gr21 hc21 => ?_⟩
    have ls21 := ls20.grow gr21
    have l21 := gr21.len
    have pd21 := pd20.grow gr21
    walk_at "go"
    refine ⟨W, ts21, p1, d, ci, _, 300, rfl, ls21.w, pd21.w, hd.vok (by decide), hc21, by decide, by show _ ≤ _; have : ([Tr.lf] : List Tr).length = 1 := rfl; omega, fun sv said ts22 H22 gr22 hrun hsv => ?_⟩
    have ls22 := ls21.grow gr22
    have l22 := gr22.len
    have pd22 := pd21.grow gr22
    have py22 := (py20.grow gr21).grow gr22
    have pn22 := (pn20.grow gr21).grow gr22
    have pk22 := (pk20.grow gr21).grow gr22
    have b22 : ts22.length ≤ 500000 := by
      have : ([Tr.lf] : List Tr).length = 1 := rfl
      omega
    clear l21 l22 hc21 gr21 gr22 ls20 ls21 pd20 pd21 py20 pn20 pk20
    walk_at "go"
    refine eq_large hsv ?_
    walk_at "go"
    refine r_2 (fun _ => ?_) (fun hlg => ?_)
    · walk_at "go"
      exact kt _
    walk_at "go"
    refine ⟨_, rfl, by decide, by decide, for_it walk_range (fun i σ H' => ∃ (ts' : List Tr) (x10 x11 x12 x13 x14 x15 x16 : Option V), σ = [some (.ref a), some (.ref s), some (.ref W.w), some (.ref p1), some (.ref p2), some (.ref p3), some (.ref g), some (.ref kp), some (.ref kp), some sv, x10, x11, x12, x13, x14, x15, x16] ∧ LS W s H' ts' ∧
        PrAt (s :: W.m) H' p1 d ∧ PrAt (s :: W.m) H' p2 y ∧ PrAt (s :: W.m) H' p3 n ∧ PrAt (s :: W.m) H' kp (kn (dft d y n)) ∧ ResV H' ts' sv said ∧ ts'.length ≤ 500000 + i * 1300000)
      ⟨ts22, none, none, none, none, none, none, none, rfl, ls22, pd22, py22, pn22, pk22, hsv, by omega⟩ (fun _ _ _ _ _ => trivial) ?_ ?_⟩
    · rintro i v σ H23 H24 hi ⟨ts24, x10, x11, x12, x13, x14, x15, x16, rfl, ls24, pd24, py24, pn24, pk24, sv24, b24⟩ ⟨rfl, rfl⟩
      have hi2 : i < 2 := hi
      walk_at "go"
      refine ⟨W.m, s, rfl, ls24.sd, fun x H25 hx k25 s25 => ?_⟩
      have ls25 := ls24.draw k25 s25
      have pd25 := pd24.draw k25
      have py25 := py24.draw k25
      have pn25 := pn24.draw k25
      have pk25 := pk24.draw k25
      have sv25 := sv24.draw ls24 k25
      walk_at "go"
      refine ⟨W, ts24, x, rfl, ls25.w, by omega, by omega, fun xi ts26 H26 gr26 hx26 => ?_⟩
      have ls26 := ls25.grow gr26
      have pd26 := pd25.grow gr26
      have py26 := py25.grow gr26
      have pn26 := pn25.grow gr26
      have pk26 := pk25.grow gr26
      have sv26 := sv25.grow ls25 gr26
      have b26 := gr26.len
      clear ls24 ls25 pd24 pd25 py24 py25 pn24 pn25 pk24 pk25 sv24 sv25 gr26 s25 k25
      cases said with
      | large => cases hlg
      | non =>
        obtain rfl := (show sv = .non from sv26)
        walk_at "go"
        refine r_isT (decide_eq_true rfl) ?_
        walk_at "go"
        refine ⟨W, ts26, kp, kn (dft d y n), rfl, ls26.w, pk26.w, by omega, by omega, fun ci ts27 H27 gr27 hc27 => ?_⟩
        have ls27 := ls26.grow gr27
        have b27 := gr27.len
        walk_at "go"
        refine ⟨W, ts27, p1, d, ci, _, rfl, ls27.w, (pd26.grow gr27).w, hd.vok (by decide), hc27, by omega, fun b ts28 H28 gr28 hb => ?_⟩
        have ls28 := ls27.grow gr28
        have b28 := gr28.len
        have pd28 := (pd26.grow gr27).grow gr28
        have py28 := (py26.grow gr27).grow gr28
        have pn28 := (pn26.grow gr27).grow gr28
        have pk28 := (pk26.grow gr27).grow gr28
        have hx28 := pre_get gr28.pre (pre_get gr27.pre hx26)
        walk_at "go"
        cases b with
        | false =>
          walk_at "go"
          exact ⟨ts28, _, _, _, _, _, _, _, rfl, ls28, pd28, py28, pn28, pk28, rfl, by omega⟩
        | true =>
          walk_at "go"
          refine ⟨W, ts28, kp, kn (dft d y n), xi, x, 500, rfl, ls28.w, pk28.w, kn_vok hd hy hn, hx28, by decide, by omega, fun v res ts29 H29 gr29 hr29 hv29 => ?_⟩
          have hres := whole_non hd hy hn hx (hb rfl) hr29
          subst hres
          obtain rfl := (show v = .non from hv29)
          have b29 := gr29.len
          walk_at "go"
          refine r_isF (by decide) ?_
          walk_at "go"
          exact ⟨ts29, _, _, _, _, _, _, _, rfl, ls28.grow gr29, pd28.grow gr29, py28.grow gr29, pn28.grow gr29, pk28.grow gr29, rfl, by omega⟩
      | done r k =>
        obtain ⟨q9, i9, rfl, e9, r9⟩ := sv26
        walk_at "go"
        refine r_isF (decide_eq_false (fun z => by cases z)) ?_
        walk_at "go"
        refine ⟨fun σ H' => H' = H26 ∧ ∃ (po : Addr) (o : List Row) (L : Nat), σ = [some (.ref a), some (.ref s), some (.ref W.w), some (.ref p1), some (.ref p2), some (.ref p3), some (.ref g), some (.ref kp), some (.ref kp), some (.ref q9), some (.int (0 + (i : Int))), some (.int (xi : Int)), x12, some (.ref po), x14, x15, x16] ∧ PrAt (s :: W.m) H26 po o ∧ o = (if r = .lf then y else n) ∧ Sm L o ∧ L ≤ 100, ?_, ?_⟩
        · walk_at "go"
          by_cases h0 : i9 = 0
          · have hr0 : r = .lf := by
              rw [h0, ls26.w.zero] at r9
              exact (Option.some.inj r9).symm
            refine r_isF (by rw [dI_T (by omega)]; rfl) ?_
            walk_at "go"
            exact ⟨rfl, p2, y, 75, rfl, py26, by rw [if_pos hr0], hy, by decide⟩
          · have hr0 : ¬ r = .lf := fun z => by
              rw [z] at r9
              exact h0 (nd_get ls26.w.nodup r9 ls26.w.zero)
            refine r_isT (by rw [dI_F (by omega)]; rfl) ?_
            walk_at "go"
            exact ⟨rfl, p3, n, 8, rfl, pn26, by rw [if_neg hr0], hn, by decide⟩
        · rintro σ H27 ⟨rfl, po, o, L, rfl, po26, ho, hoS, hoL⟩
          walk_at "go"
          refine ⟨W, ts26, po, o, xi, x, 300, rfl, ls26.w, po26.w, hoS.vok hoL, hx26, by decide, by omega, fun dv due ts28 H28 gr28 hr28 hv28 => ?_⟩
          have ls28 := ls26.grow gr28
          have b28 := gr28.len
          walk_at "go"
          refine ⟨W, ts28, kp, kn (dft d y n), xi, x, 800, rfl, ls28.w, (pk26.grow gr28).w, kn_vok hd hy hn, pre_get gr28.pre hx26, by decide, by omega, fun av act ts29 H29 gr29 hr29 hv29 => ?_⟩
          have ls29 := ls28.grow gr29
          have b29 := gr29.len
          have pd29 := (pd26.grow gr28).grow gr29
          have py29 := (py26.grow gr28).grow gr29
          have pn29 := (pn26.grow gr28).grow gr29
          have pk29 := (pk26.grow gr28).grow gr29
          have po29 := (po26.grow gr28).grow gr29
          have hx29 := pre_get gr29.pre (pre_get gr28.pre hx26)
          have dv29 := hv28.grow ls28 gr29
          have e29 := gr29.keep _ _ (gr28.keep _ _ e9 fun z => ls26.out e9 (List.mem_cons_of_mem _ z)) fun z => (ls28.out (gr28.keep _ _ e9 fun z => ls26.out e9 (List.mem_cons_of_mem _ z))) (List.mem_cons_of_mem _ z)
          have r29 := pre_get gr29.pre (pre_get gr28.pre r9)
          obtain ⟨main1, main2⟩ := whole_done hd hy hn hx hrun o ho hr28 hr29
          clear hv28 pd26 py26 pn26 pk26 po26 e9 ls26 ls28 gr28 gr29 hx26
          walk_at "go"
          refine eq_large dv29 ?_
          walk_at "go"
          cases due with
          | large =>
            walk_at "go"
            refine r_isT rfl ?_
            walk_at "go"
            exact kt _
          | non =>
            refine r_isF rfl ?_
            walk_at "go"
            refine eq_large hv29 ?_
            walk_at "go"
            obtain rfl := (show dv = .non from dv29)
            refine r_2 (fun _ => ?_) (fun _ => ?_)
            · walk_at "go"
              exact kt _
            walk_at "go"
            refine r_isF (by decide) ?_
            walk_at "go"
            refine ⟨W, ts29, po, o, xi, x, rfl, ls29.w, po29.w, hoS.vok hoL, hx29, by omega, fun b ts30 H30 gr30 hb => ?_⟩
            have b30 := gr30.len
            have fin : ∃ (ts' : List Tr) (y10 y11 y12 y13 y14 y15 y16 : Option V), [some (.ref a), some (.ref s), some (.ref W.w), some (.ref p1), some (.ref p2), some (.ref p3), some (.ref g), some (.ref kp), some (.ref kp), some (.ref q9), some (.int (0 + (i : Int))), some (.int (xi : Int)), x12, some (.ref po), some V.non, some av, x16] = [some (V.ref a), some (.ref s), some (.ref W.w), some (.ref p1), some (.ref p2), some (.ref p3), some (.ref g), some (.ref kp), some (.ref kp), some (.ref q9), y10, y11, y12, y13, y14, y15, y16] ∧ LS W s H30 ts' ∧
              PrAt (s :: W.m) H30 p1 d ∧ PrAt (s :: W.m) H30 p2 y ∧ PrAt (s :: W.m) H30 p3 n ∧ PrAt (s :: W.m) H30 kp (kn (dft d y n)) ∧ ResV H30 ts' (.ref q9) (.done r k) ∧ ts'.length ≤ 500000 + (i + 1) * 1300000 :=
              ⟨ts30, _, _, _, _, _, _, _, rfl, ls29.grow gr30, pd29.grow gr30, py29.grow gr30, pn29.grow gr30, pk29.grow gr30, ResV.grow (res := .done r k) ⟨q9, i9, rfl, e29, r29⟩ ls29 gr30, by omega⟩
            walk_at "go"
            cases b with
            | false =>
              walk_at "go"
              exact fin
            | true =>
              have hact := main2 (hb rfl)
              subst hact
              obtain rfl := (show av = .non from hv29)
              walk_at "go"
              refine r_isF (by decide) ?_
              walk_at "go"
              exact fin
          | done t j =>
            obtain ⟨j', hact, hj'⟩ := main1 t j rfl
            subst hact
            obtain ⟨q14, i14, rfl, e14, r14⟩ := dv29
            obtain ⟨q15, i15, rfl, e15, r15⟩ := hv29
            have hii : i15 = i14 := nd_get ls29.w.nodup r15 r14
            refine r_isF rfl ?_
            walk_at "go"
            refine eq_large (res := .done t j') (ts := ts29) ⟨q15, i15, rfl, e15, r15⟩ ?_
            walk_at "go"
            refine r_isF rfl ?_
            walk_at "go"
            refine r_isT (by rw [decide_eq_false (fun z => by cases z)]; rfl) ?_
            walk_at "go"
            refine r_isF (decide_eq_false (fun z => by cases z)) ?_
            walk_at "go"
            refine r_isF (by rw [dI_T (by omega)]; rfl) ?_
            walk_at "go"
            refine r_isF (decide_eq_false (by omega)) ?_
            walk_at "go"
            exact ⟨ts29, _, _, _, _, _, _, _, rfl, ls29, pd29, py29, pn29, pk29, ⟨q9, i9, rfl, e29, r29⟩, by omega⟩
    · rintro σ H23 ⟨ts24, x10, x11, x12, x13, x14, x15, x16, rfl, _⟩
      walk_at "go"
      exact kt _
end
end K38
set_option Elab.async false
set_option linter.all false
set_option maxRecDepth 100000
set_option maxHeartbeats 0
namespace K38
open PySem PySem.Spec PyProof.Rows L2 He
abbrev R : PySem.W.OpenRow := PySem.W.OpenLaw.row PySem.Challenge.rw_narcissus_k38_whole_defeats
abbrev qv : Program := PySem.W.view R.prog [66]
abbrev hk : PySem.W.Hook := hookX 4 fas fns tabs [] exB
def ob (s : PySem.W.SharedT) : AlX := obsX 4 fas fns tabs [] exB (HandSHeadRun.getT s)
theorem ob_eq (s : PySem.W.SharedT) : ob s = hk.obs s.abs := obsX_eq (HandSHeadRun.getT_eq s)
def loose0 : List PySem.Str := ["NarcissusError", "TooLarge", "TooWide", "MOST_TREE", "LEAF", "is_tree", "checked", "checked_trees", "cons", "number", "list_of", "MOST_CODE", "REGISTERS", "WORDS", "PARTS", "MINUS", "is_whole", "is_instruction", "is_program", "registers_of", "width", "row_code", "code", "checked_building", "filled", "MOST_WIDTH", "checked_knowing", "narrow", "clearing", "one_code"]
def loose1 : List PySem.Str := ["opening", "knowing_any", "defeat", "_law_stream", "_law_draw", "_law_world", "_law_cons", "_law_in", "_law_loaded", "_law_step", "_law_run", "_law_number", "_law_instruction", "_law_list", "_law_code", "_law_tree", "_law_registers", "_law_random_program", "_law_short_program", "_law_program", "_law_decider", "_law_are_rows", "_law_is_stuck", "_law_longer", "_law_width", "_law_input"]
def loose : List PySem.Str := loose0 ++ loose1
theorem run0 (w : World) : HandSHeadRun.RunEq R qv hk ob 4000 loose (w.withFollow "special-get-raises" false) := by
  intro os
  kernel_rfl
theorem run1 (w : World) : HandSHeadRun.RunEq R qv hk ob 4000 loose (w.withFollow "special-get-raises" true) := by
  intro os
  kernel_rfl
theorem run (w : World) : HandSHeadRun.RunEq R qv hk ob 4000 loose w := PySem.W.byRow2 "special-get-raises" (P := fun w => HandSHeadRun.RunEq R qv hk ob 4000 loose w) run0 run1 w
end K38
set_option Elab.async false
set_option linter.all false
set_option maxRecDepth 100000
set_option maxHeartbeats 0
namespace K38
open PySem PySem.Spec PyProof.Rows L2 He SX
theorem facts {P : Program} {w : World} {K : PySem.W.Frag} {h : Heap} {mg : Str → Option Value} {f : Addr} (X : K.In h) (G : h.Ns mainGlobals mg) (hfa : mg ("law" : Str) = some (.ref f)) (c : SaysX fas fns tabs [] exB w h K) :
    ∃ fd : FuncData, (∀ (s : Shared) (v : Value), BindsTo s fd ⟨[v], []⟩ [("_law_script", v)]) ∧ ∀ base : Heap, K.In base → base.Ns mainGlobals mg → FnOk P w K mg base L2.CX0 11 f fd ["_law_script"] (sp_law K) := by
  have T : Txt w K mg := txt_of X G c
  obtain ⟨fd, F⟩ := c.t.d.def_ 44 (d := ⟨("law", none), "law", "law", defArgs s_law, defBody s_law, defScope s_law, [], []⟩) rfl
  have e := hfa.symm.trans (glo_ok X G (c.t.d.fact 44 (f := .glo "law") rfl))
  cases e
  have b := FunD.bindsA (ps := ["_law_script"]) F fun _ _ _ _ _ _ us hl => match us, hl with | [_], _ => rfl
  exact ⟨fd, fun s v => b s [v] rfl, fun base _ _ => law_fn T F⟩
end K38
open PySem PySem.W PySem.Calls PyProof.Rows
theorem PySem.Challenge.cw_narcissus_k38_whole_defeats_holds : PySem.Challenge.rw_narcissus_k38_whole_defeats.Holds := by
  w_on; o_law
  refine HandSHeadRun.head_any (r := OpenLaw.row PySem.Challenge.rw_narcissus_k38_whole_defeats) (q := view (OpenLaw.row PySem.Challenge.rw_narcissus_k38_whole_defeats).prog [66]) (H := K38.hk) (ob := K38.ob) (M := 4000) (loose := K38.loose) (d := HandSHeadRun.topDef (OpenLaw.row PySem.Challenge.rw_narcissus_k38_whole_defeats).prog 66) (kwd := []) K38.ob_eq
    (by kernel_rfl) (fun s => by kernel_rfl) K38.run (by kernel_rfl) (by kernel_rfl) (by kernel_rfl) (by rfl) (by first | assumption | decide +kernel) (by decide +kernel) ⟨rfl, rfl, rfl, rfl, rfl, by decide +kernel⟩ ?hw ?hc
  case hw => w_witness2
  case hc =>
    refine L2.walk_ofE (l := PySem.Challenge.rw_narcissus_k38_whole_defeats) (n := 63) (k := 11) (x := "_law_script") (CX := L2.CX0) rfl (by decide) (by kernel_rfl) ⟨rfl, by decide, by decide⟩ ?F (fun _ _ _ _ z => z)
    intro w mg fa h Y G hmg0
    obtain ⟨K, KX, c⟩ := Y
    have hmg : mg ("law" : PySem.Str) = some (.ref fa) := by
      have e : (HandSHeadRun.topDef (OpenLaw.row PySem.Challenge.rw_narcissus_k38_whole_defeats).prog 66).name = ("law" : PySem.Str) := by kernel_rfl
      rw [← e]
      exact hmg0
    obtain ⟨fd, hb, hF⟩ := K38.facts (P := (PySem.Challenge.rw_narcissus_k38_whole_defeats).prog) (w := w) KX G hmg c
    exact ⟨K, fd, K38.sp_law K, KX, hb, fun H a ns hl _ hS => ⟨a, ns, rfl, hS, hl, fun _ => rfl⟩, hF⟩

import PyProof.Rows.All
import HandS.ForMost
import PySem.Challenge.RW_nonearer_k40_whole_papers_within_a_reach
import KE.KStateDown
import HandS.ExcField
import HandS.ExcInit
import HandS.Defaults
import HandS.HeadHook4
import HandS.Head3
import HandS.ForExc
import HandS.Conv
import HandS.TupAny
import HandS.TupMul
import HandS.Zip
import HandS.IsInst
import HandS.SortInts
import HandS.SortKw
import HandS.Wide
import HandS.Style
import HandS.HeadWalk
import KE.DataMinMax
import KE.KMathG
import KE.GoesNew
import KE.GoesEnum
import KE.GoesMore
import HandS.Deep
import PyProof.NeKinds
import HandS.Nested
import Flt.RightSqrt
import HandS.TupLe
import KE.KExcSuper
import HandS.EndTab
set_option Elab.async false
set_option linter.all false
set_option maxRecDepth 100000
/-! Tx: the program by its places (printed by gen_tx.py). -/
namespace N
open PySem
open L2
def top (i : Nat) : Stmt := PySem.Challenge.pw_nonearer_k40_whole_papers_within_a_reach.main.body.getD i (.Pass ⟨0, 0, 0, 0⟩)
abbrev s_is_integer : Stmt := top 5
abbrev n_is_integer : List Str := ["value"]
abbrev p_is_integer : List Str := ["value"]
theorem sc_is_integer : FnScope n_is_integer p_is_integer (defScope s_is_integer) := ⟨rfl, rfl, rfl, by decide +kernel, rfl, by decide +kernel, by decide +kernel⟩
abbrev s_is_number : Stmt := top 6
abbrev n_is_number : List Str := ["value"]
abbrev p_is_number : List Str := ["value"]
theorem sc_is_number : FnScope n_is_number p_is_number (defScope s_is_number) := ⟨rfl, rfl, rfl, by decide +kernel, rfl, by decide +kernel, by decide +kernel⟩
abbrev s_differences : Stmt := top 8
abbrev n_differences : List Str := ["one", "other", "mine", "yours"]
abbrev p_differences : List Str := ["one", "other"]
theorem sc_differences : FnScope n_differences p_differences (defScope s_differences) := ⟨rfl, rfl, rfl, by decide +kernel, rfl, by decide +kernel, by decide +kernel⟩
abbrev s_part_of : Stmt := top 10
abbrev n_part_of : List Str := ["kind", "difference"]
abbrev p_part_of : List Str := ["kind", "difference"]
theorem sc_part_of : FnScope n_part_of p_part_of (defScope s_part_of) := ⟨rfl, rfl, rfl, by decide +kernel, rfl, by decide +kernel, by decide +kernel⟩
abbrev s_joined_parts : Stmt := top 11
abbrev n_joined_parts : List Str := ["kind", "parts"]
abbrev p_joined_parts : List Str := ["kind", "parts"]
theorem sc_joined_parts : FnScope n_joined_parts p_joined_parts (defScope s_joined_parts) := ⟨rfl, rfl, rfl, by decide +kernel, rfl, by decide +kernel, by decide +kernel⟩
abbrev s_distance : Stmt := top 12
abbrev n_distance : List Str := ["kind", "one", "other", "difference"]
abbrev p_distance : List Str := ["kind", "one", "other"]
theorem sc_distance : FnScope n_distance p_distance (defScope s_distance) := ⟨rfl, rfl, rfl, by decide +kernel, rfl, by decide +kernel, by decide +kernel⟩
abbrev s_doubled_root : Stmt := top 13
abbrev n_doubled_root : List Str := ["one", "other"]
abbrev p_doubled_root : List Str := ["one", "other"]
theorem sc_doubled_root : FnScope n_doubled_root p_doubled_root (defScope s_doubled_root) := ⟨rfl, rfl, rfl, by decide +kernel, rfl, by decide +kernel, by decide +kernel⟩
abbrev s_gap_of : Stmt := top 14
abbrev n_gap_of : List Str := ["kind", "one", "other"]
abbrev p_gap_of : List Str := ["kind", "one", "other"]
theorem sc_gap_of : FnScope n_gap_of p_gap_of (defScope s_gap_of) := ⟨rfl, rfl, rfl, by decide +kernel, rfl, by decide +kernel, by decide +kernel⟩
abbrev s_least_beyond : Stmt := top 15
abbrev n_least_beyond : List Str := ["kind", "from_centre", "radius"]
abbrev p_least_beyond : List Str := ["kind", "from_centre", "radius"]
theorem sc_least_beyond : FnScope n_least_beyond p_least_beyond (defScope s_least_beyond) := ⟨rfl, rfl, rfl, by decide +kernel, rfl, by decide +kernel, by decide +kernel⟩
abbrev s_label_in : Stmt := top 17
abbrev n_label_in : List Str := ["labels", "name", "other", "value"]
abbrev p_label_in : List Str := ["labels", "name"]
theorem sc_label_in : FnScope n_label_in p_label_in (defScope s_label_in) := ⟨rfl, rfl, rfl, by decide +kernel, rfl, by decide +kernel, by decide +kernel⟩
abbrev s_lets_by : Stmt := top 19
abbrev n_lets_by : List Str := ["sieve", "labels", "part", "value"]
abbrev p_lets_by : List Str := ["sieve", "labels"]
theorem sc_lets_by : FnScope n_lets_by p_lets_by (defScope s_lets_by) := ⟨rfl, rfl, rfl, by decide +kernel, rfl, by decide +kernel, by decide +kernel⟩
abbrev s_passes : Stmt := top 20
abbrev n_passes : List Str := ["sieve", "item"]
abbrev p_passes : List Str := ["sieve", "item"]
theorem sc_passes : FnScope n_passes p_passes (defScope s_passes) := ⟨rfl, rfl, rfl, by decide +kernel, rfl, by decide +kernel, by decide +kernel⟩
abbrev s_shell_of : Stmt := top 22
abbrev n_shell_of : List Str := ["region"]
abbrev p_shell_of : List Str := ["region"]
theorem sc_shell_of : FnScope n_shell_of p_shell_of (defScope s_shell_of) := ⟨rfl, rfl, rfl, by decide +kernel, rfl, by decide +kernel, by decide +kernel⟩
abbrev s_gap_to : Stmt := top 23
abbrev n_gap_to : List Str := ["low", "high", "part"]
abbrev p_gap_to : List Str := ["low", "high", "part"]
theorem sc_gap_to : FnScope n_gap_to p_gap_to (defScope s_gap_to) := ⟨rfl, rfl, rfl, by decide +kernel, rfl, by decide +kernel, by decide +kernel⟩
abbrev s_floor_of_shell : Stmt := top 24
abbrev n_floor_of_shell : List Str := ["kind", "shell", "near", "far", "least", "greatest"]
abbrev p_floor_of_shell : List Str := ["kind", "shell", "near", "far"]
theorem sc_floor_of_shell : FnScope n_floor_of_shell p_floor_of_shell (defScope s_floor_of_shell) := ⟨rfl, rfl, rfl, by decide +kernel, rfl, by decide +kernel, by decide +kernel⟩
abbrev s_floor_of : Stmt := top 25
abbrev n_floor_of : List Str := ["kind", "region", "vector", "gaps", "low", "high", "part", "gap", "away"]
abbrev p_floor_of : List Str := ["kind", "region", "vector"]
theorem sc_floor_of : FnScope n_floor_of p_floor_of (defScope s_floor_of) := ⟨rfl, rfl, rfl, by decide +kernel, rfl, by decide +kernel, by decide +kernel⟩
abbrev s_row_of_name : Stmt := top 27
abbrev n_row_of_name : List Str := ["told", "name", "row"]
abbrev p_row_of_name : List Str := ["told", "name"]
theorem sc_row_of_name : FnScope n_row_of_name p_row_of_name (defScope s_row_of_name) := ⟨rfl, rfl, rfl, by decide +kernel, rfl, by decide +kernel, by decide +kernel⟩
abbrev s_range_verdict : Stmt := top 28
abbrev n_range_verdict : List Str := ["sieve", "row", "count", "name", "many", "least", "greatest", "low", "high"]
abbrev p_range_verdict : List Str := ["sieve", "row", "count"]
theorem sc_range_verdict : FnScope n_range_verdict p_range_verdict (defScope s_range_verdict) := ⟨rfl, rfl, rfl, by decide +kernel, rfl, by decide +kernel, by decide +kernel⟩
abbrev s_opposite_verdict : Stmt := top 29
abbrev n_opposite_verdict : List Str := ["word"]
abbrev p_opposite_verdict : List Str := ["word"]
theorem sc_opposite_verdict : FnScope n_opposite_verdict p_opposite_verdict (defScope s_opposite_verdict) := ⟨rfl, rfl, rfl, by decide +kernel, rfl, by decide +kernel, by decide +kernel⟩
abbrev s_verdict_of_all : Stmt := top 30
abbrev n_verdict_of_all : List Str := ["words"]
abbrev p_verdict_of_all : List Str := ["words"]
theorem sc_verdict_of_all : FnScope n_verdict_of_all p_verdict_of_all (defScope s_verdict_of_all) := ⟨rfl, rfl, rfl, by decide +kernel, rfl, by decide +kernel, by decide +kernel⟩
abbrev s_verdict : Stmt := top 31
abbrev n_verdict : List Str := ["sieve", "told", "word", "part", "row"]
abbrev p_verdict : List Str := ["sieve", "told"]
theorem sc_verdict : FnScope n_verdict p_verdict (defScope s_verdict) := ⟨rfl, rfl, rfl, by decide +kernel, rfl, by decide +kernel, by decide +kernel⟩
abbrev s_may_pass : Stmt := top 32
abbrev n_may_pass : List Str := ["sieve", "told"]
abbrev p_may_pass : List Str := ["sieve", "told"]
theorem sc_may_pass : FnScope n_may_pass p_may_pass (defScope s_may_pass) := ⟨rfl, rfl, rfl, by decide +kernel, rfl, by decide +kernel, by decide +kernel⟩
abbrev s_Index_init : Stmt := inClass (top 34) 0
abbrev n_Index_init : List Str := ["self", "kind", "form", "lot", "room"]
abbrev p_Index_init : List Str := ["self", "kind", "form", "lot", "room"]
theorem sc_Index_init : FnScope n_Index_init p_Index_init (defScope s_Index_init) := ⟨rfl, rfl, rfl, by decide +kernel, rfl, by decide +kernel, by decide +kernel⟩
abbrev s_lots_in : Stmt := top 35
abbrev n_lots_in : List Str := ["lot"]
abbrev p_lots_in : List Str := ["lot"]
theorem sc_lots_in : FnScope n_lots_in p_lots_in (defScope s_lots_in) := ⟨rfl, rfl, rfl, by decide +kernel, rfl, by decide +kernel, by decide +kernel⟩
abbrev s_own_keys : Stmt := top 36
abbrev n_own_keys : List Str := ["lot"]
abbrev p_own_keys : List Str := ["lot"]
theorem sc_own_keys : FnScope n_own_keys p_own_keys (defScope s_own_keys) := ⟨rfl, rfl, rfl, by decide +kernel, rfl, by decide +kernel, by decide +kernel⟩
abbrev s_Paper_init : Stmt := inClass (top 39) 0
abbrev n_Paper_init : List Str := ["self", "answer", "steps"]
abbrev p_Paper_init : List Str := ["self", "answer", "steps"]
theorem sc_Paper_init : FnScope n_Paper_init p_Paper_init (defScope s_Paper_init) := ⟨rfl, rfl, rfl, by decide +kernel, rfl, by decide +kernel, by decide +kernel⟩
abbrev s_answer_reach : Stmt := top 40
abbrev n_answer_reach : List Str := ["question", "answer"]
abbrev p_answer_reach : List Str := ["question", "answer"]
theorem sc_answer_reach : FnScope n_answer_reach p_answer_reach (defScope s_answer_reach) := ⟨rfl, rfl, rfl, by decide +kernel, rfl, by decide +kernel, by decide +kernel⟩
abbrev s_is_step : Stmt := top 41
abbrev n_is_step : List Str := ["word", "kind", "vector", "sieve", "reach", "lot", "region", "summary"]
abbrev p_is_step : List Str := ["word", "kind", "vector", "sieve", "reach", "lot"]
theorem sc_is_step : FnScope n_is_step p_is_step (defScope s_is_step) := ⟨rfl, rfl, rfl, by decide +kernel, rfl, by decide +kernel, by decide +kernel⟩
abbrev s_closing_word : Stmt := top 42
abbrev n_closing_word : List Str := ["kind", "vector", "sieve", "reach", "lot", "word"]
abbrev p_closing_word : List Str := ["kind", "vector", "sieve", "reach", "lot"]
theorem sc_closing_word : FnScope n_closing_word p_closing_word (defScope s_closing_word) := ⟨rfl, rfl, rfl, by decide +kernel, rfl, by decide +kernel, by decide +kernel⟩
abbrev s_pairs_of : Stmt := top 43
abbrev n_pairs_of : List Str := ["state", "kind", "vector", "sieve", "keys", "some", "key", "item"]
abbrev p_pairs_of : List Str := ["state", "kind", "vector", "sieve", "keys"]
theorem sc_pairs_of : FnScope n_pairs_of p_pairs_of (defScope s_pairs_of) := ⟨rfl, rfl, rfl, by decide +kernel, rfl, by decide +kernel, by decide +kernel⟩
abbrev s_walk_of : Stmt := top 44
abbrev n_walk_of : List Str := ["index", "steps", "judge", "todo", "opened", "at", "word", "lot"]
abbrev p_walk_of : List Str := ["index", "steps", "judge"]
theorem sc_walk_of : FnScope n_walk_of p_walk_of (defScope s_walk_of) := ⟨rfl, rfl, rfl, by decide +kernel, rfl, by decide +kernel, by decide +kernel⟩
abbrev s_looked : Stmt := top 45
abbrev n_looked : List Str := ["index", "state", "kind", "vector", "sieve", "reach", "steps", "opened", "fault", "found", "lot"]
abbrev p_looked : List Str := ["index", "state", "kind", "vector", "sieve", "reach", "steps"]
theorem sc_looked : FnScope n_looked p_looked (defScope s_looked) := ⟨rfl, rfl, rfl, by decide +kernel, rfl, by decide +kernel, by decide +kernel⟩
abbrev s_least_steps : Stmt := top 46
abbrev n_least_steps : List Str := ["index", "kind", "vector", "sieve", "reach", "todo", "steps", "lot"]
abbrev p_least_steps : List Str := ["index", "kind", "vector", "sieve", "reach"]
theorem sc_least_steps : FnScope n_least_steps p_least_steps (defScope s_least_steps) := ⟨rfl, rfl, rfl, by decide +kernel, rfl, by decide +kernel, by decide +kernel⟩
abbrev s_within_paper : Stmt := top 47
abbrev n_within_paper : List Str := ["index", "state", "kind", "vector", "reach", "sieve", "steps", "found", "pair"]
abbrev p_within_paper : List Str := ["index", "state", "kind", "vector", "reach", "sieve"]
theorem sc_within_paper : FnScope n_within_paper p_within_paper (defScope s_within_paper) := ⟨rfl, rfl, rfl, by decide +kernel, rfl, by decide +kernel, by decide +kernel⟩
abbrev s_fewer : Stmt := top 48
abbrev n_fewer : List Str := ["paper", "many"]
abbrev p_fewer : List Str := ["paper", "many"]
theorem sc_fewer : FnScope n_fewer p_fewer (defScope s_fewer) := ⟨rfl, rfl, rfl, by decide +kernel, rfl, by decide +kernel, by decide +kernel⟩
abbrev s_is_answer_form : Stmt := top 50
abbrev n_is_answer_form : List Str := ["value", "many", "at", "pair", "part"]
abbrev p_is_answer_form : List Str := ["value", "many"]
theorem sc_is_answer_form : FnScope n_is_answer_form p_is_answer_form (defScope s_is_answer_form) := ⟨rfl, rfl, rfl, by decide +kernel, rfl, by decide +kernel, by decide +kernel⟩
abbrev s_first_fault : Stmt := top 51
abbrev n_first_fault : List Str := ["index", "state", "question", "value", "kind", "vector", "many", "sieve", "found", "error"]
abbrev p_first_fault : List Str := ["index", "state", "question", "value"]
theorem sc_first_fault : FnScope n_first_fault p_first_fault (defScope s_first_fault) := ⟨rfl, rfl, rfl, by decide +kernel, rfl, by decide +kernel, by decide +kernel⟩
abbrev s_is_right : Stmt := top 52
abbrev n_is_right : List Str := ["index", "state", "question", "value"]
abbrev p_is_right : List Str := ["index", "state", "question", "value"]
theorem sc_is_right : FnScope n_is_right p_is_right (defScope s_is_right) := ⟨rfl, rfl, rfl, by decide +kernel, rfl, by decide +kernel, by decide +kernel⟩
abbrev s_within_fault : Stmt := top 53
abbrev n_within_fault : List Str := ["index", "state", "kind", "vector", "reach", "sieve", "value", "found", "error", "pair"]
abbrev p_within_fault : List Str := ["index", "state", "kind", "vector", "reach", "sieve", "value"]
theorem sc_within_fault : FnScope n_within_fault p_within_fault (defScope s_within_fault) := ⟨rfl, rfl, rfl, by decide +kernel, rfl, by decide +kernel, by decide +kernel⟩
abbrev s_is_within_paper : Stmt := top 54
abbrev n_is_within_paper : List Str := ["index", "state", "kind", "vector", "reach", "sieve", "value"]
abbrev p_is_within_paper : List Str := ["index", "state", "kind", "vector", "reach", "sieve", "value"]
theorem sc_is_within_paper : FnScope n_is_within_paper p_is_within_paper (defScope s_is_within_paper) := ⟨rfl, rfl, rfl, by decide +kernel, rfl, by decide +kernel, by decide +kernel⟩
abbrev s_tied : Stmt := top 55
abbrev n_tied : List Str := ["index", "state", "question", "paper", "kind", "vector", "many", "sieve", "reach", "found", "pair"]
abbrev p_tied : List Str := ["index", "state", "question", "paper"]
theorem sc_tied : FnScope n_tied p_tied (defScope s_tied) := ⟨rfl, rfl, rfl, by decide +kernel, rfl, by decide +kernel, by decide +kernel⟩
abbrev s__law_heap : Stmt := top 57
abbrev n__law_heap : List Str := ["_law_script", "_law_cells", "_law_stir", "_law_cell"]
abbrev p__law_heap : List Str := ["_law_script"]
theorem sc__law_heap : FnScope n__law_heap p__law_heap (defScope s__law_heap) := ⟨rfl, rfl, rfl, by decide +kernel, rfl, by decide +kernel, by decide +kernel⟩
abbrev s__law_draw : Stmt := top 58
abbrev n__law_draw : List Str := ["_law_heap_here", "_law_many", "_law_rest"]
abbrev p__law_draw : List Str := ["_law_heap_here", "_law_many"]
theorem sc__law_draw : FnScope n__law_draw p__law_draw (defScope s__law_draw) := ⟨rfl, rfl, rfl, by decide +kernel, rfl, by decide +kernel, by decide +kernel⟩
abbrev s__law_pick : Stmt := top 59
abbrev n__law_pick : List Str := ["_law_heap_here", "_law_some"]
abbrev p__law_pick : List Str := ["_law_heap_here", "_law_some"]
theorem sc__law_pick : FnScope n__law_pick p__law_pick (defScope s__law_pick) := ⟨rfl, rfl, rfl, by decide +kernel, rfl, by decide +kernel, by decide +kernel⟩
abbrev s__law_distance : Stmt := top 60
abbrev n__law_distance : List Str := ["_law_kind", "_law_one", "_law_other", "_law_sizes", "_law_at", "_law_size"]
abbrev p__law_distance : List Str := ["_law_kind", "_law_one", "_law_other"]
theorem sc__law_distance : FnScope n__law_distance p__law_distance (defScope s__law_distance) := ⟨rfl, rfl, rfl, by decide +kernel, rfl, by decide +kernel, by decide +kernel⟩
abbrev s__law_passes : Stmt := top 61
abbrev n__law_passes : List Str := ["_law_sieve_here", "_law_labels", "_law_word", "_law_name", "_law_value", "_law_part"]
abbrev p__law_passes : List Str := ["_law_sieve_here", "_law_labels"]
theorem sc__law_passes : FnScope n__law_passes p__law_passes (defScope s__law_passes) := ⟨rfl, rfl, rfl, by decide +kernel, rfl, by decide +kernel, by decide +kernel⟩
abbrev s__law_pairs : Stmt := top 62
abbrev n__law_pairs : List Str := ["_law_state_here", "_law_kind", "_law_vector_here", "_law_sieve_here", "_law_keys", "_law_key"]
abbrev p__law_pairs : List Str := ["_law_state_here", "_law_kind", "_law_vector_here", "_law_sieve_here", "_law_keys"]
theorem sc__law_pairs : FnScope n__law_pairs p__law_pairs (defScope s__law_pairs) := ⟨rfl, rfl, rfl, by decide +kernel, rfl, by decide +kernel, by decide +kernel⟩
abbrev s__law_vector : Stmt := top 63
abbrev n__law_vector : List Str := ["_law_heap_here", "_law_places", "_law_wide", "_law_place"]
abbrev p__law_vector : List Str := ["_law_heap_here", "_law_places", "_law_wide"]
theorem sc__law_vector : FnScope n__law_vector p__law_vector (defScope s__law_vector) := ⟨rfl, rfl, rfl, by decide +kernel, rfl, by decide +kernel, by decide +kernel⟩
abbrev s__law_state : Stmt := top 64
abbrev n__law_state : List Str := ["_law_heap_here", "_law_places", "_law_many", "_law_wide", "_law_names", "_law_found", "_law_last", "_law_turn", "_law_key", "_law_labels", "_law_name"]
abbrev p__law_state : List Str := ["_law_heap_here", "_law_places", "_law_many", "_law_wide", "_law_names"]
theorem sc__law_state : FnScope n__law_state p__law_state (defScope s__law_state) := ⟨rfl, rfl, rfl, by decide +kernel, rfl, by decide +kernel, by decide +kernel⟩
abbrev s__law_sieve : Stmt := top 65
abbrev n__law_sieve : List Str := ["_law_heap_here", "_law_names", "_law_depth", "_law_kind", "_law_name", "_law_low"]
abbrev p__law_sieve : List Str := ["_law_heap_here", "_law_names", "_law_depth"]
theorem sc__law_sieve : FnScope n__law_sieve p__law_sieve (defScope s__law_sieve) := ⟨rfl, rfl, rfl, by decide +kernel, rfl, by decide +kernel, by decide +kernel⟩
abbrev s__law_summary : Stmt := top 66
abbrev n__law_summary : List Str := ["_law_state_here", "_law_keys", "_law_values", "_law_key", "_law_name", "_law_value"]
abbrev p__law_summary : List Str := ["_law_state_here", "_law_keys"]
theorem sc__law_summary : FnScope n__law_summary p__law_summary (defScope s__law_summary) := ⟨rfl, rfl, rfl, by decide +kernel, rfl, by decide +kernel, by decide +kernel⟩
abbrev s__law_region : Stmt := top 67
abbrev n__law_region : List Str := ["_law_heap_here", "_law_kind", "_law_form", "_law_vectors", "_law_lows", "_law_vector_here", "_law_at", "_law_centre", "_law_part", "_law_away"]
abbrev p__law_region : List Str := ["_law_heap_here", "_law_kind", "_law_form", "_law_vectors"]
theorem sc__law_region : FnScope n__law_region p__law_region (defScope s__law_region) := ⟨rfl, rfl, rfl, by decide +kernel, rfl, by decide +kernel, by decide +kernel⟩
abbrev s__law_lot : Stmt := top 68
abbrev n__law_lot : List Str := ["_law_heap_here", "_law_kind", "_law_form", "_law_state_here", "_law_keys", "_law_depth", "_law_region_here", "_law_key", "_law_more", "_law_turn", "_law_marks", "_law_lots_here", "_law_at"]
abbrev p__law_lot : List Str := ["_law_heap_here", "_law_kind", "_law_form", "_law_state_here", "_law_keys", "_law_depth"]
theorem sc__law_lot : FnScope n__law_lot p__law_lot (defScope s__law_lot) := ⟨rfl, rfl, rfl, by decide +kernel, rfl, by decide +kernel, by decide +kernel⟩
abbrev s__law_near : Stmt := top 69
abbrev n__law_near : List Str := ["_law_state_here", "_law_kind", "_law_keys", "_law_vector_here", "_law_far", "_law_key"]
abbrev p__law_near : List Str := ["_law_state_here", "_law_kind", "_law_keys", "_law_vector_here"]
theorem sc__law_near : FnScope n__law_near p__law_near (defScope s__law_near) := ⟨rfl, rfl, rfl, by decide +kernel, rfl, by decide +kernel, by decide +kernel⟩
abbrev s__law_world : Stmt := top 70
abbrev n__law_world : List Str := ["_law_heap_here", "_law_many", "_law_places", "_law_wide", "_law_names", "_law_state_here", "_law_kind", "_law_form", "_law_vector_here", "_law_keys", "_law_nothing", "_law_lot_here", "_law_asked"]
abbrev p__law_world : List Str := ["_law_heap_here", "_law_many"]
theorem sc__law_world : FnScope n__law_world p__law_world (defScope s__law_world) := ⟨rfl, rfl, rfl, by decide +kernel, rfl, by decide +kernel, by decide +kernel⟩
abbrev s__law_right_words : Stmt := top 71
abbrev n__law_right_words : List Str := ["_law_lot_here", "_law_question", "_law_reach", "_law_kind", "_law_vector_here", "_law_many", "_law_sieve_here", "_law_region_here", "_law_summary_here", "_law_found"]
abbrev p__law_right_words : List Str := ["_law_lot_here", "_law_question", "_law_reach"]
theorem sc__law_right_words : FnScope n__law_right_words p__law_right_words (defScope s__law_right_words) := ⟨rfl, rfl, rfl, by decide +kernel, rfl, by decide +kernel, by decide +kernel⟩
abbrev s__law_lots : Stmt := top 72
abbrev n__law_lots : List Str := ["_law_lot_here"]
abbrev p__law_lots : List Str := ["_law_lot_here"]
theorem sc__law_lots : FnScope n__law_lots p__law_lots (defScope s__law_lots) := ⟨rfl, rfl, rfl, by decide +kernel, rfl, by decide +kernel, by decide +kernel⟩
abbrev s__law_met : Stmt := top 73
abbrev n__law_met : List Str := ["_law_lot_here", "_law_question", "_law_reach", "_law_steps", "_law_todo", "_law_keys", "_law_at", "_law_one"]
abbrev p__law_met : List Str := ["_law_lot_here", "_law_question", "_law_reach", "_law_steps"]
theorem sc__law_met : FnScope n__law_met p__law_met (defScope s__law_met) := ⟨rfl, rfl, rfl, by decide +kernel, rfl, by decide +kernel, by decide +kernel⟩
abbrev s__law_least : Stmt := top 74
abbrev n__law_least : List Str := ["_law_lot_here", "_law_question", "_law_reach", "_law_todo", "_law_found", "_law_turn", "_law_one"]
abbrev p__law_least : List Str := ["_law_lot_here", "_law_question", "_law_reach"]
theorem sc__law_least : FnScope n__law_least p__law_least (defScope s__law_least) := ⟨rfl, rfl, rfl, by decide +kernel, rfl, by decide +kernel, by decide +kernel⟩
abbrev s__law_some_steps : Stmt := top 75
abbrev n__law_some_steps : List Str := ["_law_heap_here", "_law_lot_here", "_law_question", "_law_reach", "_law_todo", "_law_found", "_law_turn", "_law_one"]
abbrev p__law_some_steps : List Str := ["_law_heap_here", "_law_lot_here", "_law_question", "_law_reach"]
theorem sc__law_some_steps : FnScope n__law_some_steps p__law_some_steps (defScope s__law_some_steps) := ⟨rfl, rfl, rfl, by decide +kernel, rfl, by decide +kernel, by decide +kernel⟩
abbrev s__law_spoilt : Stmt := top 76
abbrev n__law_spoilt : List Str := ["_law_heap_here", "_law_steps", "_law_at", "_law_odd", "_law_word", "_law_some"]
abbrev p__law_spoilt : List Str := ["_law_heap_here", "_law_steps"]
theorem sc__law_spoilt : FnScope n__law_spoilt p__law_spoilt (defScope s__law_spoilt) := ⟨rfl, rfl, rfl, by decide +kernel, rfl, by decide +kernel, by decide +kernel⟩
abbrev s__law_is_number : Stmt := top 77
abbrev n__law_is_number : List Str := ["_law_value"]
abbrev p__law_is_number : List Str := ["_law_value"]
theorem sc__law_is_number : FnScope n__law_is_number p__law_is_number (defScope s__law_is_number) := ⟨rfl, rfl, rfl, by decide +kernel, rfl, by decide +kernel, by decide +kernel⟩
abbrev s__law_is_form : Stmt := top 78
abbrev n__law_is_form : List Str := ["_law_value", "_law_pair", "_law_at"]
abbrev p__law_is_form : List Str := ["_law_value"]
theorem sc__law_is_form : FnScope n__law_is_form p__law_is_form (defScope s__law_is_form) := ⟨rfl, rfl, rfl, by decide +kernel, rfl, by decide +kernel, by decide +kernel⟩
abbrev s__law_fault : Stmt := top 79
abbrev n__law_fault : List Str := ["_law_state_here", "_law_index", "_law_question", "_law_reach", "_law_value", "_law_kind", "_law_vector_here", "_law_many", "_law_sieve_here", "_law_keys", "_law_fault_here", "_law_found", "_law_pair"]
abbrev p__law_fault : List Str := ["_law_state_here", "_law_index", "_law_question", "_law_reach", "_law_value"]
theorem sc__law_fault : FnScope n__law_fault p__law_fault (defScope s__law_fault) := ⟨rfl, rfl, rfl, by decide +kernel, rfl, by decide +kernel, by decide +kernel⟩
abbrev s__law_within_right : Stmt := top 80
abbrev n__law_within_right : List Str := ["_law_heap_here", "_law_state_here", "_law_index", "_law_question", "_law_reach", "_law_kind", "_law_vector_here", "_law_many", "_law_sieve_here", "_law_due", "_law_pair", "_law_least_here", "_law_some", "_law_told", "_law_odd", "_law_values", "_law_value", "_law_fault_here"]
abbrev p__law_within_right : List Str := ["_law_heap_here", "_law_state_here", "_law_index", "_law_question", "_law_reach"]
theorem sc__law_within_right : FnScope n__law_within_right p__law_within_right (defScope s__law_within_right) := ⟨rfl, rfl, rfl, by decide +kernel, rfl, by decide +kernel, by decide +kernel⟩
abbrev s__law_fewer_right : Stmt := top 81
abbrev n__law_fewer_right : List Str := ["_law_heap_here", "_law_state_here", "_law_index", "_law_question", "_law_kind", "_law_vector_here", "_law_many", "_law_sieve_here", "_law_pairs_here", "_law_due", "_law_reach", "_law_paper", "_law_less", "_law_other", "_law_alike", "_law_pair", "_law_whole"]
abbrev p__law_fewer_right : List Str := ["_law_heap_here", "_law_state_here", "_law_index", "_law_question"]
theorem sc__law_fewer_right : FnScope n__law_fewer_right p__law_fewer_right (defScope s__law_fewer_right) := ⟨rfl, rfl, rfl, by decide +kernel, rfl, by decide +kernel, by decide +kernel⟩
abbrev s_law : Stmt := top 82
abbrev n_law : List Str := ["_law_script", "_law_heap_here", "_law_turn", "_law_state_here", "_law_index", "_law_question", "_law_kind", "_law_vector_here", "_law_many", "_law_sieve_here", "_law_kept", "_law_pairs_here", "_law_far", "_law_reach", "_law_other", "_law_paper", "_law_value", "_law_one", "_law_two", "_law_told"]
abbrev p_law : List Str := ["_law_script"]
theorem sc_law : FnScope n_law p_law (defScope s_law) := ⟨rfl, rfl, rfl, by decide +kernel, rfl, by decide +kernel, by decide +kernel⟩
end N
set_option Elab.async false
set_option linter.all false
set_option maxRecDepth 100000
set_option maxHeartbeats 1000000
namespace N
open PySem
open PySem.Spec
open PyProof.Rows
open L2
/-! HD: what the head leaves (printed by gen_hd.py). -/
abbrev s_IP_init : Stmt := inClass (top 3) 0
def dn : List He.DefD := [
  ⟨("is_integer", none), "is_integer", "is_integer", defArgs s_is_integer, defBody s_is_integer, defScope s_is_integer, [], []⟩,
  ⟨("is_number", none), "is_number", "is_number", defArgs s_is_number, defBody s_is_number, defScope s_is_number, [], []⟩,
  ⟨("differences", none), "differences", "differences", defArgs s_differences, defBody s_differences, defScope s_differences, [], []⟩,
  ⟨("part_of", none), "part_of", "part_of", defArgs s_part_of, defBody s_part_of, defScope s_part_of, [], []⟩,
  ⟨("joined_parts", none), "joined_parts", "joined_parts", defArgs s_joined_parts, defBody s_joined_parts, defScope s_joined_parts, [], []⟩,
  ⟨("distance", none), "distance", "distance", defArgs s_distance, defBody s_distance, defScope s_distance, [], []⟩,
  ⟨("doubled_root", none), "doubled_root", "doubled_root", defArgs s_doubled_root, defBody s_doubled_root, defScope s_doubled_root, [], []⟩,
  ⟨("gap_of", none), "gap_of", "gap_of", defArgs s_gap_of, defBody s_gap_of, defScope s_gap_of, [], []⟩,
  ⟨("least_beyond", none), "least_beyond", "least_beyond", defArgs s_least_beyond, defBody s_least_beyond, defScope s_least_beyond, [], []⟩,
  ⟨("label_in", none), "label_in", "label_in", defArgs s_label_in, defBody s_label_in, defScope s_label_in, [], []⟩,
  ⟨("lets_by", none), "lets_by", "lets_by", defArgs s_lets_by, defBody s_lets_by, defScope s_lets_by, [], []⟩,
  ⟨("passes", none), "passes", "passes", defArgs s_passes, defBody s_passes, defScope s_passes, [], []⟩,
  ⟨("shell_of", none), "shell_of", "shell_of", defArgs s_shell_of, defBody s_shell_of, defScope s_shell_of, [], []⟩,
  ⟨("gap_to", none), "gap_to", "gap_to", defArgs s_gap_to, defBody s_gap_to, defScope s_gap_to, [], []⟩,
  ⟨("floor_of_shell", none), "floor_of_shell", "floor_of_shell", defArgs s_floor_of_shell, defBody s_floor_of_shell, defScope s_floor_of_shell, [], []⟩,
  ⟨("floor_of", none), "floor_of", "floor_of", defArgs s_floor_of, defBody s_floor_of, defScope s_floor_of, [], []⟩,
  ⟨("row_of_name", none), "row_of_name", "row_of_name", defArgs s_row_of_name, defBody s_row_of_name, defScope s_row_of_name, [], []⟩,
  ⟨("range_verdict", none), "range_verdict", "range_verdict", defArgs s_range_verdict, defBody s_range_verdict, defScope s_range_verdict, [], []⟩,
  ⟨("opposite_verdict", none), "opposite_verdict", "opposite_verdict", defArgs s_opposite_verdict, defBody s_opposite_verdict, defScope s_opposite_verdict, [], []⟩,
  ⟨("verdict_of_all", none), "verdict_of_all", "verdict_of_all", defArgs s_verdict_of_all, defBody s_verdict_of_all, defScope s_verdict_of_all, [], []⟩,
  ⟨("verdict", none), "verdict", "verdict", defArgs s_verdict, defBody s_verdict, defScope s_verdict, [], []⟩,
  ⟨("may_pass", none), "may_pass", "may_pass", defArgs s_may_pass, defBody s_may_pass, defScope s_may_pass, [], []⟩,
  ⟨("lots_in", none), "lots_in", "lots_in", defArgs s_lots_in, defBody s_lots_in, defScope s_lots_in, [], []⟩,
  ⟨("own_keys", none), "own_keys", "own_keys", defArgs s_own_keys, defBody s_own_keys, defScope s_own_keys, [], []⟩,
  ⟨("answer_reach", none), "answer_reach", "answer_reach", defArgs s_answer_reach, defBody s_answer_reach, defScope s_answer_reach, [], []⟩,
  ⟨("is_step", none), "is_step", "is_step", defArgs s_is_step, defBody s_is_step, defScope s_is_step, [], []⟩,
  ⟨("closing_word", none), "closing_word", "closing_word", defArgs s_closing_word, defBody s_closing_word, defScope s_closing_word, [], []⟩,
  ⟨("pairs_of", none), "pairs_of", "pairs_of", defArgs s_pairs_of, defBody s_pairs_of, defScope s_pairs_of, [], []⟩,
  ⟨("walk_of", none), "walk_of", "walk_of", defArgs s_walk_of, defBody s_walk_of, defScope s_walk_of, [], []⟩,
  ⟨("looked", none), "looked", "looked", defArgs s_looked, defBody s_looked, defScope s_looked, [], []⟩,
  ⟨("least_steps", none), "least_steps", "least_steps", defArgs s_least_steps, defBody s_least_steps, defScope s_least_steps, [], []⟩,
  ⟨("within_paper", none), "within_paper", "within_paper", defArgs s_within_paper, defBody s_within_paper, defScope s_within_paper, [], []⟩,
  ⟨("fewer", none), "fewer", "fewer", defArgs s_fewer, defBody s_fewer, defScope s_fewer, [], []⟩,
  ⟨("is_answer_form", none), "is_answer_form", "is_answer_form", defArgs s_is_answer_form, defBody s_is_answer_form, defScope s_is_answer_form, [], []⟩,
  ⟨("first_fault", none), "first_fault", "first_fault", defArgs s_first_fault, defBody s_first_fault, defScope s_first_fault, [], []⟩,
  ⟨("is_right", none), "is_right", "is_right", defArgs s_is_right, defBody s_is_right, defScope s_is_right, [], []⟩,
  ⟨("within_fault", none), "within_fault", "within_fault", defArgs s_within_fault, defBody s_within_fault, defScope s_within_fault, [], []⟩,
  ⟨("is_within_paper", none), "is_within_paper", "is_within_paper", defArgs s_is_within_paper, defBody s_is_within_paper, defScope s_is_within_paper, [], []⟩,
  ⟨("tied", none), "tied", "tied", defArgs s_tied, defBody s_tied, defScope s_tied, [], []⟩,
  ⟨("_law_heap", none), "_law_heap", "_law_heap", defArgs s__law_heap, defBody s__law_heap, defScope s__law_heap, [], []⟩,
  ⟨("_law_draw", none), "_law_draw", "_law_draw", defArgs s__law_draw, defBody s__law_draw, defScope s__law_draw, [], []⟩,
  ⟨("_law_pick", none), "_law_pick", "_law_pick", defArgs s__law_pick, defBody s__law_pick, defScope s__law_pick, [], []⟩,
  ⟨("_law_distance", none), "_law_distance", "_law_distance", defArgs s__law_distance, defBody s__law_distance, defScope s__law_distance, [], []⟩,
  ⟨("_law_passes", none), "_law_passes", "_law_passes", defArgs s__law_passes, defBody s__law_passes, defScope s__law_passes, [], []⟩,
  ⟨("_law_pairs", none), "_law_pairs", "_law_pairs", defArgs s__law_pairs, defBody s__law_pairs, defScope s__law_pairs, [], []⟩,
  ⟨("_law_vector", none), "_law_vector", "_law_vector", defArgs s__law_vector, defBody s__law_vector, defScope s__law_vector, [], []⟩,
  ⟨("_law_state", none), "_law_state", "_law_state", defArgs s__law_state, defBody s__law_state, defScope s__law_state, [], []⟩,
  ⟨("_law_sieve", none), "_law_sieve", "_law_sieve", defArgs s__law_sieve, defBody s__law_sieve, defScope s__law_sieve, [], []⟩,
  ⟨("_law_summary", none), "_law_summary", "_law_summary", defArgs s__law_summary, defBody s__law_summary, defScope s__law_summary, [], []⟩,
  ⟨("_law_region", none), "_law_region", "_law_region", defArgs s__law_region, defBody s__law_region, defScope s__law_region, [], []⟩,
  ⟨("_law_lot", none), "_law_lot", "_law_lot", defArgs s__law_lot, defBody s__law_lot, defScope s__law_lot, [], []⟩,
  ⟨("_law_near", none), "_law_near", "_law_near", defArgs s__law_near, defBody s__law_near, defScope s__law_near, [], []⟩,
  ⟨("_law_world", none), "_law_world", "_law_world", defArgs s__law_world, defBody s__law_world, defScope s__law_world, [], []⟩,
  ⟨("_law_right_words", none), "_law_right_words", "_law_right_words", defArgs s__law_right_words, defBody s__law_right_words, defScope s__law_right_words, [], []⟩,
  ⟨("_law_lots", none), "_law_lots", "_law_lots", defArgs s__law_lots, defBody s__law_lots, defScope s__law_lots, [], []⟩,
  ⟨("_law_met", none), "_law_met", "_law_met", defArgs s__law_met, defBody s__law_met, defScope s__law_met, [], []⟩,
  ⟨("_law_least", none), "_law_least", "_law_least", defArgs s__law_least, defBody s__law_least, defScope s__law_least, [], []⟩,
  ⟨("_law_some_steps", none), "_law_some_steps", "_law_some_steps", defArgs s__law_some_steps, defBody s__law_some_steps, defScope s__law_some_steps, [], []⟩,
  ⟨("_law_spoilt", none), "_law_spoilt", "_law_spoilt", defArgs s__law_spoilt, defBody s__law_spoilt, defScope s__law_spoilt, [], []⟩,
  ⟨("_law_is_number", none), "_law_is_number", "_law_is_number", defArgs s__law_is_number, defBody s__law_is_number, defScope s__law_is_number, [], []⟩,
  ⟨("_law_is_form", none), "_law_is_form", "_law_is_form", defArgs s__law_is_form, defBody s__law_is_form, defScope s__law_is_form, [], []⟩,
  ⟨("_law_fault", none), "_law_fault", "_law_fault", defArgs s__law_fault, defBody s__law_fault, defScope s__law_fault, [], []⟩,
  ⟨("_law_within_right", none), "_law_within_right", "_law_within_right", defArgs s__law_within_right, defBody s__law_within_right, defScope s__law_within_right, [], []⟩,
  ⟨("_law_fewer_right", none), "_law_fewer_right", "_law_fewer_right", defArgs s__law_fewer_right, defBody s__law_fewer_right, defScope s__law_fewer_right, [], []⟩,
  ⟨("law", none), "law", "law", defArgs s_law, defBody s_law, defScope s_law, [], []⟩,
  ⟨("Index", some "__init__"), "__init__", "Index.__init__", defArgs s_Index_init, defBody s_Index_init, defScope s_Index_init, [], []⟩,
  ⟨("Paper", some "__init__"), "__init__", "Paper.__init__", defArgs s_Paper_init, defBody s_Paper_init, defScope s_Paper_init, [], []⟩]
def fa : List He.Fa := [
  .glo "is_integer", .glo "is_number", .glo "differences", .glo "part_of", .glo "joined_parts", .glo "distance",
  .glo "doubled_root", .glo "gap_of", .glo "least_beyond", .glo "label_in", .glo "lets_by", .glo "passes",
  .glo "shell_of", .glo "gap_to", .glo "floor_of_shell", .glo "floor_of", .glo "row_of_name", .glo "range_verdict",
  .glo "opposite_verdict", .glo "verdict_of_all", .glo "verdict", .glo "may_pass", .glo "lots_in", .glo "own_keys",
  .glo "answer_reach", .glo "is_step", .glo "closing_word", .glo "pairs_of", .glo "walk_of", .glo "looked",
  .glo "least_steps", .glo "within_paper", .glo "fewer", .glo "is_answer_form", .glo "first_fault", .glo "is_right",
  .glo "within_fault", .glo "is_within_paper", .glo "tied", .glo "_law_heap", .glo "_law_draw", .glo "_law_pick",
  .glo "_law_distance", .glo "_law_passes", .glo "_law_pairs", .glo "_law_vector", .glo "_law_state", .glo "_law_sieve",
  .glo "_law_summary", .glo "_law_region", .glo "_law_lot", .glo "_law_near", .glo "_law_world", .glo "_law_right_words",
  .glo "_law_lots", .glo "_law_met", .glo "_law_least", .glo "_law_some_steps", .glo "_law_spoilt", .glo "_law_is_number",
  .glo "_law_is_form", .glo "_law_fault", .glo "_law_within_right", .glo "_law_fewer_right", .glo "law", .glo "StoreError",
  .glo "InvalidPaper", .glo "Index", .glo "Paper", .glo "STEP_WORDS", .free "isinstance", .free "int",
  .free "bool", .free "tuple", .free "zip", .free "abs", .free "max", .free "min",
  .free "sum", .free "len", .free "all", .free "any", .free "sorted", .free "range",
  .free "enumerate", .free "str", .free "list", .free "repr", .free "super", .cls "Index",
  .mkr "Index", .cls "Paper", .mkr "Paper", .noat "Index" "kind", .noat "Index" "form", .noat "Index" "lot",
  .noat "Index" "room", .noat "Paper" "answer", .noat "Paper" "steps", .noat "InvalidPaper" "at"]
abbrev R : PySem.W.OpenRow := PySem.W.OpenLaw.row PySem.Challenge.rw_nonearer_k40_whole_papers_within_a_reach
abbrev qv : Program := PySem.W.view R.prog [0, 82]
def nm0 : List Str := ["is_integer", "is_number", "differences", "part_of", "joined_parts", "distance", "doubled_root", "gap_of", "least_beyond", "label_in", "lets_by", "passes", "shell_of", "gap_to", "floor_of_shell", "floor_of", "row_of_name", "range_verdict", "opposite_verdict", "verdict_of_all"]
def nm20 : List Str := ["verdict", "may_pass", "lots_in", "own_keys", "answer_reach", "is_step", "closing_word", "pairs_of", "walk_of", "looked", "least_steps", "within_paper", "fewer", "is_answer_form", "first_fault", "is_right", "within_fault", "is_within_paper", "tied", "_law_heap"]
def nm40 : List Str := ["_law_draw", "_law_pick", "_law_distance", "_law_passes", "_law_pairs", "_law_vector", "_law_state", "_law_sieve", "_law_summary", "_law_region", "_law_lot", "_law_near", "_law_world", "_law_right_words", "_law_lots", "_law_met", "_law_least", "_law_some_steps", "_law_spoilt", "_law_is_number"]
def nm60 : List Str := ["_law_is_form", "_law_fault", "_law_within_right", "_law_fewer_right", "StoreError", "InvalidPaper", "Index", "Paper", "STEP_WORDS"]
def nms : List Str := nm0 ++ nm20 ++ nm40 ++ nm60
/-! InvalidPaper -/
abbrev cIP (K : PySem.W.Frag) : Addr := He.ga K "InvalidPaper"
abbrev fIP (K : PySem.W.Frag) : Addr := He.ma K (cIP K) "__init__"
def oexB (K : PySem.W.Frag) (C : Addr) : Bool := match K.lookup C with
  | some ⟨.type t, _, .cls cd, sl⟩ => decide (t = "type") && (match cd.mro, sl.toList with
    | .ref D :: bm, [_, _, _, _, some (.builtin n), _] => decide (D = C) && (decide (n = "ValueError.__new__") && (cd.hasDict && (!cd.hasDel && PySem.HandSPX.refsVE bm)))
    | _, _ => false)
  | _ => false
theorem oexB_ok {K : PySem.W.Frag} {C : Addr} (h : oexB K C = true) : ∃ nm q M bs bm sn sub ab col dd k0 k1 k2 k3 k5, K.lookup C = some (excClassObj nm q C M bs bm true sn sub ab col dd k0 k1 k2 k3 k5 "ValueError.__new__") ∧ PySem.HandSPX.refsVE bm = true := by
  unfold oexB at h
  split at h
  · rename_i t dd cd sl ho
    obtain ⟨e0, h⟩ := He.ba h
    split at h
    · rename_i D bm k0 k1 k2 k3 n k5 hm hs
      obtain ⟨e1, h⟩ := He.ba h
      obtain ⟨e2, h⟩ := He.ba h
      obtain ⟨e3, h⟩ := He.ba h
      obtain ⟨e4, e5⟩ := He.ba h
      have e0 := of_decide_eq_true e0
      have e1 := of_decide_eq_true e1
      have e2 := of_decide_eq_true e2
      subst e0 e1 e2
      obtain ⟨nm, bs, mro, M, q, hd, sn, sub, ab, col, del⟩ := cd
      have hm : mro = .ref D :: bm := hm
      have g3 : hd = true := e3
      have g4 : del = false := by
        have g5 : (!del) = true := e4
        cases del <;> first | rfl | cases g5
      subst hm g3 g4
      have hs : sl = #[k0, k1, k2, k3, some (.builtin "ValueError.__new__"), k5] := by
        obtain ⟨l⟩ := sl
        have hs : l = [k0, k1, k2, k3, some (.builtin "ValueError.__new__"), k5] := hs
        rw [hs]
      subst hs
      exact ⟨nm, q, M, bs, bm, sn, sub, ab, col, dd, k0, k1, k2, k3, k5, ho, e5⟩
    · cases h
  · cases h
def fileB (K : PySem.W.Frag) (c : Addr) (file : Str) : Bool := match K.lookup c with
  | some ⟨_, _, .fields vs, _⟩ => (match (vs[2]? : Option Value) with
    | some (.str f _) => file == f
    | _ => false)
  | _ => false
theorem fileB_ok {K : PySem.W.Frag} {c : Addr} {file : Str} (h : fileB K c file = true) : ∃ (ccl : Value) (cdd : Option Addr) (vs : Array Value) (ccs : Array (Option Value)) (f : Str) (tf : Tok), K.lookup c = some ⟨ccl, cdd, .fields vs, ccs⟩ ∧ vs[2]? = some (.str f tf) ∧ (file == f) = true := by
  unfold fileB at h
  split at h
  · rename_i ccl cdd vs ccs ho
    split at h
    · rename_i f tf hf
      exact ⟨ccl, cdd, vs, ccs, f, tf, ho, hf, h⟩
    · cases h
  · cases h
def cellB (K : PySem.W.Frag) (c C : Addr) : Bool := match K.lookup c with
  | some ⟨_, _, .cell (some (.ref D)), _⟩ => decide (D = C)
  | _ => false
theorem cellB_ok {K : PySem.W.Frag} {c C : Addr} (h : cellB K c C = true) : ∃ (cl : Value) (cld : Option Addr) (csl : Array (Option Value)), K.lookup c = some ⟨cl, cld, .cell (some (.ref C)), csl⟩ := by
  unfold cellB at h
  split at h
  · rename_i cl cld D csl ho
    rw [of_decide_eq_true h] at ho
    exact ⟨cl, cld, csl, ho⟩
  · cases h
abbrev IpV : Type := Option (Str × Str × Arguments × FuncBody × Scope × Addr × List Str × Addr)
def ipW (K : PySem.W.Frag) : IpV := match K.lookup (fIP K) with
  | some ⟨_, _, .func fd, _⟩ => some (fd.name, fd.qualname, fd.params, fd.body, fd.scope, fd.globals, fd.closure.map (·.1), fd.builtins)
  | _ => none
def ipV : IpV := some ("__init__", "InvalidPaper.__init__", defArgs s_IP_init, .stmts (defBody s_IP_init), defScope s_IP_init, mainGlobals, ["__class__"], builtinsNs)
def ipC (K : PySem.W.Frag) : Value → List (Str × Addr) → Value → Bool
  | .none, [(_, cc)], .ref cda => PySem.W.codeIn K (.ref cda) "InvalidPaper.__init__" && (fileB K cda R.prog.main.file && cellB K cc (cIP K))
  | _, _, _ => false
theorem ipC_ok {K : PySem.W.Frag} {d c : Value} {l : List (Str × Addr)} {x : Str} (h : ipC K d l c = true) (e : l.map (·.1) = [x]) : ∃ cda cc, d = .none ∧ l = [(x, cc)] ∧ c = .ref cda ∧ PySem.W.codeIn K (.ref cda) "InvalidPaper.__init__" = true ∧ fileB K cda R.prog.main.file = true ∧ cellB K cc (cIP K) = true := by
  unfold ipC at h
  split at h
  · rename_i y cc cda
    obtain ⟨b1, b2⟩ := He.ba h
    obtain ⟨b3, b4⟩ := He.ba b2
    obtain rfl : y = x := (List.cons.inj e).1
    exact ⟨cda, cc, rfl, rfl, rfl, b1, b3, b4⟩
  · cases h
def ipB (K : PySem.W.Frag) : Bool := match K.lookup (fIP K) with
  | some ⟨_, _, .func fd, _⟩ => ipC K fd.defaults fd.closure fd.code
  | _ => false
def isCB (K : PySem.W.Frag) (nm : Str) : Bool := He.eqO (PySem.W.findIn K (.ref (He.ga K nm)) "__class__") (some (some (.builtin "object.__class__"))) && (He.eqO (PySem.W.specialIn K (.builtin "object.__class__") "__get__") (some (some (.builtin "getset_descriptor.__get__"))) &&
  (decide (PySem.W.takesIn K (.builtin "object.__class__") = some true) && (decide (PySem.W.mroIn K (He.ga K nm) (.type "object") = some true) && (decide (PySem.W.kitOne K (.ref (He.ga K nm)) (.ref (He.ga K nm)) = some true) &&
    (decide (PySem.W.kitOne K (.type "NoneType") (.ref (He.ga K nm)) = some false) && decide (PySem.W.kitOne K (.type "tuple") (.ref (He.ga K nm)) = some false))))))
def exA (K : PySem.W.Frag) : Bool := He.eqO (PySem.W.nsIn K mainGlobals "isqrt") (some (some (.builtin "math.isqrt"))) && (He.tupB K "STEP_WORDS" [.str "empty", .str "barred", .str "far", .str "open"] && (isCB K "Paper" && PySem.W.keepIn K (.ref (He.ga K "Paper"))))
def exB (K : PySem.W.Frag) : Bool := oexB K (cIP K) && (He.eqO (PySem.W.findIn K (.ref (cIP K)) "__setattr__") (some (some (.builtin "object.__setattr__"))) && (decide (PySem.W.subIn K (.ref (cIP K)) (.type "BaseException") = some true) && (decide (PySem.W.typeIn K (.ref (cIP K)) = some (.type "type")) &&
  PySem.W.keepIn K (.ref (cIP K)))))
def exC (K : PySem.W.Frag) : Bool := decide (PySem.W.ks_superIn K (cIP K) (cIP K) "__init__" = some (some (.builtin "ValueError.__init__"))) && (decide (PySem.W.subIn K (.ref (cIP K)) (.type "ValueError") = some true) && (decide (PySem.W.mroIn K (cIP K) (.ref (cIP K)) = some true) &&
  He.eqO (PySem.W.nsIn K cStatics "thirdparty.any") (some none)))
def exD (K : PySem.W.Frag) : Bool := He.eqO (PySem.W.findIn K (.ref (cIP K)) "__init__") (some (some (.ref (fIP K)))) && (decide (PySem.W.typeIn K (.ref (fIP K)) = some (.type "function")) && (ipB K && (xfB K (cIP K) && decide (PySem.W.exmOne K (.ref (cIP K)) (.ref (cIP K)) = some true))))
def exAll (K : PySem.W.Frag) : Bool := exA K && (exB K && (exC K && exD K))
/-! the Hook -/
def tf : List He.Defn := [("looked", none)]
/-! forced lists: the kernel meets numerals, not what stands for them -/
def frA {α : Type} : List Addr → (List Addr → α) → α
  | [], k => k []
  | a :: r, k => HandSHeadRun.frNat a fun a => frA r fun r => k (a :: r)
theorem frA_eq {α : Type} : ∀ (l : List Addr) (k : List Addr → α), frA l k = k l
  | [], _ => rfl
  | a :: r, k => by
    show HandSHeadRun.frNat a (fun a => frA r fun r => k (a :: r)) = _
    rw [HandSHeadRun.frNat_eq, frA_eq r]
def frK {α : Type} : PySem.W.Frag → (PySem.W.Frag → α) → α
  | [], k => k []
  | (a, ⟨c, d, t, sl⟩) :: r, k => HandSHeadRun.frNat a fun a => frK r fun r => k ((a, ⟨c, d, t, sl⟩) :: r)
theorem frK_eq {α : Type} : ∀ (l : PySem.W.Frag) (k : PySem.W.Frag → α), frK l k = k l
  | [], _ => rfl
  | (a, ⟨c, d, t, sl⟩) :: r, k => by
    show HandSHeadRun.frNat a (fun a => frK r fun r => k ((a, ⟨c, d, t, sl⟩) :: r)) = _
    rw [HandSHeadRun.frNat_eq, frK_eq r]
/-- what an object names, code objects left out -/
def refsZ (o : Obj) : List Addr := match o.data with
  | .fields _ => []
  | _ => He.refsD o
def nxt (g : Addr → Option Obj) (l : List Addr) : List Addr := l.flatMap fun a => match g a with
  | some o => refsZ o
  | none => []
abbrev AlY : Type := He.AlD × Bool × IpV
def obsK (g : Addr → Option Obj) (K : PySem.W.Frag) : AlY := (He.obsD fa dn K, exAll K && He.tabsB g tf K, ipW K)
/-- the statics, what the names of the module reach in four steps -/
def obsY (g : Addr → Option Obj) : AlY := frA (nxt g [mainGlobals]) fun l1 => frA (nxt g l1) fun l2 => frA (nxt g l2) fun l3 => frA (nxt g l3) fun l4 => frK (He.frT g (cStatics :: mainGlobals :: (l1 ++ (l2 ++ (l3 ++ l4))))) fun K => obsK g K
theorem obsY_eq (g : Addr → Option Obj) : ∃ as : List Addr, obsY g = obsK g (He.frT g as) := by
  unfold obsY
  rw [frA_eq, frA_eq, frA_eq, frA_eq, frK_eq]
  exact ⟨_, rfl⟩
def valY : AlY := (He.valD dn, true, ipV)
structure SaysY (h : Heap) (K : PySem.W.Frag) : Prop where
  d : He.SaysD fa dn K
  x : exAll K = true
  ip : ipW K = ipV
  hd : PySem.W.codeHdIn K (He.cT K ("looked", none)).1 (He.cT K ("looked", none)).2 = true
  out : K.lookup (He.cT K ("looked", none)).2 = none
  empty : h.get? (He.cT K ("looked", none)).2 = some { cls := .none, data := .fields #[] }
theorem saysY_of {h : Heap} (e0 : obsY h.get? = valY) : ∃ as : List Addr, SaysY h (He.frT h.get? as) := by
  obtain ⟨as, eq⟩ := obsY_eq h.get?
  have e := eq.symm.trans e0
  have e1 : He.obsD fa dn (He.frT h.get? as) = He.valD dn := congrArg (fun z : AlY => z.1) e
  have e2 : (exAll (He.frT h.get? as) && He.tabsB h.get? tf (He.frT h.get? as)) = true := congrArg (fun z : AlY => z.2.1) e
  have e3 : ipW (He.frT h.get? as) = ipV := congrArg (fun z : AlY => z.2.2) e
  obtain ⟨h1, h2⟩ := He.ba e2
  obtain ⟨h3, h4⟩ := He.ba (List.all_eq_true.mp h2 ("looked", none) List.mem_cons_self)
  refine ⟨as, ?_⟩
  cases q : h.get? (He.cT (He.frT h.get? as) ("looked", none)).2 with
  | none =>
    rw [q] at h4
    cases h4
  | some o =>
    rw [q] at h4
    exact ⟨e1, h1, e3, h3, He.frT_none q h4, q.trans (congrArg some (He.emptyTab_eq h4))⟩
def hk : PySem.W.Hook where
  α := AlY
  obs := fun s => obsY s.heap.get?
  val := fun _ => valY
  says := fun _ h => ∃ K : PySem.W.Frag, K.In h ∧ SaysY h K
  of := fun _ _ e => let ⟨_, z⟩ := saysY_of e; ⟨_, He.frT_in, z⟩
  keeps := fun _ _ _ ⟨K, hK, c⟩ k => ⟨K, PySem.W.Frag.In.keeps hK k, ⟨c.d, c.x, c.ip, c.hd, c.out, k _ _ c.empty⟩⟩
def ob (s : PySem.W.SharedT) : AlY := obsY (HandSHeadRun.getT s)
theorem ob_eq (s : PySem.W.SharedT) : ob s = hk.obs s.abs := by
  have e : HandSHeadRun.getT s = s.abs.heap.get? := funext (HandSHeadRun.getT_eq s)
  show obsY (HandSHeadRun.getT s) = obsY s.abs.heap.get?
  rw [e]
end N
set_option Elab.async false
set_option linter.all false
set_option maxRecDepth 100000
set_option maxHeartbeats 1000000
namespace N
open PySem
open PySem.Spec
open PyProof.Rows
open L2
/-! HR: the run of the head. -/
set_option maxHeartbeats 0 in
theorem run (w : World) : HandSHeadRun.RunEqI R qv hk ob 6000 nms w := by
  delta HandSHeadRun.RunEqI
  kernel_rfl
end N
set_option Elab.async false
set_option linter.all false
set_option maxRecDepth 100000
set_option maxHeartbeats 1000000
/-! DA: data without a heap, how it stands in a heap, the state of a body, what an expression is worth by data. -/
namespace N
open PySem
open PySem.Spec
open PyProof.Rows
open L2

/-- data: `raw` is a value that is known as it stands, `scr` the script -/
inductive Dt where
  | non | bl (b : Bool) | int (i : Int) | str (x : Str)
  | lst (l : List Dt) | tup (l : List Dt)
  | dic (l : List (Int × Dt))
  | obj (nm : Str) (fs : List (Str × Dt))
  | raw (v : V)
  | scr (ns : List Int)

mutual
inductive Rp (K : PySem.W.Frag) (G : Hp) : V → Dt → Prop
  | non : Rp K G .non .non
  | bl (b : Bool) : Rp K G (.bl b) (.bl b)
  | int (i : Int) : Rp K G (.int i) (.int i)
  | str (x : Str) : Rp K G (.str x) (.str x)
  | lst {a : Addr} {xs : List V} {ds : List Dt} : G a = some (.lst xs) → ds.length ≤ sizeLine → RpA K G xs ds → Rp K G (.ref a) (.lst ds)
  | tup {a : Addr} {xs : List V} {ds : List Dt} : G a = some (.tup xs) → ds.length ≤ sizeLine → RpA K G xs ds → Rp K G (.ref a) (.tup ds)
  | dic {a : Addr} {kvs : List (Key × V)} {ds : List (Int × Dt)} : G a = some (.dK kvs) → RpD K G kvs ds → Rp K G (.ref a) (.dic ds)
  | obj {a dx : Addr} {nm : Str} {fs : List (Str × V)} {ds : List (Str × Dt)} : G a = some (.ins (He.ga K nm) dx fs) → RpF K G fs ds → Rp K G (.ref a) (.obj nm ds)
  | raw (v : V) : Rp K G v (.raw v)
  | scr {a : Addr} {ns : List Int} : SqL K G a (ns.map V.int) → Rp K G (.ref a) (.scr ns)
inductive RpA (K : PySem.W.Frag) (G : Hp) : List V → List Dt → Prop
  | nil : RpA K G [] []
  | cons {v : V} {d : Dt} {vs : List V} {ds : List Dt} : Rp K G v d → RpA K G vs ds → RpA K G (v :: vs) (d :: ds)
inductive RpD (K : PySem.W.Frag) (G : Hp) : List (Key × V) → List (Int × Dt) → Prop
  | nil : RpD K G [] []
  | cons {i : Int} {v : V} {d : Dt} {vs : List (Key × V)} {ds : List (Int × Dt)} : Rp K G v d → RpD K G vs ds → RpD K G ((.inl i, v) :: vs) ((i, d) :: ds)
inductive RpF (K : PySem.W.Frag) (G : Hp) : List (Str × V) → List (Str × Dt) → Prop
  | nil : RpF K G [] []
  | cons {f : Str} {v : V} {d : Dt} {vs : List (Str × V)} {ds : List (Str × Dt)} : Rp K G v d → RpF K G vs ds → RpF K G ((f, v) :: vs) ((f, d) :: ds)
end

/-- what is clean stays -/
abbrev GLe (G G' : Hp) : Prop := ∀ b o, G b = some o → G' b = some o
theorem GLe.rfl' (G : Hp) : GLe G G := fun _ _ h => h
theorem GLe.tr {A B C : Hp} (h : GLe A B) (k : GLe B C) : GLe A C := fun b o e => k b o (h b o e)
theorem seqL_le {K : PySem.W.Frag} {G G' : Hp} {a : Addr} {xs : List V} (k : GLe G G') (h : SqL K G a xs) : SqL K G' a xs := by
  rcases h with (h | ⟨o, h⟩) | h
  · exact .inl (.inl (k _ _ h))
  · exact .inl (.inr ⟨o, k _ _ h⟩)
  · exact .inr h
section
variable {K : PySem.W.Frag} {G G' : Hp}
mutual
theorem Rp.le (k : GLe G G') : ∀ {v : V} {d : Dt}, Rp K G v d → Rp K G' v d
  | _, _, .non => .non
  | _, _, .bl b => .bl b
  | _, _, .int i => .int i
  | _, _, .str x => .str x
  | _, _, .lst h z r => .lst (k _ _ h) z (RpA.le k r)
  | _, _, .tup h z r => .tup (k _ _ h) z (RpA.le k r)
  | _, _, .dic h r => .dic (k _ _ h) (RpD.le k r)
  | _, _, .obj h r => .obj (k _ _ h) (RpF.le k r)
  | _, _, .raw v => .raw v
  | _, _, .scr h => .scr (seqL_le k h)
theorem RpA.le (k : GLe G G') : ∀ {vs : List V} {ds : List Dt}, RpA K G vs ds → RpA K G' vs ds
  | _, _, .nil => .nil
  | _, _, .cons h r => .cons (Rp.le k h) (RpA.le k r)
theorem RpD.le (k : GLe G G') : ∀ {vs : List (Key × V)} {ds : List (Int × Dt)}, RpD K G vs ds → RpD K G' vs ds
  | _, _, .nil => .nil
  | _, _, .cons h r => .cons (Rp.le k h) (RpD.le k r)
theorem RpF.le (k : GLe G G') : ∀ {vs : List (Str × V)} {ds : List (Str × Dt)}, RpF K G vs ds → RpF K G' vs ds
  | _, _, .nil => .nil
  | _, _, .cons h r => .cons (Rp.le k h) (RpF.le k r)
end
theorem RpA.len : ∀ {vs : List V} {ds : List Dt}, RpA K G vs ds → vs.length = ds.length
  | _, _, .nil => rfl
  | _, _, .cons _ r => congrArg (· + 1) (RpA.len r)
theorem RpA.get : ∀ {vs : List V} {ds : List Dt}, RpA K G vs ds → ∀ {i : Nat} {d : Dt}, ds[i]? = some d → ∃ v, vs[i]? = some v ∧ Rp K G v d
  | _, _, .nil, i, d, h => by simp at h
  | _, _, .cons q r, 0, d, h => ⟨_, rfl, by have e := Option.some.inj h; exact e ▸ q⟩
  | _, _, .cons q r, i + 1, d, h => RpA.get r (i := i) h
theorem RpA.getV : ∀ {vs : List V} {ds : List Dt}, RpA K G vs ds → ∀ {i : Nat} {v : V}, vs[i]? = some v → ∃ d, ds[i]? = some d ∧ Rp K G v d
  | _, _, .nil, i, d, h => by simp at h
  | _, _, .cons q r, 0, d, h => ⟨_, rfl, by have e := Option.some.inj h; exact e ▸ q⟩
  | _, _, .cons q r, i + 1, d, h => RpA.getV r (i := i) h
theorem RpA.app : ∀ {vs ws : List V} {ds es : List Dt}, RpA K G vs ds → RpA K G ws es → RpA K G (vs ++ ws) (ds ++ es)
  | _, _, _, _, .nil, r => r
  | _, _, _, _, .cons q p, r => .cons q (RpA.app p r)
theorem RpA.one {v : V} {d : Dt} (h : Rp K G v d) : RpA K G [v] [d] := .cons h .nil
theorem RpA.take : ∀ {vs : List V} {ds : List Dt} (n : Nat), RpA K G vs ds → RpA K G (vs.take n) (ds.take n)
  | _, _, 0, _ => by simp only [List.take_zero]; exact .nil
  | _, _, n + 1, .nil => by simp only [List.take_nil]; exact .nil
  | _, _, n + 1, .cons q r => by simp only [List.take_succ_cons]; exact .cons q (RpA.take n r)
theorem RpA.drop : ∀ {vs : List V} {ds : List Dt} (n : Nat), RpA K G vs ds → RpA K G (vs.drop n) (ds.drop n)
  | _, _, 0, r => by simpa only [List.drop_zero] using r
  | _, _, n + 1, .nil => by simp only [List.drop_nil]; exact .nil
  | _, _, n + 1, .cons q r => by simp only [List.drop_succ_cons]; exact RpA.drop n r
theorem RpA.rev : ∀ {vs : List V} {ds : List Dt}, RpA K G vs ds → RpA K G vs.reverse ds.reverse
  | _, _, .nil => .nil
  | _, _, .cons q r => by simp only [List.reverse_cons]; exact RpA.app (RpA.rev r) (.one q)
theorem RpA.dropLast : ∀ {vs : List V} {ds : List Dt}, RpA K G vs ds → RpA K G vs.dropLast ds.dropLast := fun r => by
  rw [List.dropLast_eq_take, List.dropLast_eq_take, r.len]
  exact r.take _
end

/-! ### the state of a body -/
/-- M: objects that may change under us; HI: what is known of them; T: tables; G0, H0: the entry -/
structure Bd where
  M : Addr → Prop
  HI : Hp → Prop
  T : List (Addr × Str)
  G0 : Hp
  H0 : Hp
  Gl : Hp
  ow : List (Addr × List Dt)
/-- the same body, another lower bound, other lists under way -/
abbrev Bd.v (B : Bd) (g : Hp) (o : List (Addr × List Dt)) : Bd := ⟨B.M, B.HI, B.T, B.G0, B.H0, g, o⟩
structure BdOk (M : Addr → Prop) (HI : Hp → Prop) : Prop where
  mem : ∀ H b, HI H → M b → ∃ xs, H b = some (.lst xs)
  stab : ∀ H H', HI H → (∀ b, M b → H' b = H b) → HI H'
theorem bdOk0 : BdOk (fun _ => False) (fun _ => True) := ⟨fun _ _ _ h => h.elim, fun _ _ _ _ => trivial⟩
structure Cln (G H : Hp) : Prop where
  sub : ∀ b o, G b = some o → H b = some o
  ntb : ∀ b ps, G b ≠ some (.tbl ps)
structure Ext (M : Addr → Prop) (H G H' G' : Hp) : Prop where
  gg : GLe G G'
  keep : ∀ b o, H b = some o → (∀ ps, o ≠ .tbl ps) → ¬ M b → H' b = some o
  live : ∀ b o, H b = some o → ∃ o', H' b = some o'
  new : ∀ b o, G' b = some o → G b = some o ∨ H b = none
theorem Ext.rf {M : Addr → Prop} (H G : Hp) : Ext M H G H G := ⟨fun _ _ h => h, fun _ _ h _ _ => h, fun _ o h => ⟨o, h⟩, fun _ _ h => .inl h⟩
theorem Ext.tr {M : Addr → Prop} {H G H1 G1 H2 G2 : Hp} (a : Ext M H G H1 G1) (b : Ext M H1 G1 H2 G2) : Ext M H G H2 G2 where
  gg := GLe.tr a.gg b.gg
  keep := fun p o h t m => b.keep p o (a.keep p o h t m) t m
  live := fun p o h => let ⟨o', h'⟩ := a.live p o h; b.live p o' h'
  new := fun p o h => by
    rcases b.new p o h with h1 | h1
    · exact a.new p o h1
    · right
      cases e : H p with
      | none => rfl
      | some u =>
        obtain ⟨u', h'⟩ := a.live p u e
        rw [h1] at h'
        cases h'
theorem Ext.wk {M : Addr → Prop} {H G H' G' : Hp} (a : Ext (fun _ => False) H G H' G') : Ext M H G H' G' := ⟨a.gg, fun b o h t _ => a.keep b o h t (fun x => x), a.live, a.new⟩

/-- a slot: unknown, data, a list of this body's own at l -/
inductive Sl where
  | un
  | dt (d : Dt)
  | own (l : Addr) (ds : List Dt)
  | ownD (l : Addr) (kvs : List (Key × Dt))
def Sl.adr : Sl → Option Addr
  | .own l _ => some l
  | .ownD l _ => some l
  | _ => none
abbrev Ev := List Sl
/-- a dict's pairs with data -/
inductive RpK (K : PySem.W.Frag) (G : Hp) : List (Key × V) → List (Key × Dt) → Prop
  | nil : RpK K G [] []
  | cons {k : Key} {v : V} {d : Dt} {vs : List (Key × V)} {ds : List (Key × Dt)} : Rp K G v d → RpK K G vs ds → RpK K G ((k, v) :: vs) ((k, d) :: ds)
theorem RpK.le {K : PySem.W.Frag} {G G' : Hp} (k : GLe G G') : ∀ {vs : List (Key × V)} {ds : List (Key × Dt)}, RpK K G vs ds → RpK K G' vs ds
  | _, _, .nil => .nil
  | _, _, .cons h r => .cons (Rp.le k h) (RpK.le k r)
def SlOk (K : PySem.W.Frag) (B : Bd) (G H : Hp) (o : Option (Option V)) : Sl → Prop
  | .un => True
  | .dt d => ∃ v, o = some (some v) ∧ Rp K G v d
  | .own l ds => o = some (some (.ref l)) ∧ G l = none ∧ B.H0 l = none ∧ ¬ B.M l ∧ ∃ xs, H l = some (.lst xs) ∧ RpA K G xs ds ∧ ds.length ≤ sizeLine
  | .ownD l ds => o = some (some (.ref l)) ∧ G l = none ∧ B.H0 l = none ∧ ¬ B.M l ∧ ∃ xs, H l = some (.dK xs) ∧ RpK K G xs ds
structure Stt (K : PySem.W.Frag) (B : Bd) (E : Ev) (σ : L2.St) (G H : Hp) : Prop where
  bok : BdOk B.M B.HI
  ext : Ext B.M B.H0 B.G0 H G
  cln : Cln G H
  tab : LamX.Tabs B.T H
  hi : B.HI H
  gm : ∀ b, B.M b → G b = none
  len : σ.length = E.length
  sl : ∀ (i : Nat) (s : Sl), E[i]? = some s → SlOk K B G H σ[i]? s
  dis : ∀ (i j : Nat) (s u : Sl) (l : Addr), E[i]? = some s → E[j]? = some u → s.adr = some l → u.adr = some l → i = j
  low : GLe B.Gl G
  gho : ∀ p ∈ B.ow, G p.1 = none ∧ B.H0 p.1 = none ∧ ¬ B.M p.1 ∧ ∃ xs, H p.1 = some (.lst xs) ∧ RpA K G xs p.2
  gdis : ∀ p ∈ B.ow, ∀ (i : Nat) (s : Sl), E[i]? = some s → s.adr ≠ some p.1
  gnd : (B.ow.map (·.1)).Nodup

section
variable {K : PySem.W.Frag} {B : Bd} {E : Ev} {σ : L2.St} {G H G' H' : Hp}
/-- a step that keeps all but M and the tables -/
theorem Stt.step (S : Stt K B E σ G H) (x : Ext B.M H G H' G') (c : Cln G' H') (t : LamX.Tabs B.T H') (hi : B.HI H') : Stt K B E σ G' H' where
  bok := S.bok
  ext := S.ext.tr x
  cln := c
  tab := t
  hi := hi
  gm := fun b m => by
    cases e : G' b with
    | none => rfl
    | some o =>
      rcases x.new b o e with h | h
      · rw [S.gm b m] at h; cases h
      · obtain ⟨xs, h'⟩ := S.bok.mem H b S.hi m
        rw [h] at h'; cases h'
  len := S.len
  sl := fun i s h => by
    have q := S.sl i s h
    have fr : ∀ l, G l = none → (∃ o, H l = some o) → G' l = none := fun l g ⟨o, ho⟩ => by
      cases e : G' l with
      | none => rfl
      | some u =>
        rcases x.new l u e with h | h
        · rw [g] at h; cases h
        · rw [ho] at h; cases h
    cases s with
    | un => trivial
    | dt d =>
      obtain ⟨v, hv, r⟩ := q
      exact ⟨v, hv, r.le x.gg⟩
    | own l ds =>
      obtain ⟨hv, g, h0, m, xs, hl, r, hz⟩ := q
      exact ⟨hv, fr l g ⟨_, hl⟩, h0, m, xs, x.keep l _ hl (fun ps e => by cases e) m, r.le x.gg, hz⟩
    | ownD l ds =>
      obtain ⟨hv, g, h0, m, xs, hl, r⟩ := q
      exact ⟨hv, fr l g ⟨_, hl⟩, h0, m, xs, x.keep l _ hl (fun ps e => by cases e) m, r.le x.gg⟩
  dis := S.dis
  low := GLe.tr S.low x.gg
  gho := fun p hp => by
    obtain ⟨g, h0, m, xs, hl, r⟩ := S.gho p hp
    refine ⟨?_, h0, m, xs, x.keep p.1 _ hl (fun ps e => by cases e) m, r.le x.gg⟩
    cases e : G' p.1 with
    | none => rfl
    | some u =>
      rcases x.new p.1 u e with h | h
      · rw [g] at h; cases h
      · rw [hl] at h; cases h
  gdis := S.gdis
  gnd := S.gnd
/-- a step that keeps all but the tables -/
theorem Stt.pure (S : Stt K B E σ G H) (x : Ext (fun _ => False) H G H' G') (c : Cln G' H') (t : LamX.Tabs B.T H') : Stt K B E σ G' H' :=
  S.step x.wk c t (S.bok.stab H H' S.hi fun b m => by
    obtain ⟨xs, h⟩ := S.bok.mem H b S.hi m
    rw [h, x.keep b _ h (fun ps e => by cases e) (fun z => z)])
/-- the heap has grown -/
structure Grow (G H G' H' : Hp) : Prop where
  gg : GLe G G'
  hh : GLe H H'
  new : ∀ b o, G' b = some o → G b = some o ∨ H b = none
  cln : Cln G' H'
theorem Grow.rf (c : Cln G H) : Grow G H G H := ⟨fun _ _ h => h, fun _ _ h => h, fun _ _ h => .inl h, c⟩
theorem Grow.ext (g : Grow G H G' H') {M : Addr → Prop} : Ext M H G H' G' := ⟨g.gg, fun b o h _ _ => g.hh b o h, fun b o h => ⟨o, g.hh b o h⟩, g.new⟩
theorem Stt.grow (S : Stt K B E σ G H) (g : Grow G H G' H') : Stt K B E σ G' H' := S.pure g.ext g.cln (S.tab.ext g.hh)
/-- one new object that is clean -/
theorem Grow.one {p : Addr} {o : HO} (c : Cln G H) (hp : H p = none) (no : ∀ ps, o ≠ .tbl ps) : Grow G H (upd G p o) (upd H p o) := by
  have gp : G p = none := by
    cases e : G p with
    | none => rfl
    | some u => rw [c.sub p u e] at hp; cases hp
  refine ⟨fun b u h => ?_, fun b u h => ?_, fun b u h => ?_, fun b u h => ?_, fun b ps h => ?_⟩
  · rw [upd_ne (ne_of_none h gp)]; exact h
  · rw [upd_ne (ne_of_none h hp)]; exact h
  · by_cases e : b = p
    · right; rw [e]; exact hp
    · left; rw [upd_ne e] at h; exact h
  · by_cases e : b = p
    · rw [e] at h ⊢; rw [upd_same] at h ⊢; exact h
    · rw [upd_ne e] at h ⊢; exact c.sub b u h
  · by_cases e : b = p
    · rw [e, upd_same] at h; exact no ps (Option.some.inj h)
    · rw [upd_ne e] at h; exact c.ntb b ps h
/-- one new object that is not (yet) clean -/
theorem Grow.dirt {p : Addr} {o : HO} (c : Cln G H) (hp : H p = none) : Grow G H G (upd H p o) := by
  refine ⟨fun b u h => h, fun b u h => ?_, fun b u h => .inl h, fun b u h => ?_, c.ntb⟩
  · rw [upd_ne (ne_of_none h hp)]; exact h
  · rw [upd_ne (ne_of_none (c.sub b u h) hp)]; exact c.sub b u h
theorem Grow.tr {G2 H2 : Hp} (a : Grow G H G' H') (b : Grow G' H' G2 H2) : Grow G H G2 H2 where
  gg := GLe.tr a.gg b.gg
  hh := GLe.tr a.hh b.hh
  new := fun p o h => by
    rcases b.new p o h with h1 | h1
    · exact a.new p o h1
    · right
      cases e : H p with
      | none => rfl
      | some u => rw [a.hh p u e] at h1; cases h1
  cln := b.cln
/-- a slot is stored -/
theorem Stt.set (S : Stt K B E σ G H) (i : Nat) {v : V} {d : Dt} (r : Rp K G v d) : Stt K B (E.set i (.dt d)) (σ.set i (some v)) G H where
  bok := S.bok
  ext := S.ext
  cln := S.cln
  tab := S.tab
  hi := S.hi
  gm := S.gm
  len := by rw [List.length_set, List.length_set, S.len]
  sl := fun j s h => by
    by_cases e : i = j
    · subst e
      have hlt : i < E.length := by
        have q := (List.getElem?_eq_some_iff.mp h).1
        rwa [List.length_set] at q
      rw [List.getElem?_set_self hlt] at h
      cases h
      exact ⟨v, by rw [List.getElem?_set_self (by rw [S.len]; exact hlt)], r⟩
    · rw [List.getElem?_set_ne e] at h ⊢
      exact S.sl j s h
  dis := fun a b s u l ha hb sa ub => by
    by_cases ea : i = a
    · subst ea
      rw [List.getElem?_set_self (by have q := (List.getElem?_eq_some_iff.mp ha).1; rwa [List.length_set] at q)] at ha
      cases ha
      cases sa
    · by_cases eb : i = b
      · subst eb
        rw [List.getElem?_set_self (by have q := (List.getElem?_eq_some_iff.mp hb).1; rwa [List.length_set] at q)] at hb
        cases hb
        cases ub
      · rw [List.getElem?_set_ne ea] at ha
        rw [List.getElem?_set_ne eb] at hb
        exact S.dis a b s u l ha hb sa ub
  low := S.low
  gho := S.gho
  gdis := fun p hp j s h => by
    by_cases e : i = j
    · subst e
      rw [List.getElem?_set_self (by have q := (List.getElem?_eq_some_iff.mp h).1; rwa [List.length_set] at q)] at h
      cases h
      exact fun z => by cases z
    · rw [List.getElem?_set_ne e] at h
      exact S.gdis p hp j s h
  gnd := S.gnd
end
end N
set_option Elab.async false
set_option linter.all false
set_option maxRecDepth 100000
set_option maxHeartbeats 1000000
/-! DB: what an expression, a test, arguments, statements are worth by data; the rules that ask nothing new of the machine. -/
namespace N
open PySem
open PySem.Spec
open PyProof.Rows
open L2

/-! ### readings by meaning -/
structure semE (X : Cx) (e : Expr) (σ : L2.St) (H : Hp) (Q : VK) : Prop where
  run : ∀ pins s, Inv X pins σ H s → wpAny (model X.prog X.w) X.A (eval e X.env) (EP X pins σ Q) X.xe s
structure semT (X : Cx) (e : Expr) (σ : L2.St) (H : Hp) (Q : Bool → Hp → Prop) : Prop where
  run : ∀ pins s, Inv X pins σ H s → wpAny (model X.prog X.w) X.A (isTrue e X.env (eval e X.env)) (TP X pins σ Q) X.xe s
structure semW (X : Cx) (e : Expr) (σ : L2.St) (H : Hp) (Q : Bool → Hp → Prop) : Prop where
  run : ∀ whole pins s, Inv X pins σ H s → wpAny (model X.prog X.w) X.A (isTrue e X.env whole) (TP X pins σ Q) X.xe s
structure semA (X : Cx) (es : List Expr) (σ : L2.St) (H : Hp) (Q : List V → Hp → Prop) : Prop where
  run : ∀ pos pins s, Inv X pins σ H s → wpAny (model X.prog X.w) X.A (spliced (backTo pos (starEach es X.env))) (AP X pins σ Q) X.xe s
structure semK (X : Cx) (ks : List Keyword) (σ : L2.St) (H : Hp) (Q : List V → Hp → Prop) : Prop where
  run : ∀ pos pins s, Inv X pins σ H s → wpAny (model X.prog X.w) X.A (evalAll ((backToKw pos (keywordEach ks X.env)).map (·.2))) (AP X pins σ Q) X.xe s
structure semS (X : Cx) (st : Stmt) (D : Ends) (σ : L2.St) (H : Hp) : Prop where
  run : ∀ pins s, Inv X pins σ H s → wpAny (model X.prog X.w) X.A (exec st X.env) (SP X pins D) X.xe s
structure semL (X : Cx) (st : List Stmt) (D : Ends) (σ : L2.St) (H : Hp) : Prop where
  run : ∀ pins s, Inv X pins σ H s → wpAny (model X.prog X.w) X.A (execs st X.env) (SP X pins D) X.xe s
structure semI (X : Cx) (tg it : Expr) (σ : L2.St) (H : Hp) (R : It → Hp → Prop) : Prop where
  run : ∀ pins s, Inv X pins σ H s → wpAny (model X.prog X.w) X.A (eval it X.env) (fun v s1 => wpAny (model X.prog X.w) X.A (pyIter v) (PIE X pins σ tg R) X.xe s1) X.xe s
structure semG (X : Cx) (tg : Expr) (v : V) (σ : L2.St) (H : Hp) (Q : L2.St → Hp → Prop) : Prop where
  run : ∀ pins s u, Inv X pins σ H s → RelV v u → wpAny (model X.prog X.w) X.A (assign tg X.env u) (fun _ s' => ∃ σ' H', Inv X pins σ' H' s' ∧ Q σ' H') X.xe s
structure semO (X : Cx) (e : Option Expr) (σ : L2.St) (H : Hp) (Q : Option Int → Hp → Prop) : Prop where
  run : ∀ pins s, Inv X pins σ H s → wpAny (model X.prog X.w) X.A (evalPart e X.env) (fun u s' => ∃ o H', Inv X pins σ H' s' ∧ IsPart u o ∧ Q o H') X.xe s
section
variable {X : Cx} {e tg it : Expr} {es : List Expr} {st : Stmt} {sts : List Stmt} {ks : List Keyword} {oe : Option Expr}
theorem qE : PE X e (semE X e) := ⟨fun pins s _ _ _ I h => h.run pins s I⟩
theorem qT : PT X e (semT X e) := ⟨fun pins s _ _ _ I h => h.run pins s I⟩
theorem qW : PW X e (semW X e) := ⟨fun whole pins s _ _ _ I h => h.run whole pins s I⟩
theorem qA : PA X es (semA X es) := ⟨fun pos pins s _ _ _ I h => h.run pos pins s I⟩
theorem qK : PK X ks (semK X ks) := ⟨fun pos pins s _ _ _ I h => h.run pos pins s I⟩
theorem qS : PS X st (semS X st) := ⟨fun pins s _ _ _ I h => h.run pins s I⟩
theorem qL : PSs X sts (semL X sts) := ⟨fun pins s _ _ _ I h => h.run pins s I⟩
theorem qI : PI X tg it (semI X tg it) := ⟨fun pins s _ _ _ I h => h.run pins s I⟩
theorem qG : PG X tg (semG X tg) := ⟨fun pins s _ _ _ u _ I r h => h.run pins s u I r⟩
theorem qO : PO X oe (semO X oe) := ⟨fun pins s _ _ _ I h => h.run pins s I⟩
theorem fE {t : TE} (h : PE X e t) {σ : L2.St} {H : Hp} {Q : VK} (q : t σ H Q) : semE X e σ H Q := ⟨fun pins s I => h.run pins s σ H Q I q⟩
theorem fT {t : TT} (h : PT X e t) {σ : L2.St} {H : Hp} {Q : Bool → Hp → Prop} (q : t σ H Q) : semT X e σ H Q := ⟨fun pins s I => h.run pins s σ H Q I q⟩
theorem fW {t : TT} (h : PW X e t) {σ : L2.St} {H : Hp} {Q : Bool → Hp → Prop} (q : t σ H Q) : semW X e σ H Q := ⟨fun wh pins s I => h.run wh pins s σ H Q I q⟩
theorem fA {t : TA} (h : PA X es t) {σ : L2.St} {H : Hp} {Q : List V → Hp → Prop} (q : t σ H Q) : semA X es σ H Q := ⟨fun pos pins s I => h.run pos pins s σ H Q I q⟩
theorem fK {t : TA} (h : PK X ks t) {σ : L2.St} {H : Hp} {Q : List V → Hp → Prop} (q : t σ H Q) : semK X ks σ H Q := ⟨fun pos pins s I => h.run pos pins s σ H Q I q⟩
theorem fS {t : TS} (h : PS X st t) {D : Ends} {σ : L2.St} {H : Hp} (q : t D σ H) : semS X st D σ H := ⟨fun pins s I => h.run pins s σ H D I q⟩
theorem fL {t : TS} (h : PSs X sts t) {D : Ends} {σ : L2.St} {H : Hp} (q : t D σ H) : semL X sts D σ H := ⟨fun pins s I => h.run pins s σ H D I q⟩
theorem fI {t : TI} (h : PI X tg it t) {σ : L2.St} {H : Hp} {R : It → Hp → Prop} (q : t σ H R) : semI X tg it σ H R := ⟨fun pins s I => h.run pins s σ H R I q⟩
theorem fG {t : TG} (h : PG X tg t) {v : V} {σ : L2.St} {H : Hp} {Q : L2.St → Hp → Prop} (q : t v σ H Q) : semG X tg v σ H Q := ⟨fun pins s u I r => h.run pins s σ H v u Q I r q⟩
theorem fO {t : TO} (h : PO X oe t) {σ : L2.St} {H : Hp} {Q : Option Int → Hp → Prop} (q : t σ H Q) : semO X oe σ H Q := ⟨fun pins s I => h.run pins s σ H Q I q⟩
end

/-! ### worth by data -/
def DW (X : Cx) (B : Bd) (E : Ev) (e : Expr) (Φ : Dt → Prop) : Prop := ∀ σ G H (Q : VK), Stt X.K B E σ G H →
  (∀ v d G' H', Stt X.K B E σ G' H' → Ext B.M H G H' G' → Rp X.K G' v d → Φ d → Q v H') → semE X e σ H Q
def DT (X : Cx) (B : Bd) (E : Ev) (e : Expr) (Φ : Bool → Prop) : Prop := ∀ σ G H (Q : Bool → Hp → Prop), Stt X.K B E σ G H →
  (∀ b G' H', Stt X.K B E σ G' H' → Ext B.M H G H' G' → Φ b → Q b H') → semT X e σ H Q
def DTw (X : Cx) (B : Bd) (E : Ev) (e : Expr) (Φ : Bool → Prop) : Prop := ∀ σ G H (Q : Bool → Hp → Prop), Stt X.K B E σ G H →
  (∀ b G' H', Stt X.K B E σ G' H' → Ext B.M H G H' G' → Φ b → Q b H') → semW X e σ H Q
def DA (X : Cx) (B : Bd) (E : Ev) (es : List Expr) (Φ : List Dt → Prop) : Prop := ∀ σ G H (Q : List V → Hp → Prop), Stt X.K B E σ G H →
  (∀ vs ds G' H', Stt X.K B E σ G' H' → Ext B.M H G H' G' → RpA X.K G' vs ds → Φ ds → Q vs H') → semA X es σ H Q
def DKw (X : Cx) (B : Bd) (E : Ev) (ks : List Keyword) (Φ : List Dt → Prop) : Prop := ∀ σ G H (Q : List V → Hp → Prop), Stt X.K B E σ G H →
  (∀ vs ds G' H', Stt X.K B E σ G' H' → Ext B.M H G H' G' → RpA X.K G' vs ds → Φ ds → Q vs H') → semK X ks σ H Q
/-- a list that is made anew -/
def DN (X : Cx) (B : Bd) (E : Ev) (e : Expr) (Φ : List Dt → Prop) : Prop := ∀ σ G H (Q : VK), Stt X.K B E σ G H →
  (∀ p xs ds G' H', Stt X.K B E σ G' H' → Ext B.M H G H' G' → H' p = none → RpA X.K G' xs ds → ds.length ≤ sizeLine → Φ ds → Q (.ref p) (upd H' p (.lst xs))) → semE X e σ H Q
/-- a slice's part -/
def DO (X : Cx) (B : Bd) (E : Ev) (e : Option Expr) (Φ : Option Int → Prop) : Prop := ∀ σ G H (Q : Option Int → Hp → Prop), Stt X.K B E σ G H →
  (∀ o G' H', Stt X.K B E σ G' H' → Ext B.M H G H' G' → Φ o → Q o H') → semO X e σ H Q
/-- the end of a body -/
structure Fin (B : Bd) (G H : Hp) : Prop where
  ext : Ext B.M B.H0 B.G0 H G
  cln : Cln G H
  tab : LamX.Tabs B.T H
  hi : B.HI H
structure Ed where
  nx : Ev → Prop
  rt : Dt → Prop
  bk : Ev → Prop := fun _ => False
  ct : Ev → Prop := fun _ => False
structure EdOk (K : PySem.W.Frag) (B : Bd) (Ψ : Ed) (D : Ends) : Prop where
  nx : ∀ E σ G H, Stt K B E σ G H → Ψ.nx E → D.nx σ H
  rt : ∀ v d G H, Fin B G H → Rp K G v d → Ψ.rt d → D.rt v H
  bk : ∀ E σ G H, Stt K B E σ G H → Ψ.bk E → D.bk σ H
  ct : ∀ E σ G H, Stt K B E σ G H → Ψ.ct E → D.ct σ H
def DS (X : Cx) (B : Bd) (E : Ev) (st : Stmt) (Ψ : Ed) : Prop := ∀ σ G H (D : Ends), Stt X.K B E σ G H → EdOk X.K B Ψ D → semS X st D σ H
def DL (X : Cx) (B : Bd) (E : Ev) (st : List Stmt) (Ψ : Ed) : Prop := ∀ σ G H (D : Ends), Stt X.K B E σ G H → EdOk X.K B Ψ D → semL X st D σ H
theorem Stt.fin {K : PySem.W.Frag} {B : Bd} {E : Ev} {σ : L2.St} {G H : Hp} (S : Stt K B E σ G H) : Fin B G H := ⟨S.ext, S.cln, S.tab, S.hi⟩

/-- by an answer -/
abbrev ifB (c : Bool) (p q : Prop) : Prop := (c = true → p) ∧ (c = false → q)
theorem ifB_t {p q : Prop} (h : p) : ifB true p q := ⟨fun _ => h, fun z => (nomatch z)⟩
theorem ifB_f {p q : Prop} (h : q) : ifB false p q := ⟨fun z => (nomatch z), fun _ => h⟩

section
variable {X : Cx} {B : Bd} {E : Ev} {Φ : Dt → Prop} {e a b c : Expr} {es : List Expr} {pos : Pos}
theorem DW.im {Φ' : Dt → Prop} (h : DW X B E e Φ') (k : ∀ d, Φ' d → Φ d) : DW X B E e Φ := fun σ G H Q S q => h σ G H Q S fun v d G' H' S' g r f => q v d G' H' S' g r (k d f)
theorem DT.im {Ψ Ψ' : Bool → Prop} (h : DT X B E e Ψ') (k : ∀ d, Ψ' d → Ψ d) : DT X B E e Ψ := fun σ G H Q S q => h σ G H Q S fun v G' H' S' g f => q v G' H' S' g (k v f)
/-! ### names, constants -/
theorem dw_var {x : Str} (i : Nat) {d : Dt} (hE : E[i]? = some (.dt d)) (q : Φ d) (hN : X.N[i]? = some x := by rfl) (hv : Vis X.env.scope x := by first | exact Or.inl rfl | exact Or.inr (Or.inl rfl) | exact Or.inr (Or.inr rfl))
    (hd : (x == ("__debug__" : Str)) = false := by decide) (hcd : (x == ("__classdict__" : Str)) = false := by decide) : DW X B E (.Name x pos) Φ := fun σ G H Q S k => by
  obtain ⟨v, hs, r⟩ := S.sl i _ hE
  exact fE (pe_var (i := i) hN hv hd hcd) ⟨v, hs, k v d G H S (Ext.rf H G) r q⟩
theorem dw_int {i : Int} {j : Nat} (q : Φ (.int i)) : DW X B E (.Constant (.int i) j pos) Φ := fun σ G H Q S k => fE pe_int (k _ _ G H S (Ext.rf H G) (.int i) q)
theorem dw_bl {i : Bool} {j : Nat} (q : Φ (.bl i)) : DW X B E (.Constant (.bool i) j pos) Φ := fun σ G H Q S k => fE pe_bl (k _ _ G H S (Ext.rf H G) (.bl i) q)
theorem dw_str {i : Str} {j : Nat} (q : Φ (.str i)) : DW X B E (.Constant (.str i) j pos) Φ := fun σ G H Q S k => fE pe_str (k _ _ G H S (Ext.rf H G) (.str i) q)
theorem dw_non {j : Nat} (q : Φ .non) : DW X B E (.Constant .none j pos) Φ := fun σ G H Q S k => fE pe_non (k _ _ G H S (Ext.rf H G) .non q)
/-- a module's value -/
theorem dw_glob {x : Str} {v : V} {u : Value} (hg : Gl X x) (hm : X.mg x = some u) (r : RelV v u) (q : Φ (.raw v)) (hd : (x == ("__debug__" : Str)) = false := by decide) : DW X B E (.Name x pos) Φ :=
  fun σ G H Q S k => fE (pe_glob hg hm r hd) (k _ _ G H S (Ext.rf H G) (.raw v) q)
theorem dw_bltn {x : Str} {v : V} {u : Value} (hg : Gl X x) (hm : X.mg x = none) (hv : bootBuiltins x = some u) (r : RelV v u) (q : Φ (.raw v)) (hn : x ≠ "__name__" := by decide) (hd : (x == ("__debug__" : Str)) = false := by decide) : DW X B E (.Name x pos) Φ :=
  fun σ G H Q S k => fE (pe_bltn hg hm hv r hn hd) (k _ _ G H S (Ext.rf H G) (.raw v) q)

/-! ### two-place operations -/
/-- k tells of the operation r by data -/
def OkR (X : Cx) (r : R2) (k : Dt → Dt → (Dt → Prop) → Prop) : Prop := ∀ (B : Bd) (E : Ev) (σ : L2.St) (G H : Hp) (x y : V) (d1 d2 : Dt) (Φ : Dt → Prop) (Q : VK), Stt X.K B E σ G H → Rp X.K G x d1 → Rp X.K G y d2 → k d1 d2 Φ →
  (∀ v d G' H', Grow G H G' H' → Rp X.K G' v d → Φ d → Q v H') → r x y H Q
theorem ok_use {r : R2} {k : Dt → Dt → (Dt → Prop) → Prop} (ok : OkR X r k) {σ : L2.St} {G H : Hp} {Q : VK} (h : DW X B E a fun d1 => DW X B E b fun d2 => k d1 d2 Φ) (S : Stt X.K B E σ G H)
    (q : ∀ v d G' H', Stt X.K B E σ G' H' → Ext B.M H G H' G' → Rp X.K G' v d → Φ d → Q v H') : tOp r (semE X a) (semE X b) σ H Q :=
  h σ G H _ S fun v d1 G1 H1 S1 g1 r1 f1 => f1 σ G1 H1 _ S1 fun u d2 G2 H2 S2 g2 r2 f2 =>
    ok B E σ G2 H2 v u d1 d2 Φ _ S2 (r1.le g2.gg) r2 f2 fun z d G3 H3 g3 rz fz => q z d G3 H3 (S2.grow g3) ((g1.tr g2).tr g3.ext) rz fz
theorem dw_bin {op : Operator} {r : R2} {k : Dt → Dt → (Dt → Prop) → Prop} (ho : OpR X (binaryOp op) r) (ok : OkR X r k) (h : DW X B E a fun d1 => DW X B E b fun d2 => k d1 d2 Φ) : DW X B E (.BinOp a op b pos) Φ :=
  fun σ G H Q S q => fE (pe_op ho qE qE) (ok_use ok h S q)
theorem dw_cmp {op : CmpOp} {r : R2} {k : Dt → Dt → (Dt → Prop) → Prop} (ho : OpR X (compareOp op) r) (ok : OkR X r k) (hm : behindInMarks op b = false) (h : DW X B E a fun d1 => DW X B E b fun d2 => k d1 d2 Φ) : DW X B E (.Compare a [op] [b] pos) Φ :=
  fun σ G H Q S q => fE (pe_cmpR ho qE qE hm) (ok_use ok h S q)
theorem dt_cmp {op : CmpOp} {r : R2} {k : Dt → Dt → (Dt → Prop) → Prop} {Ψ : Bool → Prop} (ho : OpR X (compareOp op) r) (ok : OkR X r k) (hm : behindInMarks op b = false)
    (h : DW X B E a fun d1 => DW X B E b fun d2 => k d1 d2 fun d => ∃ z, d = .bl z ∧ Ψ z) : DT X B E (.Compare a [op] [b] pos) Ψ :=
  fun σ G H Q S q => fT (pt_cmpR ho qE qE hm) (ok_use ok h S fun v d G' H' S' g r f => by
    obtain ⟨z, rfl, f⟩ := f
    cases r
    exact ⟨z, rfl, q z G' H' S' g f⟩)
theorem dw_ix {r : R2} {k : Dt → Dt → (Dt → Prop) → Prop} (ho : IxR X r) (ok : OkR X r k) (h : DW X B E a fun d1 => DW X B E b fun d2 => k d1 d2 Φ) (hs : PlainIx b := by exact fun _ _ => rfl) : DW X B E (.Subscript a b pos) Φ :=
  fun σ G H Q S q => fE (pe_ix ho qE qE hs) (ok_use ok h S q)
/-- ints in -/
abbrev iiK (g : Int → Int → Dt) : Dt → Dt → (Dt → Prop) → Prop
  | .int i, .int j, Φ => Φ (g i j)
  | _, _, _ => False
abbrev iicK (C : Int → Int → Prop) (g : Int → Int → Dt) : Dt → Dt → (Dt → Prop) → Prop
  | .int i, .int j, Φ => C i j ∧ Φ (g i j)
  | _, _, _ => False
theorem iiK_inv {g : Int → Int → Dt} {d1 d2 : Dt} {Φ : Dt → Prop} (h : iiK g d1 d2 Φ) : ∃ i j, d1 = .int i ∧ d2 = .int j ∧ Φ (g i j) := by
  unfold iiK at h
  split at h
  · exact ⟨_, _, rfl, rfl, h⟩
  · exact h.elim
theorem iicK_inv {C : Int → Int → Prop} {g : Int → Int → Dt} {d1 d2 : Dt} {Φ : Dt → Prop} (h : iicK C g d1 d2 Φ) : ∃ i j, d1 = .int i ∧ d2 = .int j ∧ C i j ∧ Φ (g i j) := by
  unfold iicK at h
  split at h
  · exact ⟨_, _, rfl, rfl, h⟩
  · exact h.elim
theorem okI0 {g : Int → Int → V} {g' : Int → Int → Dt} (r : ∀ K G i j, Rp K G (g i j) (g' i j)) : OkR X (rI0 g) (iiK g') := fun B E σ G H x y d1 d2 Φ Q S r1 r2 k q => by
  obtain ⟨i, j, rfl, rfl, f⟩ := iiK_inv k
  cases r1; cases r2
  exact ⟨i, j, rfl, rfl, q _ _ G H (Grow.rf S.cln) (r _ _ i j) f⟩
theorem okI {C : Int → Int → Prop} {g : Int → Int → V} {g' : Int → Int → Dt} (r : ∀ K G i j, Rp K G (g i j) (g' i j)) : OkR X (rI C g) (iicK C g') := fun B E σ G H x y d1 d2 Φ Q S r1 r2 k q => by
  obtain ⟨i, j, rfl, rfl, hc, f⟩ := iicK_inv k
  cases r1; cases r2
  exact ⟨i, j, rfl, rfl, hc, q _ _ G H (Grow.rf S.cln) (r _ _ i j) f⟩
theorem dw_sub (h : DW X B E a fun d1 => DW X B E b fun d2 => iiK (fun i j => .int (i - j)) d1 d2 Φ) : DW X B E (.BinOp a .Sub b pos) Φ := dw_bin op_sub (okI0 fun _ _ _ _ => .int _) h
theorem dw_addI (h : DW X B E a fun d1 => DW X B E b fun d2 => iiK (fun i j => .int (i + j)) d1 d2 Φ) : DW X B E (.BinOp a .Add b pos) Φ := dw_bin op_add (okI0 fun _ _ _ _ => .int _) h
theorem dw_mul (h : DW X B E a fun d1 => DW X B E b fun d2 => iicK CMul (fun i j => .int (i * j)) d1 d2 Φ) : DW X B E (.BinOp a .Mult b pos) Φ := dw_bin op_mul (okI fun _ _ _ _ => .int _) h
theorem dw_mod (h : DW X B E a fun d1 => DW X B E b fun d2 => iicK (fun _ j => 0 < j) (fun i j => .int (i % j)) d1 d2 Φ) : DW X B E (.BinOp a .Mod b pos) Φ := dw_bin op_mod (okI fun _ _ _ _ => .int _) h
theorem dw_fdiv (h : DW X B E a fun d1 => DW X B E b fun d2 => iicK CDiv (fun i j => .int (i / j)) d1 d2 Φ) : DW X B E (.BinOp a .FloorDiv b pos) Φ := dw_bin op_fdiv (okI fun _ _ _ _ => .int _) h
theorem dw_pow (h : DW X B E a fun d1 => DW X B E b fun d2 => iicK CPow (fun i j => .int (i ^ j.toNat)) d1 d2 Φ) : DW X B E (.BinOp a .Pow b pos) Φ := dw_bin op_pow (okI fun _ _ _ _ => .int _) h
theorem dw_lt (h : DW X B E a fun d1 => DW X B E b fun d2 => iiK (fun i j => .bl (decide (i < j))) d1 d2 Φ) : DW X B E (.Compare a [.Lt] [b] pos) Φ := dw_cmp op_lt (okI0 fun _ _ _ _ => .bl _) (nomark b) h
theorem dw_le (h : DW X B E a fun d1 => DW X B E b fun d2 => iiK (fun i j => .bl (decide (i ≤ j))) d1 d2 Φ) : DW X B E (.Compare a [.LtE] [b] pos) Φ := dw_cmp op_le (okI0 fun _ _ _ _ => .bl _) (nomark b) h
theorem dw_gt (h : DW X B E a fun d1 => DW X B E b fun d2 => iiK (fun i j => .bl (decide (j < i))) d1 d2 Φ) : DW X B E (.Compare a [.Gt] [b] pos) Φ := dw_cmp op_gt (okI0 fun _ _ _ _ => .bl _) (nomark b) h
theorem dw_ge (h : DW X B E a fun d1 => DW X B E b fun d2 => iiK (fun i j => .bl (decide (j ≤ i))) d1 d2 Φ) : DW X B E (.Compare a [.GtE] [b] pos) Φ := dw_cmp op_ge (okI0 fun _ _ _ _ => .bl _) (nomark b) h
theorem dt_lt {Ψ : Bool → Prop} (h : DW X B E a fun d1 => DW X B E b fun d2 => iiK (fun i j => .bl (decide (i < j))) d1 d2 fun d => ∃ z, d = .bl z ∧ Ψ z) : DT X B E (.Compare a [.Lt] [b] pos) Ψ := dt_cmp op_lt (okI0 fun _ _ _ _ => .bl _) (nomark b) h
theorem dt_le {Ψ : Bool → Prop} (h : DW X B E a fun d1 => DW X B E b fun d2 => iiK (fun i j => .bl (decide (i ≤ j))) d1 d2 fun d => ∃ z, d = .bl z ∧ Ψ z) : DT X B E (.Compare a [.LtE] [b] pos) Ψ := dt_cmp op_le (okI0 fun _ _ _ _ => .bl _) (nomark b) h
theorem dt_gt {Ψ : Bool → Prop} (h : DW X B E a fun d1 => DW X B E b fun d2 => iiK (fun i j => .bl (decide (j < i))) d1 d2 fun d => ∃ z, d = .bl z ∧ Ψ z) : DT X B E (.Compare a [.Gt] [b] pos) Ψ := dt_cmp op_gt (okI0 fun _ _ _ _ => .bl _) (nomark b) h
theorem dt_ge {Ψ : Bool → Prop} (h : DW X B E a fun d1 => DW X B E b fun d2 => iiK (fun i j => .bl (decide (j ≤ i))) d1 d2 fun d => ∃ z, d = .bl z ∧ Ψ z) : DT X B E (.Compare a [.GtE] [b] pos) Ψ := dt_cmp op_ge (okI0 fun _ _ _ _ => .bl _) (nomark b) h
/-- == of plain values -/
abbrev eqK (neg : Bool) : Dt → Dt → (Dt → Prop) → Prop
  | .int i, .int j, Φ => Φ (.bl (if neg then !decide (i = j) else decide (i = j)))
  | .str i, .str j, Φ => Φ (.bl (if neg then !decide (i = j) else decide (i = j)))
  | .bl i, .bl j, Φ => Φ (.bl (if neg then !decide (i = j) else decide (i = j)))
  | .int _, .non, Φ => Φ (.bl neg)
  | .non, .int _, Φ => Φ (.bl neg)
  | .non, .non, Φ => Φ (.bl !neg)
  | .non, .str _, Φ => Φ (.bl neg)
  | .str _, .non, Φ => Φ (.bl neg)
  | _, _, _ => False
theorem dec_v {α : Type} [DecidableEq α] {f : α → V} (inj : ∀ a b, f a = f b → a = b) (a b : α) : decide (f a = f b) = decide (a = b) := by
  by_cases h : a = b
  · rw [h]; simp
  · rw [decide_eq_false h, decide_eq_false fun q => h (inj a b q)]
theorem ok_eq : OkR X rEq (eqK false) := fun B E σ G H x y d1 d2 Φ Q S r1 r2 k q => by
  have go : ∀ z, Φ (.bl z) → Q (.bl z) H := fun z f => q _ _ G H (Grow.rf S.cln) (.bl z) f
  unfold eqK at k
  split at k <;> (try exact k.elim) <;> cases r1 <;> cases r2 <;> refine ⟨rfl, ?_⟩
  · rw [dec_v (f := V.int) (fun _ _ h => by injection h)]; exact go _ k
  · rw [dec_v (f := V.str) (fun _ _ h => by injection h)]; exact go _ k
  · rw [dec_v (f := V.bl) (fun _ _ h => by injection h)]; exact go _ k
  all_goals exact go _ k
theorem ok_ne : OkR X rNe (eqK true) := fun B E σ G H x y d1 d2 Φ Q S r1 r2 k q => by
  have go : ∀ z, Φ (.bl z) → Q (.bl z) H := fun z f => q _ _ G H (Grow.rf S.cln) (.bl z) f
  unfold eqK at k
  split at k <;> (try exact k.elim) <;> cases r1 <;> cases r2 <;> refine ⟨rfl, ?_⟩
  · rw [dec_v (f := V.int) (fun _ _ h => by injection h)]; exact go _ k
  · rw [dec_v (f := V.str) (fun _ _ h => by injection h)]; exact go _ k
  · rw [dec_v (f := V.bl) (fun _ _ h => by injection h)]; exact go _ k
  all_goals exact go _ k
theorem dw_eq (h : DW X B E a fun d1 => DW X B E b fun d2 => eqK false d1 d2 Φ) : DW X B E (.Compare a [.Eq] [b] pos) Φ := dw_cmp op_eq ok_eq (nomark b) h
theorem dw_ne (h : DW X B E a fun d1 => DW X B E b fun d2 => eqK true d1 d2 Φ) : DW X B E (.Compare a [.NotEq] [b] pos) Φ := dw_cmp op_ne ok_ne (nomark b) h
theorem dt_eq {Ψ : Bool → Prop} (h : DW X B E a fun d1 => DW X B E b fun d2 => eqK false d1 d2 fun d => ∃ z, d = .bl z ∧ Ψ z) : DT X B E (.Compare a [.Eq] [b] pos) Ψ := dt_cmp op_eq ok_eq (nomark b) h
theorem dt_ne {Ψ : Bool → Prop} (h : DW X B E a fun d1 => DW X B E b fun d2 => eqK true d1 d2 fun d => ∃ z, d = .bl z ∧ Ψ z) : DT X B E (.Compare a [.NotEq] [b] pos) Ψ := dt_cmp op_ne ok_ne (nomark b) h
/-- is None -/
def isN : Dt → Bool
  | .non => true
  | _ => false
def noRaw : Dt → Bool
  | .raw _ => false
  | _ => true
theorem isN_ok {K : PySem.W.Frag} {G : Hp} {v : V} {d : Dt} (r : Rp K G v d) (h : noRaw d = true) : decide (v = .non) = isN d := by
  cases r <;> first | rfl | cases h
abbrev noneK (neg : Bool) : Dt → Dt → (Dt → Prop) → Prop := fun d1 d2 Φ => d2 = .non ∧ noRaw d1 = true ∧ Φ (.bl (if neg then !isN d1 else isN d1))
theorem ok_isN : OkR X (fun x y H Q => y = .non ∧ Q (.bl (decide (x = .non))) H) (noneK false) := fun B E σ G H x y d1 d2 Φ Q S r1 r2 k q => by
  obtain ⟨rfl, h, f⟩ := k
  cases r2
  exact ⟨rfl, q _ _ G H (Grow.rf S.cln) (.bl _) (by rw [isN_ok r1 h]; exact f)⟩
theorem ok_notN : OkR X (fun x y H Q => y = .non ∧ Q (.bl (!decide (x = .non))) H) (noneK true) := fun B E σ G H x y d1 d2 Φ Q S r1 r2 k q => by
  obtain ⟨rfl, h, f⟩ := k
  cases r2
  exact ⟨rfl, q _ _ G H (Grow.rf S.cln) (.bl _) (by rw [isN_ok r1 h]; exact f)⟩
theorem dw_isN (h : DW X B E a fun d1 => DW X B E b fun d2 => noneK false d1 d2 Φ) : DW X B E (.Compare a [.Is] [b] pos) Φ := dw_cmp op_isN ok_isN (nomark b) h
theorem dw_notN (h : DW X B E a fun d1 => DW X B E b fun d2 => noneK true d1 d2 Φ) : DW X B E (.Compare a [.IsNot] [b] pos) Φ := dw_cmp op_notN ok_notN (nomark b) h
theorem dt_isN {Ψ : Bool → Prop} (h : DW X B E a fun d1 => DW X B E b fun d2 => noneK false d1 d2 fun d => ∃ z, d = .bl z ∧ Ψ z) : DT X B E (.Compare a [.Is] [b] pos) Ψ := dt_cmp op_isN ok_isN (nomark b) h
theorem dt_notN {Ψ : Bool → Prop} (h : DW X B E a fun d1 => DW X B E b fun d2 => noneK true d1 d2 fun d => ∃ z, d = .bl z ∧ Ψ z) : DT X B E (.Compare a [.IsNot] [b] pos) Ψ := dt_cmp op_notN ok_notN (nomark b) h
/-- is True, is not True -/
abbrev isTK (neg : Bool) : Dt → Dt → (Dt → Prop) → Prop
  | .bl i, .bl j, Φ => Φ (.bl (if neg then !decide (i = j) else decide (i = j)))
  | _, _, _ => False
theorem ok_isT : OkR X rIsB (isTK false) := fun B E σ G H x y d1 d2 Φ Q S r1 r2 k q => by
  unfold isTK at k
  split at k
  · cases r1; cases r2
    exact ⟨_, _, rfl, rfl, q _ _ G H (Grow.rf S.cln) (.bl _) k⟩
  · exact k.elim
theorem ok_notT : OkR X rNotB (isTK true) := fun B E σ G H x y d1 d2 Φ Q S r1 r2 k q => by
  unfold isTK at k
  split at k
  · cases r1; cases r2
    exact ⟨_, _, rfl, rfl, q _ _ G H (Grow.rf S.cln) (.bl _) k⟩
  · exact k.elim
/-! ### tests -/
theorem dt_val {Ψ : Bool → Prop} (h : DW X B E e fun d => ∃ z, d = .bl z ∧ Ψ z) (he : ∀ whole, isTrue e X.env whole = (do let v ← whole; standAt e.pos; holding [v] (truthy v)) := by intro _; rfl) : DT X B E e Ψ :=
  fun σ G H Q S q => fT (pt_val qE he) (h σ G H _ S fun v d G' H' S' g r f => by
    obtain ⟨z, rfl, f⟩ := f
    cases r
    exact ⟨z, rfl, q z G' H' S' g f⟩)
theorem dt_not {Ψ : Bool → Prop} (h : DT X B E a fun z => Ψ (!z)) : DT X B E (.UnaryOp .Not a pos) Ψ := fun σ G H Q S q => fT (pt_not qT) (h σ G H _ S fun z G' H' S' g f => q _ G' H' S' g f)
theorem dt_w {Ψ : Bool → Prop} (h : DTw X B E e Ψ) : DT X B E e Ψ := fun σ G H Q S q => fT qW.pt (h σ G H Q S q)
theorem dtw_and {Ψ : Bool → Prop} {rest : List Expr} (h : DT X B E a fun z => ifB z (DTw X B E (.BoolOp .And (b :: rest) pos) Ψ) (Ψ false)) : DTw X B E (.BoolOp .And (a :: b :: rest) pos) Ψ :=
  fun σ G H Q S q => fW (pw_and qT qW) (h σ G H _ S fun z G' H' S' g f => by
    cases z with
    | true => exact f.1 rfl σ G' H' Q S' fun b G2 H2 S2 g2 f2 => q b G2 H2 S2 (g.tr g2) f2
    | false => exact q false G' H' S' g (f.2 rfl))
theorem dtw_and1 {Ψ : Bool → Prop} (h : DT X B E a Ψ) : DTw X B E (.BoolOp .And [a] pos) Ψ := fun σ G H Q S q => fW (pw_and1 qT) (h σ G H Q S q)
theorem dtw_or {Ψ : Bool → Prop} {rest : List Expr} (h : DT X B E a fun z => ifB z (Ψ true) (DTw X B E (.BoolOp .Or (b :: rest) pos) Ψ)) : DTw X B E (.BoolOp .Or (a :: b :: rest) pos) Ψ :=
  fun σ G H Q S q => fW (pw_or qT qW) (h σ G H _ S fun z G' H' S' g f => by
    cases z with
    | false => exact f.2 rfl σ G' H' Q S' fun b G2 H2 S2 g2 f2 => q b G2 H2 S2 (g.tr g2) f2
    | true => exact q true G' H' S' g (f.1 rfl))
theorem dtw_or1 {Ψ : Bool → Prop} (h : DT X B E a Ψ) : DTw X B E (.BoolOp .Or [a] pos) Ψ := fun σ G H Q S q => fW (pw_or1 qT) (h σ G H Q S q)
/-! ### and, or, not as values; a if t else b -/
theorem dw_one {op : BoolOp} (h : DW X B E a Φ) : DW X B E (.BoolOp op [a] pos) Φ := fun σ G H Q S q => fE (pe_one qE) (h σ G H Q S q)
theorem dw_and {rest : List Expr} (h : DW X B E a fun d => ∃ z, d = .bl z ∧ ifB z (DW X B E (.BoolOp .And (b :: rest) pos) Φ) (Φ (.bl false))) : DW X B E (.BoolOp .And (a :: b :: rest) pos) Φ :=
  fun σ G H Q S q => fE (pe_and qE qE) (h σ G H _ S fun v d G' H' S' g r f => by
    obtain ⟨z, rfl, f⟩ := f
    cases r
    refine ⟨z, rfl, ?_⟩
    cases z with
    | true => exact f.1 rfl σ G' H' Q S' fun v d G2 H2 S2 g2 r2 f2 => q v d G2 H2 S2 (g.tr g2) r2 f2
    | false => exact q _ _ G' H' S' g (.bl false) (f.2 rfl))
theorem dw_or {rest : List Expr} (h : DW X B E a fun d => ∃ z, d = .bl z ∧ ifB z (Φ (.bl true)) (DW X B E (.BoolOp .Or (b :: rest) pos) Φ)) : DW X B E (.BoolOp .Or (a :: b :: rest) pos) Φ :=
  fun σ G H Q S q => fE (pe_or qE qE) (h σ G H _ S fun v d G' H' S' g r f => by
    obtain ⟨z, rfl, f⟩ := f
    cases r
    refine ⟨z, rfl, ?_⟩
    cases z with
    | false => exact f.2 rfl σ G' H' Q S' fun v d G2 H2 S2 g2 r2 f2 => q v d G2 H2 S2 (g.tr g2) r2 f2
    | true => exact q _ _ G' H' S' g (.bl true) (f.1 rfl))
theorem dw_not (h : DW X B E a fun d => ∃ z, d = .bl z ∧ Φ (.bl (!z))) : DW X B E (.UnaryOp .Not a pos) Φ :=
  fun σ G H Q S q => fE (pe_not qE) (h σ G H _ S fun v d G' H' S' g r f => by
    obtain ⟨z, rfl, f⟩ := f
    cases r
    exact ⟨z, rfl, q _ _ G' H' S' g (.bl _) f⟩)
theorem dw_if (h : DT X B E c fun z => ifB z (DW X B E a Φ) (DW X B E b Φ)) : DW X B E (.IfExp c a b pos) Φ :=
  fun σ G H Q S q => fE (pe_ifExp qT qE qE) (h σ G H _ S fun z G' H' S' g f => by
    cases z with
    | true => exact f.1 rfl σ G' H' Q S' fun v d G2 H2 S2 g2 r2 f2 => q v d G2 H2 S2 (g.tr g2) r2 f2
    | false => exact f.2 rfl σ G' H' Q S' fun v d G2 H2 S2 g2 r2 f2 => q v d G2 H2 S2 (g.tr g2) r2 f2)
/-- -n, written -/
theorem dw_neg (h : DW X B E a fun d => ∃ i, d = .int i ∧ Φ (.int (-i))) : DW X B E (.UnaryOp .USub a pos) Φ :=
  fun σ G H Q S q => fE (pe_un un_neg qE) (h σ G H _ S fun v d G' H' S' g r f => by
    obtain ⟨i, rfl, f⟩ := f
    cases r
    exact ⟨i, rfl, q _ _ G' H' S' g (.int _) f⟩)
/-- a < b < c, ints -/
theorem dw_chain {op op' : CmpOp} {r r' : R2} {k k' : Dt → Dt → (Dt → Prop) → Prop} (ho : OpR X (compareOp op) r) (ok : OkR X r k) (ho' : OpR X (compareOp op') r') (ok' : OkR X r' k')
    (h : DW X B E a fun d1 => DW X B E b fun d2 => k d1 d2 fun d => ∃ z, d = .bl z ∧ ifB z (DW X B E c fun d3 => k' d2 d3 Φ) (Φ (.bl false))) (hm : lastMarks [op, op'] [b, c] = false := by with_unfolding_all rfl) : DW X B E (.Compare a [op, op'] [b, c] pos) Φ :=
  by
  intro σ G H Q S q
  refine fE (pe_chain ho ho' qE qE qE hm) ?_
  refine h σ G H _ S ?_
  intro v d1 G1 H1 S1 g1 r1 f1
  refine f1 σ G1 H1 _ S1 ?_
  intro u d2 G2 H2 S2 g2 r2 f2
  refine ok B E σ G2 H2 v u d1 d2 _ _ S2 (r1.le g2.gg) r2 f2 ?_
  intro z d G3 H3 g3 rz fz
  obtain ⟨k0, rfl, fz⟩ := fz
  cases rz
  refine ⟨k0, rfl, ?_⟩
  cases k0 with
  | false => exact q _ _ G3 H3 (S2.grow g3) ((g1.tr g2).tr g3.ext) (.bl false) (fz.2 rfl)
  | true =>
    refine fz.1 rfl σ G3 H3 _ (S2.grow g3) ?_
    intro y d3 G4 H4 S4 g4 r4 f4
    refine ok' B E σ G4 H4 u y d2 d3 Φ _ S4 ((r2.le g3.gg).le g4.gg) r4 f4 ?_
    intro z d G5 H5 g5 rz fz
    exact q z d G5 H5 (S4.grow g5) ((((g1.tr g2).tr g3.ext).tr g4).tr g5.ext) rz fz
/-! ### arguments, displays -/
theorem da_nil {Ψ : List Dt → Prop} (q : Ψ []) : DA X B E [] Ψ := fun σ G H Q S k => fA pa_nil (k [] [] G H S (Ext.rf H G) .nil q)
theorem da_cons {Ψ : List Dt → Prop} (h : DW X B E e fun d => DA X B E es fun ds => Ψ (d :: ds)) (hs : starEach (e :: es) X.env = (false, eval e X.env) :: starEach es X.env := by rfl) : DA X B E (e :: es) Ψ :=
  fun σ G H Q S q => fA (pa_cons qE qA hs) (h σ G H _ S fun v d G1 H1 S1 g1 r1 f1 => f1 σ G1 H1 _ S1 fun vs ds G2 H2 S2 g2 r2 f2 => q _ _ G2 H2 S2 (g1.tr g2) (.cons (r1.le g2.gg) r2) f2)
theorem dw_tup {x1 : Nat} (h : DA X B E es fun ds => ds.length ≤ sizeLine ∧ Φ (.tup ds)) : DW X B E (.Tuple es x1 pos) Φ :=
  fun σ G H Q S q => fE (pe_tup qA) (h σ G H _ S fun vs ds G1 H1 S1 g1 r1 f1 => ⟨by rw [r1.len]; exact f1.1, fun p hp => by
    have g := Grow.one (G := G1) (o := .tup vs) S1.cln hp (fun ps e => by cases e)
    exact q _ _ _ _ (S1.grow g) (g1.tr g.ext) (.tup upd_same f1.1 (r1.le g.gg)) f1.2⟩)
theorem dn_lst {Ψ : List Dt → Prop} (h : DA X B E es fun ds => ds.length ≤ sizeLine ∧ Ψ ds) : DN X B E (.List es pos) Ψ :=
  fun σ G H Q S q => fE (pe_lst qA) (h σ G H _ S fun vs ds G1 H1 S1 g1 r1 f1 => ⟨by rw [r1.len]; exact f1.1, fun p hp => q p vs ds G1 H1 S1 g1 hp r1 f1.1 f1.2⟩)
/-- a new list as data -/
theorem dw_n (h : DN X B E e fun ds => Φ (.lst ds)) : DW X B E e Φ := fun σ G H Q S q => h σ G H Q S fun p xs ds G1 H1 S1 g1 hp r z f => by
  have g := Grow.one (G := G1) (o := .lst xs) S1.cln hp (fun ps e => by cases e)
  exact q _ _ _ _ (S1.grow g) (g1.tr g.ext) (.lst upd_same z (r.le g.gg)) f
end
end N
set_option Elab.async false
set_option linter.all false
set_option maxRecDepth 100000
set_option maxHeartbeats 1000000
/-! DC: statements, blocks, loops, defs and their calls, by data. -/
namespace N
open PySem
open PySem.Spec
open PyProof.Rows
open L2

section
variable {X : Cx} {B : Bd} {E : Ev} {Φ : Dt → Prop} {Ψ : Ed} {e a b c : Expr} {es : List Expr} {pos : Pos} {st : Stmt} {sts body : List Stmt}
theorem EdOk.seq {D : Ends} {u : TS} {Θ : Ev → Prop} (h : EdOk X.K B Ψ D) (hu : ∀ E σ G H, Stt X.K B E σ G H → Θ E → u D σ H) : EdOk X.K B { Ψ with nx := Θ } { D with nx := u D } := ⟨hu, h.rt, h.bk, h.ct⟩
/-! ### blocks -/
theorem dl_nil (q : Ψ.nx E) : DL X B E [] Ψ := fun σ G H D S k => fL pss_nil (k.nx E σ G H S q)
theorem dl_cons (h : DS X B E st { Ψ with nx := fun E' => DL X B E' sts Ψ }) : DL X B E (st :: sts) Ψ := fun σ G H D S k =>
  fL (pss_cons qS qL) (h σ G H _ S (EdOk.seq (u := semL X sts) k fun E' σ' G' H' S' f => f σ' G' H' D S' k))
theorem dl_one (h : DS X B E st Ψ) : DL X B E [st] Ψ := fun σ G H D S k => fL (pss_one qS) (h σ G H D S k)
theorem DL.im {Ψ' : Ed} (h : DL X B E sts Ψ') (n : ∀ E, Ψ'.nx E → Ψ.nx E) (r : ∀ d, Ψ'.rt d → Ψ.rt d) (b : ∀ E, Ψ'.bk E → Ψ.bk E) (c : ∀ E, Ψ'.ct E → Ψ.ct E) : DL X B E sts Ψ := fun σ G H D S k =>
  h σ G H D S ⟨fun E σ G H S f => k.nx E σ G H S (n E f), fun v d G H F q f => k.rt v d G H F q (r d f), fun E σ G H S f => k.bk E σ G H S (b E f), fun E σ G H S f => k.ct E σ G H S (c E f)⟩
theorem DS.im {Ψ' : Ed} (h : DS X B E st Ψ') (n : ∀ E, Ψ'.nx E → Ψ.nx E) (r : ∀ d, Ψ'.rt d → Ψ.rt d) (b : ∀ E, Ψ'.bk E → Ψ.bk E) (c : ∀ E, Ψ'.ct E → Ψ.ct E) : DS X B E st Ψ := fun σ G H D S k =>
  h σ G H D S ⟨fun E σ G H S f => k.nx E σ G H S (n E f), fun v d G H F q f => k.rt v d G H F q (r d f), fun E σ G H S f => k.bk E σ G H S (b E f), fun E σ G H S f => k.ct E σ G H S (c E f)⟩
theorem ds_ret (h : DW X B E e Ψ.rt) : DS X B E (.Return (some e) pos) Ψ := fun σ G H D S k => fS (ps_ret qE) (h σ G H _ S fun v d G' H' S' g r f => k.rt v d G' H' S'.fin r f)
theorem ds_expr (h : DW X B E e fun _ => Ψ.nx E) (hs : swapsWith e none pos.line X.env = pure false := by rfl) : DS X B E (.Expr e pos) Ψ := fun σ G H D S k =>
  fS (ps_expr qE hs) (h σ G H _ S fun v d G' H' S' g r f => k.nx E σ G' H' S' f)
theorem ds_if (h : DT X B E c fun z => ifB z (DL X B E body Ψ) (DL X B E sts Ψ)) : DS X B E (.If c body sts pos) Ψ := fun σ G H D S k =>
  fS (ps_if qT qL qL) (h σ G H _ S fun z G' H' S' g f => by
    cases z with
    | true => exact f.1 rfl σ G' H' D S' k
    | false => exact f.2 rfl σ G' H' D S' k)
/-- name = value -/
theorem ds_set {x : Str} {p' : Pos} (i : Nat) (h : DW X B E e fun d => Ψ.nx (E.set i (.dt d))) (hN : X.N.Nodup) (hi : X.N[i]? = some x := by rfl) (hx : Loc X.env.scope x := by first | exact Or.inl rfl | exact Or.inr rfl)
    (hs : swapsWith e (some (.Name x p')) pos.line X.env = pure false := by rfl) (hf : X.fn x = true ∨ X.env.scope.names.lookup x = some .local := by first | exact .inl rfl | exact .inr rfl) : DS X B E (.Assign [.Name x p'] e pos) Ψ := fun σ G H D S k =>
  fS (ps_set hN hi hx qE hs hf) (h σ G H _ S fun v d G' H' S' g r f => k.nx _ _ G' H' (S'.set i r) f)
/-- the slot's own list is data from now on -/
theorem Stt.freeze {K : PySem.W.Frag} {σ : L2.St} {G H : Hp} (S : Stt K B E σ G H) {i : Nat} {l : Addr} {ds : List Dt} (hE : E[i]? = some (.own l ds)) : ∃ G', Stt K B (E.set i (.dt (.lst ds))) σ G' H ∧ GLe G G' := by
  obtain ⟨hv, gl, h0, m, xs, hl, r, z⟩ := S.sl i _ hE
  have hlt : i < E.length := (List.getElem?_eq_some_iff.mp hE).1
  have gg : GLe G (upd G l (.lst xs)) := fun b o h => by
    rw [upd_ne (ne_of_none h gl)]; exact h
  refine ⟨upd G l (.lst xs), ⟨S.bok, ⟨GLe.tr S.ext.gg gg, S.ext.keep, S.ext.live, fun b o h => ?_⟩, ⟨fun b o h => ?_, fun b ps h => ?_⟩, S.tab, S.hi, fun b mb => ?_, by rw [List.length_set]; exact S.len, fun j s h => ?_, fun a b s u l' ha hb sa ub => ?_, GLe.tr S.low gg, fun p hp => ?_, fun p hp j s h => ?_, S.gnd⟩, gg⟩
  · by_cases e : b = l
    · right; rw [e]; exact h0
    · rw [upd_ne e] at h; exact S.ext.new b o h
  · by_cases e : b = l
    · rw [e] at h ⊢; rw [upd_same] at h; cases h; exact hl
    · rw [upd_ne e] at h; exact S.cln.sub b o h
  · by_cases e : b = l
    · rw [e, upd_same] at h; cases h
    · rw [upd_ne e] at h; exact S.cln.ntb b ps h
  · rw [upd_ne (fun e : b = l => m (by rw [← e]; exact mb))]; exact S.gm b mb
  · by_cases e : i = j
    · subst e
      rw [List.getElem?_set_self hlt] at h
      cases h
      exact ⟨_, hv, .lst upd_same z (r.le gg)⟩
    · rw [List.getElem?_set_ne e] at h
      have q := S.sl j s h
      cases s with
      | un => trivial
      | dt d => obtain ⟨v, hv, r⟩ := q; exact ⟨v, hv, r.le gg⟩
      | own l2 ds2 =>
        obtain ⟨hv, g2, h02, m2, xs2, hl2, r2, z2⟩ := q
        have ne : l2 ≠ l := fun q => e (S.dis i j _ _ l hE h rfl (by rw [q]; rfl))
        exact ⟨hv, by rw [upd_ne ne]; exact g2, h02, m2, xs2, hl2, r2.le gg, z2⟩
      | ownD l2 ds2 =>
        obtain ⟨hv, g2, h02, m2, xs2, hl2, r2⟩ := q
        have ne : l2 ≠ l := fun q => e (S.dis i j _ _ l hE h rfl (by rw [q]; rfl))
        exact ⟨hv, by rw [upd_ne ne]; exact g2, h02, m2, xs2, hl2, r2.le gg⟩
  · by_cases ea : i = a
    · subst ea
      rw [List.getElem?_set_self hlt] at ha
      cases ha; cases sa
    · by_cases eb : i = b
      · subst eb
        rw [List.getElem?_set_self hlt] at hb
        cases hb; cases ub
      · rw [List.getElem?_set_ne ea] at ha
        rw [List.getElem?_set_ne eb] at hb
        exact S.dis a b s u l' ha hb sa ub
  · obtain ⟨g2, h02, m2, xs2, hl2, r2⟩ := S.gho p hp
    have ne : p.1 ≠ l := fun q => S.gdis p hp i _ hE (by rw [q]; rfl)
    exact ⟨by rw [upd_ne ne]; exact g2, h02, m2, xs2, hl2, r2.le gg⟩
  · by_cases e : i = j
    · subst e
      rw [List.getElem?_set_self hlt] at h
      cases h
      exact fun z => by cases z
    · rw [List.getElem?_set_ne e] at h
      exact S.gdis p hp j s h
theorem dl_freeze (i : Nat) {l : Addr} {ds : List Dt} (hE : E[i]? = some (.own l ds)) (h : DL X B (E.set i (.dt (.lst ds))) sts Ψ) : DL X B E sts Ψ := fun σ G H D S k => by
  obtain ⟨G', S', _⟩ := S.freeze hE
  exact h σ G' H D S' k
theorem ds_freeze (i : Nat) {l : Addr} {ds : List Dt} (hE : E[i]? = some (.own l ds)) (h : DS X B (E.set i (.dt (.lst ds))) st Ψ) : DS X B E st Ψ := fun σ G H D S k => by
  obtain ⟨G', S', _⟩ := S.freeze hE
  exact h σ G' H D S' k
/-- a new list of this body's own -/
theorem Stt.setOwn {K : PySem.W.Frag} {σ : L2.St} {G H : Hp} (S : Stt K B E σ G H) (i : Nat) {p : Addr} {xs : List V} {ds : List Dt} (hp : H p = none) (r : RpA K G xs ds) (z : ds.length ≤ sizeLine) : Stt K B (E.set i (.own p ds)) (σ.set i (some (.ref p))) G (upd H p (.lst xs)) := by
  have g := Grow.dirt (G := G) (H := H) (o := .lst xs) S.cln hp
  have T := S.grow g
  have gp : G p = none := by
    cases e : G p with
    | none => rfl
    | some u => rw [S.cln.sub p u e] at hp; cases hp
  have h0 : B.H0 p = none := by
    cases e : B.H0 p with
    | none => rfl
    | some u =>
      obtain ⟨o', h'⟩ := S.ext.live p u e
      rw [hp] at h'; cases h'
  have mp : ¬ B.M p := fun m => by
    obtain ⟨ys, h'⟩ := S.bok.mem H p S.hi m
    rw [hp] at h'; cases h'
  have old : ∀ (j : Nat) (s : Sl), E[j]? = some s → s.adr ≠ some p := fun j s h q => by
    have w := S.sl j s h
    cases s with
    | un => cases q
    | dt d => cases q
    | own l ds => cases q; obtain ⟨_, _, _, _, ys, hl, _⟩ := w; rw [hp] at hl; cases hl
    | ownD l ds => cases q; obtain ⟨_, _, _, _, ys, hl, _⟩ := w; rw [hp] at hl; cases hl
  have og : ∀ q ∈ B.ow, q.1 ≠ p := fun q hq e => by
    obtain ⟨_, _, _, ys, hl, _⟩ := S.gho q hq
    rw [e, hp] at hl; cases hl
  refine ⟨T.bok, T.ext, T.cln, T.tab, T.hi, T.gm, by rw [List.length_set, List.length_set]; exact S.len, fun j s h => ?_, fun a b s u l' ha hb sa ub => ?_, T.low, T.gho, fun q hq j s h => ?_, T.gnd⟩
  · by_cases e : i = j
    · subst e
      have hlt : i < E.length := by have q := (List.getElem?_eq_some_iff.mp h).1; rwa [List.length_set] at q
      rw [List.getElem?_set_self hlt] at h
      cases h
      exact ⟨by rw [List.getElem?_set_self (by rw [S.len]; exact hlt)], gp, h0, mp, xs, upd_same, r, z⟩
    · rw [List.getElem?_set_ne e] at h ⊢
      exact T.sl j s h
  · by_cases ea : i = a
    · by_cases eb : i = b
      · rw [← ea, ← eb]
      · subst ea
        rw [List.getElem?_set_self (by have q := (List.getElem?_eq_some_iff.mp ha).1; rwa [List.length_set] at q)] at ha
        rw [List.getElem?_set_ne eb] at hb
        cases ha; cases sa
        exact (old b u hb ub).elim
    · rw [List.getElem?_set_ne ea] at ha
      by_cases eb : i = b
      · subst eb
        rw [List.getElem?_set_self (by have q := (List.getElem?_eq_some_iff.mp hb).1; rwa [List.length_set] at q)] at hb
        cases hb; cases ub
        exact (old a s ha sa).elim
      · rw [List.getElem?_set_ne eb] at hb
        exact S.dis a b s u l' ha hb sa ub
  · by_cases e : i = j
    · subst e
      rw [List.getElem?_set_self (by have q := (List.getElem?_eq_some_iff.mp h).1; rwa [List.length_set] at q)] at h
      cases h
      exact fun z => og q hq (Option.some.inj z).symm
    · rw [List.getElem?_set_ne e] at h
      exact T.gdis q hq j s h
theorem ds_setN {x : Str} {p' : Pos} (i : Nat) (h : DN X B E e fun ds => ∀ l, Ψ.nx (E.set i (.own l ds))) (hN : X.N.Nodup) (hi : X.N[i]? = some x := by rfl) (hx : Loc X.env.scope x := by first | exact Or.inl rfl | exact Or.inr rfl)
    (hs : swapsWith e (some (.Name x p')) pos.line X.env = pure false := by rfl) (hf : X.fn x = true ∨ X.env.scope.names.lookup x = some .local := by first | exact .inl rfl | exact .inr rfl) : DS X B E (.Assign [.Name x p'] e pos) Ψ := fun σ G H D S k =>
  fS (ps_set hN hi hx qE hs hf) (h σ G H _ S fun p xs ds G' H' S' g hp r z f => k.nx _ _ G' _ (S'.setOwn i hp r z) (f p))
/-- the own list is changed -/
theorem Stt.own {K : PySem.W.Frag} {σ : L2.St} {G H : Hp} (S : Stt K B E σ G H) {i : Nat} {l : Addr} {ds es : List Dt} {ys : List V} (hE : E[i]? = some (.own l ds)) (r : RpA K G ys es) (z : es.length ≤ sizeLine) : Stt K B (E.set i (.own l es)) σ G (upd H l (.lst ys)) := by
  obtain ⟨hv, gl, h0, m, xs, hl, _, _⟩ := S.sl i _ hE
  have hlt : i < E.length := (List.getElem?_eq_some_iff.mp hE).1
  have ntab : ∀ ps, H l ≠ some (.tbl ps) := fun ps q => by rw [hl] at q; cases q
  refine ⟨S.bok, ⟨S.ext.gg, fun b o hb t mb => ?_, fun b o hb => ?_, S.ext.new⟩, ⟨fun b o h => ?_, S.cln.ntb⟩, fun p hp => ?_, S.bok.stab H _ S.hi fun b mb => upd_ne (fun e : b = l => m (by rw [← e]; exact mb)), S.gm, by rw [List.length_set]; exact S.len, fun j s h => ?_, fun a b s u l' ha hb sa ub => ?_, S.low, fun p hp => ?_, fun p hp j s h => ?_, S.gnd⟩
  · rw [upd_ne (ne_of_none hb h0)]; exact S.ext.keep b o hb t mb
  · by_cases e : b = l
    · exact ⟨_, by rw [e]; exact upd_same⟩
    · obtain ⟨o', h'⟩ := S.ext.live b o hb
      exact ⟨o', by rw [upd_ne e]; exact h'⟩
  · rw [upd_ne (ne_of_none h gl)]; exact S.cln.sub b o h
  · obtain ⟨ps, hP, tr, hc⟩ := S.tab p hp
    refine ⟨ps, by rw [upd_ne (fun e => ntab ps (by rw [← e]; exact hP))]; exact hP, tr, fun po cv hcv => ?_⟩
    obtain ⟨c, e1, e2⟩ := hc po cv hcv
    refine ⟨c, e1, ?_⟩
    rw [upd_ne (fun e => ?_)]
    · exact e2
    · rw [e, hl] at e2; cases e2
  · by_cases e : i = j
    · subst e
      rw [List.getElem?_set_self hlt] at h
      cases h
      exact ⟨hv, gl, h0, m, ys, upd_same, r, z⟩
    · rw [List.getElem?_set_ne e] at h
      have q := S.sl j s h
      cases s with
      | un => trivial
      | dt d => exact q
      | own l2 ds2 =>
        obtain ⟨hv, g2, h02, m2, xs2, hl2, r2, z2⟩ := q
        have ne : l2 ≠ l := fun q => e (S.dis i j _ _ l hE h rfl (by rw [q]; rfl))
        exact ⟨hv, g2, h02, m2, xs2, by rw [upd_ne ne]; exact hl2, r2, z2⟩
      | ownD l2 ds2 =>
        obtain ⟨hv, g2, h02, m2, xs2, hl2, r2⟩ := q
        have ne : l2 ≠ l := fun q => e (S.dis i j _ _ l hE h rfl (by rw [q]; rfl))
        exact ⟨hv, g2, h02, m2, xs2, by rw [upd_ne ne]; exact hl2, r2⟩
  · by_cases ea : i = a
    · by_cases eb : i = b
      · rw [← ea, ← eb]
      · subst ea
        rw [List.getElem?_set_self hlt] at ha
        rw [List.getElem?_set_ne eb] at hb
        cases ha; cases sa
        exact (eb (S.dis i b _ _ l hE hb rfl ub)).elim
    · rw [List.getElem?_set_ne ea] at ha
      by_cases eb : i = b
      · subst eb
        rw [List.getElem?_set_self hlt] at hb
        cases hb; cases ub
        exact (ea (S.dis i a _ _ l hE ha rfl sa)).elim
      · rw [List.getElem?_set_ne eb] at hb
        exact S.dis a b s u l' ha hb sa ub
  · obtain ⟨g2, h02, m2, xs2, hl2, r2⟩ := S.gho p hp
    have ne : p.1 ≠ l := fun q => S.gdis p hp i _ hE (by rw [q]; rfl)
    exact ⟨g2, h02, m2, xs2, by rw [upd_ne ne]; exact hl2, r2⟩
  · by_cases e : i = j
    · subst e
      rw [List.getElem?_set_self hlt] at h
      cases h
      exact fun z => S.gdis p hp i _ hE (z : some l = some p.1)
    · rw [List.getElem?_set_ne e] at h
      exact S.gdis p hp j s h
end

section
variable {X : Cx} {B : Bd} {E : Ev} {Φ : Dt → Prop} {Ψ : Ed} {e a b c : Expr} {es : List Expr} {pos p1 p2 p3 : Pos} {st : Stmt} {sts body : List Stmt}
theorem tyL {K : PySem.W.Frag} {H : Hp} {l : Addr} {xs : List V} (h : H l = some (.lst xs)) : tyV K "list" (.ref l) H := Or.inl ⟨rfl, _, SqL.of h⟩
/-- xs.append(e), xs an own list in slot i -/
theorem ds_append {x : Str} (i : Nat) {l : Addr} {ds : List Dt} (hE : E[i]? = some (.own l ds)) (h : DW X B E e fun d => ds.length < sizeLine ∧ Ψ.nx (E.set i (.own l (ds ++ [d])))) (hN : X.N[i]? = some x := by rfl)
    (hv : Vis X.env.scope x := by first | exact Or.inl rfl | exact Or.inr (Or.inl rfl) | exact Or.inr (Or.inr rfl)) (hd : (x == ("__debug__" : Str)) = false := by decide) (hcd : (x == ("__classdict__" : Str)) = false := by decide)
    (hs : swapsWith (.Call (.Attribute (.Name x p1) "append" p2) [e] [] p3) none pos.line X.env = pure false := by rfl) (hb : attributeBase (.Name x p1) "append" X.env (eval (.Name x p1) X.env) = eval (.Name x p1) X.env := by rfl)
    (hfew : ((backTo p3 (starEach [e] X.env)).all (fun x => !x.1) && (backToKw p3 (keywordEach [] X.env)).all (fun x => x.1.isSome) && decide ([e].length + ([] : List Keyword).length + (if ([] : List Keyword).isEmpty then 0 else 1) < 30)) = true := by rfl)
    (hl : (p2.endLine == p3.line) = true := by rfl) (hst : starEach [e] X.env = (false, eval e X.env) :: starEach [] X.env := by rfl) (hp : (backTo p3 (starEach [] X.env)).any (·.1) = false := by rfl) :
    DS X B E (.Expr (.Call (.Attribute (.Name x p1) "append" p2) [e] [] p3) pos) Ψ := fun σ G H D S k => by
  refine fS (ps_expr (pe_bm PySem.F.plainAttrs_list PySem.F.slot_list_append PySem.F.type_list_append mt_append (pe_var (i := i) hN hv hd hcd) (pa_cons qE pa_nil hst) hb hfew hl hst hp) hs) ?_
  obtain ⟨hv, gl, h0, m, xs, hl, r, z⟩ := S.sl i _ hE
  refine ⟨_, hv, tyL hl, ?_⟩
  refine h σ G H _ S ?_
  intro v d G1 H1 S1 g1 r1 f1
  obtain ⟨hv1, gl1, _, _, xs1, hl1, r2, z1⟩ := S1.sl i _ hE
  refine ⟨l, xs1, v, rfl, rfl, hl1, by rw [r2.len]; exact f1.1, ?_⟩
  exact k.nx _ σ G1 _ (S1.own hE (r2.app (.one r1)) (by rw [List.length_append]; exact f1.1)) f1.2
/-- y = xs.pop(), xs an own list in slot i, y in slot j -/
theorem ds_setPop {x y : Str} {p' : Pos} (j i : Nat) {l : Addr} {ds : List Dt} {d : Dt} (hE : E[i]? = some (.own l (ds ++ [d]))) (h : Ψ.nx ((E.set i (.own l ds)).set j (.dt d))) (nd : X.N.Nodup) (hN : X.N[i]? = some x := by rfl) (hNj : X.N[j]? = some y := by rfl)
    (hv : Vis X.env.scope x := by first | exact Or.inl rfl | exact Or.inr (Or.inl rfl) | exact Or.inr (Or.inr rfl)) (hd : (x == ("__debug__" : Str)) = false := by decide) (hcd : (x == ("__classdict__" : Str)) = false := by decide)
    (hx : Loc X.env.scope y := by first | exact Or.inl rfl | exact Or.inr rfl) (hf : X.fn y = true ∨ X.env.scope.names.lookup y = some .local := by first | exact .inl rfl | exact .inr rfl)
    (hs : swapsWith (.Call (.Attribute (.Name x p1) "pop" p2) [] [] p3) (some (.Name y p')) pos.line X.env = pure false := by rfl) (hb : attributeBase (.Name x p1) "pop" X.env (eval (.Name x p1) X.env) = eval (.Name x p1) X.env := by rfl) (hl : (p2.endLine == p3.line) = true := by rfl) :
    DS X B E (.Assign [.Name y p'] (.Call (.Attribute (.Name x p1) "pop" p2) [] [] p3) pos) Ψ := fun σ G H D S k => by
  refine fS (ps_set nd hNj hx (pe_bm0 PySem.F.plainAttrs_list PySem.F.slot_list_pop PySem.F.type_list_pop mt_pop (pe_var (i := i) hN hv hd hcd) hb hl) hs hf) ?_
  obtain ⟨hv, gl, h0, m, xs, hl, r, z⟩ := S.sl i _ hE
  refine ⟨_, hv, tyL hl, ?_⟩
  have hlen : xs.length = ds.length + 1 := by rw [r.len, List.length_append]; rfl
  obtain ⟨v, hv1, rv⟩ := r.get (i := ds.length) (d := d) (by simp)
  have rd : RpA X.K G xs.dropLast ds := by
    have q := r.dropLast
    rwa [List.dropLast_concat] at q
  refine ⟨l, xs, v, rfl, rfl, hl, by rw [hlen]; exact hv1, ?_⟩
  have S1 := S.own hE rd (Nat.le_trans (by rw [List.length_append]; omega) z)
  exact k.nx _ _ G _ (S1.set j rv) h
/-- xs[i] of an own list -/
theorem dw_ownIx {x : Str} {b : Expr} (i : Nat) {l : Addr} {ds : List Dt} (hE : E[i]? = some (.own l ds)) (h : DW X B E b fun d => ∃ n z, d = .int n ∧ atI ds n = some z ∧ Φ z) (hN : X.N[i]? = some x := by rfl)
    (hv : Vis X.env.scope x := by first | exact Or.inl rfl | exact Or.inr (Or.inl rfl) | exact Or.inr (Or.inr rfl)) (hd : (x == ("__debug__" : Str)) = false := by decide) (hcd : (x == ("__classdict__" : Str)) = false := by decide) (hs : PlainIx b := by exact fun _ _ => rfl) :
    DW X B E (.Subscript (.Name x p1) b pos) Φ := fun σ G H Q S k => by
  refine fE (pe_ix ix_list (pe_var (i := i) hN hv hd hcd) qE hs) ?_
  obtain ⟨hv, _⟩ := S.sl i _ hE
  refine ⟨_, hv, ?_⟩
  refine h σ G H _ S ?_
  intro v d G1 H1 S1 g1 r1 f1
  obtain ⟨n, z, rfl, hz, f⟩ := f1
  cases r1
  obtain ⟨_, gl, _, _, xs, hl, r, _⟩ := S1.sl i _ hE
  have el : xs.length = ds.length := r.len
  unfold atI at hz
  cases en : ixN ds.length n with
  | none => rw [en] at hz; cases hz
  | some j =>
    rw [en] at hz
    obtain ⟨v, hv, rv⟩ := r.get (i := j) (d := z) hz
    refine ⟨l, xs, n, v, rfl, rfl, SqL.of hl, ?_, k v z G1 H1 S1 g1 rv f⟩
    unfold atI
    rw [el, en]
    exact hv
/-! ### while -/
theorem ds_while (hp : PassesOwn (model X.prog X.w) X.A X.env X.xe) (J : Nat → Ev → Prop) (n : Nat) (h0 : J n E) (hs : ∀ n E, J n E → DT X B E c fun z => ifB z (DL X B E body { nx := fun E' => ∃ n', n' < n ∧ J n' E', rt := Ψ.rt, bk := Ψ.nx, ct := fun E' => ∃ n', n' < n ∧ J n' E' }) (Ψ.nx E)) :
    DS X B E (.While c body [] pos) Ψ := fun σ G H D S k => by
  refine fS (ps_while hp qT qL) ?_
  refine ⟨fun m σ' H' => ∃ E' G', Stt X.K B E' σ' G' H' ∧ J m E', ⟨n, E, G, S, h0⟩, ?_⟩
  rintro m σ' H' ⟨E', G', S', j⟩
  refine hs m E' j σ' G' H' _ S' ?_
  intro z G2 H2 S2 g2 f
  cases z with
  | false => exact k.nx E' σ' G2 H2 S2 (f.2 rfl)
  | true =>
    refine ⟨fun σ3 H3 => ∃ m', m' < m ∧ ∃ E3 G3, Stt X.K B E3 σ3 G3 H3 ∧ J m' E3, fun σ3 H3 q => ?_, ?_⟩
    · obtain ⟨m', hm, E3, G3, S3, j3⟩ := q
      exact ⟨m', hm, E3, G3, S3, j3⟩
    · refine f.1 rfl σ' G2 H2 _ S2 ⟨fun E3 σ3 G3 H3 S3 f3 => ?_, fun v d G3 H3 F3 r3 f3 => k.rt v d G3 H3 F3 r3 f3, fun E3 σ3 G3 H3 S3 f3 => k.nx E3 σ3 G3 H3 S3 f3, fun E3 σ3 G3 H3 S3 f3 => ?_⟩
      · obtain ⟨m', hm, j3⟩ := f3
        exact ⟨m', hm, E3, G3, S3, j3⟩
      · obtain ⟨m', hm, j3⟩ := f3
        exact ⟨m', hm, E3, G3, S3, j3⟩
/-! ### targets -/
/-- only slots of is are stored -/
def Only' (is : List Nat) (σ σ' : L2.St) : Prop := ∀ vs : List Nat, (∀ i ∈ is, i ∈ vs) → wipe σ' vs = wipe σ vs
def DG (X : Cx) (B : Bd) (is : List Nat) (tg : Expr) (g : Dt → Ev → (Ev → Prop) → Prop) : Prop := ∀ (E : Ev) (σ : L2.St) (G H : Hp) (v : V) (d : Dt) (Θ : Ev → Prop) (Q : L2.St → Hp → Prop), Stt X.K B E σ G H → Rp X.K G v d → g d E Θ →
  (∀ E' σ', Stt X.K B E' σ' G H → Only' is σ σ' → Θ E' → Q σ' H) → semG X tg v σ H Q
theorem set_wipe {σ : L2.St} {i : Nat} {o : Option V} : ∀ {vs : List Nat}, i ∈ vs → wipe (σ.set i o) vs = wipe σ vs
  | [], h => by cases h
  | j :: vs, h => by
    show (wipe (σ.set i o) vs).set j none = (wipe σ vs).set j none
    by_cases q : i ∈ vs
    · rw [set_wipe q]
    · have e : i = j := by
        rcases List.mem_cons.mp h with h | h
        · exact h
        · exact (q h).elim
      subst e
      have key : ∀ (vs : List Nat) (σ : L2.St), i ∉ vs → (wipe (σ.set i o) vs).set i none = (wipe σ vs).set i none := by
        intro vs
        induction vs with
        | nil => intro σ _; exact List.set_set _
        | cons k vs ih =>
          intro σ hk
          have h1 : i ≠ k := fun e => hk (by rw [e]; exact List.mem_cons_self)
          have h2 : i ∉ vs := fun e => hk (List.mem_cons_of_mem _ e)
          show ((wipe (σ.set i o) vs).set k none).set i none = ((wipe σ vs).set k none).set i none
          rw [List.set_comm _ _ h1.symm, ih σ h2, List.set_comm _ _ h1]
      exact key vs σ q
abbrev gN (i : Nat) : Dt → Ev → (Ev → Prop) → Prop := fun d E Θ => Θ (E.set i (.dt d))
theorem dg_name {x : Str} (i : Nat) (hN : X.N.Nodup) (hi : X.N[i]? = some x := by rfl) (hx : Loc X.env.scope x := by first | exact Or.inl rfl | exact Or.inr rfl) (hf : X.fn x = true ∨ X.env.scope.names.lookup x = some .local := by first | exact .inl rfl | exact .inr rfl) : DG X B [i] (.Name x pos) (gN i) :=
  fun E σ G H v d Θ Q S r g k => fG (pg_name hN hi hx hf) (k _ _ (S.set i r) (fun vs h => set_wipe (h i (List.mem_singleton.mpr rfl))) g)
/-- several targets -/
structure semGs (X : Cx) (ts : List Expr) (vs : List V) (σ : L2.St) (H : Hp) (Q : L2.St → Hp → Prop) : Prop where
  run : ∀ pins s us, Inv X pins σ H s → Vals vs us →
    wpAny (model X.prog X.w) X.A (assignInOrder ((assignEach ts X.env).map (·.2)) us) (fun _ s' => ∃ σ' H', Inv X pins σ' H' s' ∧ Q σ' H') X.xe s
theorem qGs {ts : List Expr} : PGs X ts (semGs X ts) := ⟨fun pins s _ _ _ us _ I r h => h.run pins s us I r⟩
def DGs (X : Cx) (B : Bd) (is : List Nat) (ts : List Expr) (g : List Dt → Ev → (Ev → Prop) → Prop) : Prop := ∀ (E : Ev) (σ : L2.St) (G H : Hp) (vs : List V) (ds : List Dt) (Θ : Ev → Prop) (Q : L2.St → Hp → Prop), Stt X.K B E σ G H → RpA X.K G vs ds → g ds E Θ →
  (∀ E' σ', Stt X.K B E' σ' G H → Only' is σ σ' → Θ E' → Q σ' H) → semGs X ts vs σ H Q
abbrev gsNil : List Dt → Ev → (Ev → Prop) → Prop := fun ds E Θ => ds = [] ∧ Θ E
abbrev gsCons (g : Dt → Ev → (Ev → Prop) → Prop) (gs : List Dt → Ev → (Ev → Prop) → Prop) : List Dt → Ev → (Ev → Prop) → Prop
  | d :: ds, E, Θ => g d E fun E' => gs ds E' Θ
  | [], _, _ => False
theorem dgs_nil : DGs X B [] [] gsNil := fun E σ G H vs ds Θ Q S r g k => ⟨fun pins s us I rv => by
  obtain ⟨rfl, f⟩ := g
  cases r
  exact pgs_nil.run pins s σ H [] us Q I rv ⟨rfl, k E σ S (fun _ _ => rfl) f⟩⟩
theorem dgs_cons {g : Dt → Ev → (Ev → Prop) → Prop} {gs : List Dt → Ev → (Ev → Prop) → Prop} {is js : List Nat} (h : DG X B is e g) (hs : DGs X B js es gs) (hp : (assignEach (e :: es) X.env).map (·.2) = assign e X.env :: (assignEach es X.env).map (·.2) := by rfl) : DGs X B (is ++ js) (e :: es) (gsCons g gs) :=
  fun E σ G H vs ds Θ Q S r q k => ⟨fun pins s us I rv => by
    cases r with
    | nil => exact q.elim
    | cons r0 r1 =>
      exact (pgs_cons qG qGs hp).run pins s σ H _ us Q I rv ⟨_, _, rfl, h E σ G H _ _ _ _ S r0 q fun E' σ' S' o f => hs E' σ' G H _ _ Θ Q S' r1 f fun E2 σ2 S2 o2 f2 => k E2 σ2 S2 (fun vs hv => (o2 vs fun i hi => hv i (List.mem_append_right _ hi)).trans (o vs fun i hi => hv i (List.mem_append_left _ hi))) f2⟩⟩
abbrev gT (n : Nat) (gs : List Dt → Ev → (Ev → Prop) → Prop) : Dt → Ev → (Ev → Prop) → Prop
  | .tup ds, E, Θ => ds.length = n ∧ gs ds E Θ
  | _, _, _ => False
theorem dg_tup {k n : Nat} {gs : List Dt → Ev → (Ev → Prop) → Prop} {is : List Nat} (hc : X.calm = true) (h : DGs X B is es gs) (hn : (assignEach es X.env).length = n := by rfl) (hst : (assignEach es X.env).findIdx? (·.1) = none := by rfl) : DG X B is (.Tuple es k pos) (gT n gs) :=
  fun E σ G H v d Θ Q S r g q => by
    unfold gT at g
    split at g
    · cases r with
      | tup ha z r => exact fG (pg_tup hc qGs hn hst) ⟨_, _, rfl, SqT.of (S.cln.sub _ _ ha), by rw [r.len]; exact g.1, h E σ G H _ _ Θ Q S r g.2 q⟩
    · exact g.elim
/-- target = value -/
theorem ds_asg {tg : Expr} {g : Dt → Ev → (Ev → Prop) → Prop} {is : List Nat} (hg : DG X B is tg g) (h : DW X B E e fun d => g d E Ψ.nx) (hs : swapsWithSole [tg] e pos.line X.env = pure false := by rfl) (hw : swappedStores [tg] e X.env = pure none := by rfl)
    (h1 : (assignEach [tg] X.env).map (·.2) = [assign tg X.env] := by rfl) : DS X B E (.Assign [tg] e pos) Ψ := fun σ G H D S k =>
  fS (ps_asg qE qG hs hw h1) (h σ G H _ S fun v d G' H' S' g' r f => hg E σ G' H' v d Ψ.nx D.nx S' r f fun E' σ' S2 _ f2 => k.nx E' σ' G' H' S2 f2)
/-- a, b = e1, e2 at once -/
theorem ds_par {x y : Str} {px py pt : Pos} {kt k2 : Nat} {pt2 : Pos} (i j : Nat) (h : DA X B E [a, b] fun ds => ∃ d1 d2, ds = [d1, d2] ∧ Ψ.nx ((E.set i (.dt d1)).set j (.dt d2))) (hN : X.N.Nodup) (hij : i ≠ j := by decide) (hc : X.calm = true := by rfl)
    (hi : X.N[i]? = some x := by rfl) (hj : X.N[j]? = some y := by rfl) (hx : X.env.scope.names.lookup x = some .local := by rfl) (hy : X.env.scope.names.lookup y = some .local := by rfl)
    (hw : swappedStores [.Tuple [.Name x px, .Name y py] kt pt] (.Tuple [a, b] k2 pt2) X.env = pure (some [x, y]) := by rfl)
    (hs : swapsWithSole [.Tuple [.Name x px, .Name y py] kt pt] (.Tuple [a, b] k2 pt2) pos.line X.env = pure false := by rfl) :
    DS X B E (.Assign [.Tuple [.Name x px, .Name y py] kt pt] (.Tuple [a, b] k2 pt2) pos) Ψ := fun σ G H D S k =>
  fS (L2.ps_par hc hN hi hj hij hx hy qA hw hs) (h σ G H _ S fun vs ds G' H' S' g r f => by
    obtain ⟨d1, d2, rfl, f⟩ := f
    cases r with
    | cons r1 r => cases r with
      | cons r2 r => cases r; exact ⟨_, _, rfl, k.nx _ _ G' H' ((S'.set i r1).set j r2) f⟩)
theorem ds_par3 {x y z : Str} {px py pz pt : Pos} {kt k2 : Nat} {pt2 : Pos} (i j l : Nat) (h : DA X B E [a, b, c] fun ds => ∃ d1 d2 d3, ds = [d1, d2, d3] ∧ Ψ.nx (((E.set i (.dt d1)).set j (.dt d2)).set l (.dt d3))) (hN : X.N.Nodup) (hij : i ≠ j := by decide) (hil : i ≠ l := by decide) (hjl : j ≠ l := by decide) (hc : X.calm = true := by rfl)
    (hi : X.N[i]? = some x := by rfl) (hj : X.N[j]? = some y := by rfl) (hl : X.N[l]? = some z := by rfl) (hx : X.env.scope.names.lookup x = some .local := by rfl) (hy : X.env.scope.names.lookup y = some .local := by rfl) (hz : X.env.scope.names.lookup z = some .local := by rfl)
    (hw : swappedStores [.Tuple [.Name x px, .Name y py, .Name z pz] kt pt] (.Tuple [a, b, c] k2 pt2) X.env = pure (some [x, y, z]) := by rfl)
    (hs : swapsWithSole [.Tuple [.Name x px, .Name y py, .Name z pz] kt pt] (.Tuple [a, b, c] k2 pt2) pos.line X.env = pure false := by rfl) :
    DS X B E (.Assign [.Tuple [.Name x px, .Name y py, .Name z pz] kt pt] (.Tuple [a, b, c] k2 pt2) pos) Ψ := fun σ G H D S k =>
  fS (L2.ps_par3 hc hN hi hj hl hij hil hjl hx hy hz qA hw hs) (h σ G H _ S fun vs ds G' H' S' g r f => by
    obtain ⟨d1, d2, d3, rfl, f⟩ := f
    cases r with
    | cons r1 r => cases r with
      | cons r2 r => cases r with
        | cons r3 r => cases r; exact ⟨_, _, _, rfl, k.nx _ _ G' H' (((S'.set i r1).set j r2).set l r3) f⟩)
end
end N
set_option Elab.async false
set_option linter.all false
set_option maxRecDepth 100000
set_option maxHeartbeats 1000000
/-! DD: what is walked, list comprehensions, for, by data. -/
namespace N
open PySem
open PySem.Spec
open PyProof.Rows
open L2

/-- J serves the items ds -/
structure Sv (K : PySem.W.Frag) (J : It) (G0 : Hp) (ds : List Dt) : Prop where
  go : ∀ (i : Nat) (G H : Hp) (d : Dt), GLe G0 G → Cln G H → ds[i]? = some d → J.go i H ∧ ∀ x H', J.yld i H x H' → ∃ G', Grow G H G' H' ∧ Rp K G' x d
  stop : ∀ (i : Nat) (G H : Hp), GLe G0 G → Cln G H → ds.length ≤ i → J.stop i H
def DI (X : Cx) (B : Bd) (E : Ev) (tg it : Expr) (Φ : List Dt → Prop) : Prop := ∀ σ G H (R : It → Hp → Prop), Stt X.K B E σ G H →
  (∀ J G' H' ds, Stt X.K B E σ G' H' → Ext B.M H G H' G' → Sv X.K J G' ds → ds.length ≤ sizeLine → Φ ds → R J H') → semI X tg it σ H R
section
variable {K : PySem.W.Frag} {G : Hp}
theorem sv_lst {a : Addr} {xs : List V} {ds : List Dt} (h : G a = some (.lst xs)) (r : RpA K G xs ds) : Sv K (Itl K a) G ds where
  go := fun i G' H d le c hd => by
    obtain ⟨v, hv, rv⟩ := (r).get hd
    have hs : SqL K H a xs := SqL.of (c.sub _ _ (le _ _ h))
    refine ⟨⟨xs, v, hs, hv⟩, fun x H' hy => ?_⟩
    obtain ⟨rfl, q⟩ := hy
    have e := (q xs hs).symm.trans hv
    cases e
    exact ⟨G', Grow.rf c, rv.le le⟩
  stop := fun i G' H le c hl => ⟨xs, SqL.of (c.sub _ _ (le _ _ h)), by rw [r.len]; exact hl⟩
theorem sv_tup {a : Addr} {xs : List V} {ds : List Dt} (h : G a = some (.tup xs)) (r : RpA K G xs ds) : Sv K (Itt K a) G ds where
  go := fun i G' H d le c hd => by
    obtain ⟨v, hv, rv⟩ := (r).get hd
    have hs : SqT K H a xs := SqT.of (c.sub _ _ (le _ _ h))
    refine ⟨⟨xs, v, hs, hv⟩, fun x H' hy => ?_⟩
    obtain ⟨rfl, q⟩ := hy
    have e := (q xs hs).symm.trans hv
    cases e
    exact ⟨G', Grow.rf c, rv.le le⟩
  stop := fun i G' H le c hl => ⟨xs, SqT.of (c.sub _ _ (le _ _ h)), by rw [r.len]; exact hl⟩
/-- a written tuple of the module -/
theorem sv_ktup {a : Addr} {xs : List V} {ds : List Dt} (h : ∀ H, SqT K H a xs) (r : RpA K G xs ds) : Sv K (Itt K a) G ds where
  go := fun i G' H d le c hd => by
    obtain ⟨v, hv, rv⟩ := (r).get hd
    refine ⟨⟨xs, v, h H, hv⟩, fun x H' hy => ?_⟩
    obtain ⟨rfl, q⟩ := hy
    have e := (q xs (h _)).symm.trans hv
    cases e
    exact ⟨G', Grow.rf c, rv.le le⟩
  stop := fun i G' H le c hl => ⟨xs, h H, by rw [r.len]; exact hl⟩
def rngD (lo : Int) (n : Nat) : List Dt := (List.range n).map fun i : Nat => Dt.int (lo + (i : Int))
theorem rngD_get {lo : Int} {n i : Nat} {d : Dt} (h : (rngD lo n)[i]? = some d) : i < n ∧ d = .int (lo + i) := by
  unfold rngD at h
  rw [List.getElem?_map] at h
  cases e : (List.range n)[i]? with
  | none => rw [e] at h; cases h
  | some j =>
    rw [e] at h
    obtain ⟨h1, h2⟩ := List.getElem?_eq_some_iff.mp e
    rw [List.getElem_range] at h2
    rw [List.length_range] at h1
    subst h2
    exact ⟨h1, (Option.some.inj h).symm⟩
theorem rngD_len {lo : Int} {n : Nat} : (rngD lo n).length = n := by unfold rngD; rw [List.length_map, List.length_range]
theorem sv_rng {lo : Int} {n : Nat} : Sv K (Itr lo n) G (rngD lo n) where
  go := fun i G' H d le c hd => by
    obtain ⟨hi, rfl⟩ := rngD_get hd
    refine ⟨hi, fun x H' hy => ?_⟩
    obtain ⟨rfl, rfl⟩ := hy
    exact ⟨G', Grow.rf c, .int _⟩
  stop := fun i G' H le c hl => by rw [rngD_len] at hl; exact hl
theorem sv_zip2 {a b : Addr} {xs ys : List V} {ds es : List Dt} (h : G a = some (.tup xs)) (k : G b = some (.tup ys)) (r : RpA K G xs ds) (q : RpA K G ys es) : Sv K (RZ.ItzT K a b) G (List.zipWith (fun x y => .tup [x, y]) ds es) where
  go := fun i G' H d le c hd => by
    rw [List.getElem?_zipWith] at hd
    cases e1 : ds[i]? with
    | none => rw [e1] at hd; cases hd
    | some d1 =>
      cases e2 : es[i]? with
      | none => rw [e1, e2] at hd; cases hd
      | some d2 =>
        rw [e1, e2] at hd
        cases hd
        obtain ⟨v, hv, rv⟩ := r.get e1
        obtain ⟨u, hu, ru⟩ := q.get e2
        have hs : SqT K H a xs := SqT.of (c.sub _ _ (le _ _ h))
        have ks : SqT K H b ys := SqT.of (c.sub _ _ (le _ _ k))
        refine ⟨⟨xs, ys, v, u, hs, ks, hv, hu⟩, fun x H' hy => ?_⟩
        obtain ⟨T, x1, x2, rfl, nT, rfl, f1, f2⟩ := hy
        have e1 := (f1 xs hs).symm.trans hv
        have e2 := (f2 ys ks).symm.trans hu
        cases e1; cases e2
        have g := Grow.one (o := .tup [v, u]) c nT (fun ps e => by cases e)
        exact ⟨_, g, .tup upd_same (show 2 ≤ sizeLine by decide) (.cons ((rv.le le).le g.gg) (.cons ((ru.le le).le g.gg) .nil))⟩
  stop := fun i G' H le c hl => by
    rw [List.length_zipWith, ← r.len, ← q.len] at hl
    refine ⟨xs, ys, SqT.of (c.sub _ _ (le _ _ h)), SqT.of (c.sub _ _ (le _ _ k)), ?_⟩
    omega
end
section
variable {X : Cx} {B : Bd} {E : Ev} {tg it a b : Expr} {Φ : List Dt → Prop} {p pos : Pos}
theorem di_lst (h : DW X B E it fun d => ∃ ds, d = .lst ds ∧ Φ ds) : DI X B E tg it Φ := fun σ G H R S k => fI (pi_list qE) (h σ G H _ S fun v d G' H' S' x r f => by
  obtain ⟨ds, rfl, f⟩ := f
  cases r with
  | lst ha z r => exact ⟨_, rfl, ⟨_, SqL.of (S'.cln.sub _ _ ha)⟩, k _ G' H' ds S' x (sv_lst ha r) z f⟩)
theorem di_tup (h : DW X B E it fun d => ∃ ds, d = .tup ds ∧ Φ ds) : DI X B E tg it Φ := fun σ G H R S k => fI (pi_tup qE) (h σ G H _ S fun v d G' H' S' x r f => by
  obtain ⟨ds, rfl, f⟩ := f
  cases r with
  | tup ha z r => exact ⟨_, rfl, ⟨_, SqT.of (S'.cln.sub _ _ ha)⟩, k _ G' H' ds S' x (sv_tup ha r) z f⟩)
theorem di_scr (h : DW X B E it fun d => ∃ ns, d = .scr ns ∧ ns.length ≤ 1000 ∧ Φ (ns.map .int)) : DI X B E tg it Φ := fun σ G H R S k => fI (pi_list qE) (h σ G H _ S fun v d G' H' S' x r f => by
  obtain ⟨ns, rfl, hz, f⟩ := f
  cases r with
  | scr ha =>
    refine ⟨_, rfl, ⟨_, seqL_le S'.cln.sub ha⟩, k _ G' H' _ S' x ⟨fun i G2 H2 d le c hd => ?_, fun i G2 H2 le c hl => ?_⟩ (by rw [List.length_map]; exact Nat.le_trans hz (by decide)) f⟩
    · have hs := seqL_le c.sub (seqL_le le ha)
      rw [List.getElem?_map] at hd
      cases e : ns[i]? with
      | none => rw [e] at hd; cases hd
      | some n =>
        rw [e] at hd
        cases hd
        have hv : (ns.map V.int)[i]? = some (.int n) := by rw [List.getElem?_map, e]; rfl
        refine ⟨⟨_, _, hs, hv⟩, fun x H' hy => ?_⟩
        obtain ⟨rfl, q⟩ := hy
        have e := (q _ hs).symm.trans hv
        cases e
        exact ⟨G2, Grow.rf c, .int _⟩
    · rw [List.length_map] at hl
      exact ⟨_, seqL_le c.sub (seqL_le le ha), by rw [List.length_map]; exact hl⟩)
theorem di_rng1 (hm : X.mg "range" = none) (h : DA X B E [a] fun ds => ∃ j : Int, ds = [.int j] ∧ j ≤ 1000000 ∧ -1000000 ≤ j ∧ Φ (rngD 0 j.toNat)) (hg : Gl X "range" := by rfl) (hs : starEach [a] X.env = [(false, eval a X.env)] := by rfl) : DI X B E tg (.Call (.Name "range" p) [a] [] pos) Φ :=
  fun σ G H R S k => fI (pi_range1 hg hm qA hs) (h σ G H _ S fun vs ds G' H' S' x r f => by
    obtain ⟨j, rfl, h1, h2, f⟩ := f
    cases r with
    | cons r0 r => cases r0; cases r; exact ⟨j, rfl, by omega, by omega, k _ G' H' _ S' x sv_rng (by rw [rngD_len]; exact Nat.le_trans (by omega : j.toNat ≤ 1000000) (by decide)) f⟩)
theorem di_rng2 (hm : X.mg "range" = none) (h : DA X B E [a, b] fun ds => ∃ i j : Int, ds = [.int i, .int j] ∧ j ≤ 1000000 ∧ -1000000 ≤ j ∧ i ≤ 1000000 ∧ -1000000 ≤ i ∧ Φ (rngD i (j - i).toNat)) (hg : Gl X "range" := by rfl)
    (hs : starEach [a, b] X.env = [(false, eval a X.env), (false, eval b X.env)] := by rfl) (hs2 : starEach [b] X.env = [(false, eval b X.env)] := by rfl) : DI X B E tg (.Call (.Name "range" p) [a, b] [] pos) Φ :=
  fun σ G H R S k => fI (pi_range2 hg hm qA hs hs2) (h σ G H _ S fun vs ds G' H' S' x r f => by
    obtain ⟨i, j, rfl, h1, h2, h3, h4, f⟩ := f
    cases r with
    | cons r0 r => cases r with
      | cons r1 r => cases r0; cases r1; cases r; exact ⟨i, j, rfl, ⟨by omega, by omega, by omega, by omega⟩, k _ G' H' _ S' x sv_rng (by rw [rngD_len]; exact Nat.le_trans (by omega : (j - i).toNat ≤ 2000000) (by decide)) f⟩)
theorem di_zip2 {elts : List Expr} {kk : Nat} {tp : Pos} (hm : X.mg "zip" = none) (h : DA X B E [a, b] fun ds => ∃ xs ys, ds = [.tup xs, .tup ys] ∧ Φ (List.zipWith (fun x y => .tup [x, y]) xs ys)) (hg : Gl X "zip" := by rfl)
    (hs : starEach [a, b] X.env = (false, eval a X.env) :: starEach [b] X.env := by rfl) (hp : (backTo pos (starEach [b] X.env)).any (·.1) = false := by rfl) : DI X B E (.Tuple elts kk tp) (.Call (.Name "zip" p) [a, b] [] pos) Φ :=
  fun σ G H R S k => fI (RZ.pi_zipA hg hm qA hs hp) (h σ G H _ S fun vs ds G' H' S' x r f => by
    obtain ⟨xs, ys, rfl, f⟩ := f
    cases r with
    | cons r0 r => cases r with
      | cons r1 r => cases r0 with
        | tup h0 z0 r0 => cases r1 with
          | tup h1 z1 r1 =>
            cases r
            refine ⟨_, _, _, _, rfl, Or.inr ⟨SqT.of (S'.cln.sub _ _ h0), SqT.of (S'.cln.sub _ _ h1), k _ G' H' _ S' x (sv_zip2 h0 h1 r0 r1) ?_ f⟩⟩
            rw [List.length_zipWith]
            omega)
end

/-! ### a list under way -/
section
variable {K : PySem.W.Frag} {B : Bd} {E : Ev} {σ : L2.St} {G H : Hp} {D : Addr} {acc acc' : List Dt} {ys : List V} {g : Hp} {ow : List (Addr × List Dt)}
def del1 (H : Hp) (a : Addr) : Hp := fun b => if b = a then none else H b
theorem del1_ne {a b : Addr} (h : b ≠ a) : del1 H a b = H b := if_neg h
theorem del1_self {a : Addr} : del1 H a a = none := if_pos rfl
theorem upd_del1 {a : Addr} {o : HO} (h : H a = some o) : upd (del1 H a) a o = H := by
  funext b
  by_cases e : b = a
  · rw [e, upd_same, h]
  · rw [upd_ne e, del1_ne e]
theorem Stt.gpush (S : Stt K (B.v g ow) E σ G H) (hD : H D = none) : Stt K (B.v g ((D, []) :: ow)) E σ G (upd H D (.lst [])) := by
  have gr := Grow.dirt (G := G) (H := H) (o := .lst []) S.cln hD
  have T := S.grow gr
  have gp : G D = none := by
    cases e : G D with
    | none => rfl
    | some u => rw [S.cln.sub D u e] at hD; cases hD
  have h0 : B.H0 D = none := by
    cases e : B.H0 D with
    | none => rfl
    | some u =>
      obtain ⟨o', h'⟩ := S.ext.live D u e
      rw [hD] at h'; cases h'
  have mp : ¬ B.M D := fun m => by
    obtain ⟨ys, h'⟩ := S.bok.mem H D S.hi m
    rw [hD] at h'; cases h'
  refine ⟨T.bok, T.ext, T.cln, T.tab, T.hi, T.gm, T.len, T.sl, T.dis, T.low, fun p hp => ?_, fun p hp i s h => ?_, ?_⟩
  · rcases List.mem_cons.mp hp with rfl | hp
    · exact ⟨gp, h0, mp, [], upd_same, .nil⟩
    · exact T.gho p hp
  · rcases List.mem_cons.mp hp with rfl | hp
    · intro q
      have w := S.sl i s h
      cases s with
      | un => cases q
      | dt d => cases q
      | own l ds => cases q; obtain ⟨_, _, _, _, ys, hl, _⟩ := w; rw [hD] at hl; cases hl
      | ownD l ds => cases q; obtain ⟨_, _, _, _, ys, hl, _⟩ := w; rw [hD] at hl; cases hl
    · exact T.gdis p hp i s h
  · refine List.nodup_cons.mpr ⟨fun hm => ?_, T.gnd⟩
    obtain ⟨p, hp, e⟩ := List.mem_map.mp hm
    obtain ⟨_, _, _, ys, hl, _⟩ := S.gho p hp
    rw [show p.1 = D from e, hD] at hl
    cases hl
theorem Stt.gtab (S : Stt K B E σ G H) {l : Addr} {xs ys : List V} (hl : H l = some (.lst xs)) : LamX.Tabs B.T (upd H l (.lst ys)) := fun p hp => by
  obtain ⟨ps, hP, tr, hc⟩ := S.tab p hp
  refine ⟨ps, by rw [upd_ne (fun e => by rw [e, hl] at hP; cases hP)]; exact hP, tr, fun po cv hcv => ?_⟩
  obtain ⟨c, e1, e2⟩ := hc po cv hcv
  refine ⟨c, e1, ?_⟩
  rw [upd_ne (fun e => ?_)]
  · exact e2
  · rw [e, hl] at e2; cases e2
theorem Stt.gapp (S : Stt K (B.v g ((D, acc) :: ow)) E σ G H) (r : RpA K G ys acc') : Stt K (B.v g ((D, acc') :: ow)) E σ G (upd H D (.lst ys)) := by
  obtain ⟨gl, h0, m, xs, hl, _⟩ := S.gho _ List.mem_cons_self
  have nd := List.nodup_cons.mp S.gnd
  have ne : ∀ p ∈ ow, p.1 ≠ D := fun p hp e => nd.1 (List.mem_map.mpr ⟨p, hp, e⟩)
  have so : ∀ (i : Nat) (s : Sl), E[i]? = some s → s.adr ≠ some D := fun i s h => S.gdis _ List.mem_cons_self i s h
  refine ⟨S.bok, ⟨S.ext.gg, fun b o hb t mb => ?_, fun b o hb => ?_, S.ext.new⟩, ⟨fun b o h => ?_, S.cln.ntb⟩, S.gtab hl, S.bok.stab H _ S.hi fun b mb => upd_ne (fun e : b = D => m (by rw [← e]; exact mb)), S.gm, S.len, fun j s h => ?_, S.dis, S.low, fun p hp => ?_, fun p hp => ?_, S.gnd⟩
  · rw [upd_ne (ne_of_none hb h0)]; exact S.ext.keep b o hb t mb
  · by_cases e : b = D
    · exact ⟨_, by rw [e]; exact upd_same⟩
    · obtain ⟨o', h'⟩ := S.ext.live b o hb
      exact ⟨o', by rw [upd_ne e]; exact h'⟩
  · rw [upd_ne (ne_of_none h gl)]; exact S.cln.sub b o h
  · have q := S.sl j s h
    cases s with
    | un => trivial
    | dt d => exact q
    | own l2 ds2 =>
      obtain ⟨hv, g2, h02, m2, xs2, hl2, r2, z2⟩ := q
      exact ⟨hv, g2, h02, m2, xs2, by rw [upd_ne (fun e : l2 = D => so j _ h (by rw [← e]; rfl))]; exact hl2, r2, z2⟩
    | ownD l2 ds2 =>
      obtain ⟨hv, g2, h02, m2, xs2, hl2, r2⟩ := q
      exact ⟨hv, g2, h02, m2, xs2, by rw [upd_ne (fun e : l2 = D => so j _ h (by rw [← e]; rfl))]; exact hl2, r2⟩
  · rcases List.mem_cons.mp hp with rfl | hp
    · exact ⟨gl, h0, m, ys, upd_same, r⟩
    · obtain ⟨g2, h02, m2, xs2, hl2, r2⟩ := S.gho p (List.mem_cons_of_mem _ hp)
      exact ⟨g2, h02, m2, xs2, by rw [upd_ne (ne p hp)]; exact hl2, r2⟩
  · rcases List.mem_cons.mp hp with rfl | hp
    · exact so
    · exact S.gdis p (List.mem_cons_of_mem _ hp)
theorem Stt.gdel (S : Stt K (B.v g ((D, acc) :: ow)) E σ G H) : Stt K (B.v g ow) E σ G (del1 H D) := by
  obtain ⟨gl, h0, m, xs, hl, _⟩ := S.gho _ List.mem_cons_self
  have nd := List.nodup_cons.mp S.gnd
  have ne : ∀ p ∈ ow, p.1 ≠ D := fun p hp e => nd.1 (List.mem_map.mpr ⟨p, hp, e⟩)
  have so : ∀ (i : Nat) (s : Sl), E[i]? = some s → s.adr ≠ some D := fun i s h => S.gdis _ List.mem_cons_self i s h
  refine ⟨S.bok, ⟨S.ext.gg, fun b o hb t mb => ?_, fun b o hb => ?_, S.ext.new⟩, ⟨fun b o h => ?_, S.cln.ntb⟩, fun p hp => ?_, S.bok.stab H _ S.hi fun b mb => del1_ne (fun e : b = D => m (by rw [← e]; exact mb)), S.gm, S.len, fun j s h => ?_, S.dis, S.low, fun p hp => ?_, fun p hp => S.gdis p (List.mem_cons_of_mem _ hp), nd.2⟩
  · rw [del1_ne (ne_of_none hb h0)]; exact S.ext.keep b o hb t mb
  · obtain ⟨o', h'⟩ := S.ext.live b o hb
    exact ⟨o', by rw [del1_ne (ne_of_none hb h0)]; exact h'⟩
  · rw [del1_ne (ne_of_none h gl)]; exact S.cln.sub b o h
  · obtain ⟨ps, hP, tr, hc⟩ := S.tab p hp
    refine ⟨ps, by rw [del1_ne (fun e => by rw [e, hl] at hP; cases hP)]; exact hP, tr, fun po cv hcv => ?_⟩
    obtain ⟨c, e1, e2⟩ := hc po cv hcv
    refine ⟨c, e1, ?_⟩
    rw [del1_ne (fun e => ?_)]
    · exact e2
    · rw [e, hl] at e2; cases e2
  · have q := S.sl j s h
    cases s with
    | un => trivial
    | dt d => exact q
    | own l2 ds2 =>
      obtain ⟨hv, g2, h02, m2, xs2, hl2, r2, z2⟩ := q
      exact ⟨hv, g2, h02, m2, xs2, by rw [del1_ne (fun e : l2 = D => so j _ h (by rw [← e]; rfl))]; exact hl2, r2, z2⟩
    | ownD l2 ds2 =>
      obtain ⟨hv, g2, h02, m2, xs2, hl2, r2⟩ := q
      exact ⟨hv, g2, h02, m2, xs2, by rw [del1_ne (fun e : l2 = D => so j _ h (by rw [← e]; rfl))]; exact hl2, r2⟩
  · obtain ⟨g2, h02, m2, xs2, hl2, r2⟩ := S.gho p (List.mem_cons_of_mem _ hp)
    exact ⟨g2, h02, m2, xs2, by rw [del1_ne (ne p hp)]; exact hl2, r2⟩
/-- slots forgotten -/
def wipeE (E : Ev) : List Nat → Ev
  | [] => E
  | v :: vs => (wipeE E vs).set v .un
theorem Stt.forget (S : Stt K B E σ G H) (i : Nat) : Stt K B (E.set i .un) (σ.set i none) G H := by
  refine ⟨S.bok, S.ext, S.cln, S.tab, S.hi, S.gm, by rw [List.length_set, List.length_set]; exact S.len, fun j s h => ?_, fun a b s u l ha hb sa ub => ?_, S.low, S.gho, fun p hp j s h => ?_, S.gnd⟩
  · by_cases e : i = j
    · subst e
      rw [List.getElem?_set_self (by have q := (List.getElem?_eq_some_iff.mp h).1; rwa [List.length_set] at q)] at h
      cases h; trivial
    · rw [List.getElem?_set_ne e] at h ⊢
      exact S.sl j s h
  · by_cases ea : i = a
    · subst ea
      rw [List.getElem?_set_self (by have q := (List.getElem?_eq_some_iff.mp ha).1; rwa [List.length_set] at q)] at ha
      cases ha; cases sa
    · by_cases eb : i = b
      · subst eb
        rw [List.getElem?_set_self (by have q := (List.getElem?_eq_some_iff.mp hb).1; rwa [List.length_set] at q)] at hb
        cases hb; cases ub
      · rw [List.getElem?_set_ne ea] at ha
        rw [List.getElem?_set_ne eb] at hb
        exact S.dis a b s u l ha hb sa ub
  · by_cases e : i = j
    · subst e
      rw [List.getElem?_set_self (by have q := (List.getElem?_eq_some_iff.mp h).1; rwa [List.length_set] at q)] at h
      cases h
      exact fun z => by cases z
    · rw [List.getElem?_set_ne e] at h
      exact S.gdis p hp j s h
theorem Stt.wiped (S : Stt K B E σ G H) : ∀ vs : List Nat, Stt K B (wipeE E vs) (wipe σ vs) G H
  | [] => S
  | v :: vs => (Stt.wiped S vs).forget v
/-- from one heap to another, the slots as they were -/
theorem Stt.along {B' : Bd} {E' : Ev} {σ' : L2.St} {G' H' : Hp} (S : Stt K (B.v g ow) E σ G H) (S' : Stt K (B.v g ow) E' σ' G' H') (x : Ext B.M H G H' G') : Stt K (B.v g ow) E σ G' H' := S.step x S'.cln S'.tab S'.hi
end

/-! ### tests of a comprehension -/
structure semQ (X : Cx) (ifs : List Expr) (σ : L2.St) (H : Hp) (Q : Bool → Hp → Prop) : Prop where
  run : ∀ pins s, Inv X pins σ H s → wpAny (model X.prog X.w) X.A (forIn ifs true fun c r => if r = true then do let ok ← isTrue c X.env (eval c X.env); pure (ForInStep.yield ok) else pure (ForInStep.yield r)) (TP X pins σ Q) X.xe s
theorem qQ {X : Cx} {ifs : List Expr} : PTs X ifs (semQ X ifs) := ⟨fun pins s _ _ _ I h => h.run pins s I⟩
theorem fQ {X : Cx} {ifs : List Expr} {t : TT} (h : PTs X ifs t) {σ : L2.St} {H : Hp} {Q : Bool → Hp → Prop} (q : t σ H Q) : semQ X ifs σ H Q := ⟨fun pins s I => h.run pins s σ H Q I q⟩
def DQ (X : Cx) (B : Bd) (E : Ev) (ifs : List Expr) (Φ : Bool → Prop) : Prop := ∀ σ G H (Q : Bool → Hp → Prop), Stt X.K B E σ G H →
  (∀ b G' H', Stt X.K B E σ G' H' → Ext B.M H G H' G' → Φ b → Q b H') → semQ X ifs σ H Q
theorem dq_nil {X : Cx} {B : Bd} {E : Ev} {Φ : Bool → Prop} (h : Φ true) : DQ X B E [] Φ := fun σ G H Q S k => fQ pts_nil (k true G H S (Ext.rf H G) h)
theorem dq_one {X : Cx} {B : Bd} {E : Ev} {Φ : Bool → Prop} {c : Expr} (h : DT X B E c Φ) : DQ X B E [c] Φ := fun σ G H Q S k => fQ (pts_one qT) (h σ G H Q S k)
/-- the context of a comprehension's block -/
abbrev XB (X : Cx) (scope : Scope) (s : Shared) (H : Hp) (C : Addr) (cl : List (Str × Addr)) (fp : List Addr) : Cx := X.blk s H scope (compEnvC scope cl C X.env) fp
section
variable {X : Cx} {B : Bd} {E : Ev} {tg it elt : Expr} {ifs : List Expr} {scope : Scope} {pos : Pos} {Ψ : List Dt → Prop}
/-- a comprehension's worth -/
def DNl (X : Cx) (B : Bd) (E : Ev) (own : List (Str × Nat)) (tg it : Expr) (ifs : List Expr) (elt : Expr) (scope : Scope) (Ψ : List Dt → Prop) : Prop := ∀ σ G H (Q : VK), Stt X.K B E σ G H →
  (∀ p xs ds G' H', Stt X.K B E σ G' H' → Ext B.M H G H' G' → H' p = none → RpA X.K G' xs ds → ds.length ≤ sizeLine → Ψ ds → Q (.ref p) (upd H' p (.lst xs))) →
  tLc (semI X tg it) (fun v σ H Q => ∀ s0 H0 C cl fp, semG (XB X scope s0 H0 C cl fp) tg v σ H Q) (fun σ H Q => ∀ s0 H0 C cl fp, semQ (XB X scope s0 H0 C cl fp) ifs σ H Q) (fun σ H Q => ∀ s0 H0 C cl fp, semE (XB X scope s0 H0 C cl fp) elt σ H Q) (own.map (·.2)) σ H Q
theorem dn_l (own : List (Str × Nat)) (hN : X.N.Nodup) (ok : BlkOk X.N X.env.scope scope own) (h : DNl X B E own tg it ifs elt scope Ψ) (hc : X.calm = true := by rfl) (hs : ∀ x, foldedSetIterable it X.env x = pure x := by intro _; rfl) : DN X B E (.ListComp elt [⟨tg, it, ifs, 0⟩] scope pos) Ψ := fun σ G H Q S k =>
  fE (pe_lc (g := fun v σ H Q => ∀ s0 H0 C cl fp, semG (XB X scope s0 H0 C cl fp) tg v σ H Q) (tt := fun σ H Q => ∀ s0 H0 C cl fp, semQ (XB X scope s0 H0 C cl fp) ifs σ H Q)
    (te := fun σ H Q => ∀ s0 H0 C cl fp, semE (XB X scope s0 H0 C cl fp) elt σ H Q) hc hN qI ok (fun s0 H0 C cl fp => ⟨fun pins s _ _ _ u _ I r h => (h s0 H0 C cl fp).run pins s u I r⟩) (fun s0 H0 C cl fp => ⟨fun pins s _ _ _ I h => (h s0 H0 C cl fp).run pins s I⟩)
    (fun s0 H0 C cl fp => ⟨fun pins s _ _ _ I h => (h s0 H0 C cl fp).run pins s I⟩) hs) (h σ G H Q S k)
/-- name = [..], a list of this body's own -/
theorem ds_setL {y : Str} {py spos : Pos} {Ω : Ed} (i : Nat) (own : List (Str × Nat)) (hN : X.N.Nodup) (ok : BlkOk X.N X.env.scope scope own) (h : DNl X B E own tg it ifs elt scope fun ds => ∀ l, Ω.nx (E.set i (.own l ds))) (hc : X.calm = true := by rfl) (hy : X.N[i]? = some y := by rfl) (hyl : X.env.scope.names.lookup y = some .local := by rfl)
    (hsw : swapsWith (.ListComp elt [⟨tg, it, ifs, 0⟩] scope pos) (some (.Name y py)) spos.line X.env = pure true := by rfl) (hs : ∀ x, foldedSetIterable it X.env x = pure x := by intro _; rfl) : DS X B E (.Assign [.Name y py] (.ListComp elt [⟨tg, it, ifs, 0⟩] scope pos) spos) Ω := fun σ G H D S k =>
  fS (ps_setLc (g := fun v σ H Q => ∀ s0 H0 C cl fp, semG (XB X scope s0 H0 C cl fp) tg v σ H Q) (tt := fun σ H Q => ∀ s0 H0 C cl fp, semQ (XB X scope s0 H0 C cl fp) ifs σ H Q)
    (te := fun σ H Q => ∀ s0 H0 C cl fp, semE (XB X scope s0 H0 C cl fp) elt σ H Q) hc hN hy hyl hsw qI ok (fun s0 H0 C cl fp => ⟨fun pins s _ _ _ u _ I r h => (h s0 H0 C cl fp).run pins s u I r⟩) (fun s0 H0 C cl fp => ⟨fun pins s _ _ _ I h => (h s0 H0 C cl fp).run pins s I⟩)
    (fun s0 H0 C cl fp => ⟨fun pins s _ _ _ I h => (h s0 H0 C cl fp).run pins s I⟩) hs) (h σ G H _ S fun p xs ds G' H' S' x' hp r z f => k.nx _ _ G' _ (S'.setOwn i hp r z) (f p))
/-- name = [..], data -/
theorem ds_setLd {y : Str} {py spos : Pos} {Ω : Ed} (i : Nat) (own : List (Str × Nat)) (hN : X.N.Nodup) (ok : BlkOk X.N X.env.scope scope own) (h : DNl X B E own tg it ifs elt scope fun ds => Ω.nx (E.set i (.dt (.lst ds)))) (hc : X.calm = true := by rfl) (hy : X.N[i]? = some y := by rfl) (hyl : X.env.scope.names.lookup y = some .local := by rfl)
    (hsw : swapsWith (.ListComp elt [⟨tg, it, ifs, 0⟩] scope pos) (some (.Name y py)) spos.line X.env = pure true := by rfl) (hs : ∀ x, foldedSetIterable it X.env x = pure x := by intro _; rfl) : DS X B E (.Assign [.Name y py] (.ListComp elt [⟨tg, it, ifs, 0⟩] scope pos) spos) Ω := fun σ G H D S k =>
  fS (ps_setLc (g := fun v σ H Q => ∀ s0 H0 C cl fp, semG (XB X scope s0 H0 C cl fp) tg v σ H Q) (tt := fun σ H Q => ∀ s0 H0 C cl fp, semQ (XB X scope s0 H0 C cl fp) ifs σ H Q)
    (te := fun σ H Q => ∀ s0 H0 C cl fp, semE (XB X scope s0 H0 C cl fp) elt σ H Q) hc hN hy hyl hsw qI ok (fun s0 H0 C cl fp => ⟨fun pins s _ _ _ u _ I r h => (h s0 H0 C cl fp).run pins s u I r⟩) (fun s0 H0 C cl fp => ⟨fun pins s _ _ _ I h => (h s0 H0 C cl fp).run pins s I⟩)
    (fun s0 H0 C cl fp => ⟨fun pins s _ _ _ I h => (h s0 H0 C cl fp).run pins s I⟩) hs) (h σ G H _ S fun p xs ds G' H' S' x' hp r z f => by
      have g := Grow.one (G := G') (o := .lst xs) S'.cln hp (fun ps e => by cases e)
      exact k.nx _ _ _ _ ((S'.grow g).set i (.lst upd_same z (r.le g.gg))) f)
/-- [elt for tg in it if ..] -/
theorem lc_l (own : List (Str × Nat)) {is : List Nat} {g : Dt → Ev → (Ev → Prop) → Prop}
    (hg : ∀ s H C cl fp gl ow, DG (XB X scope s H C cl fp) (B.v gl ow) is tg g) (his : ∀ i ∈ is, i ∈ own.map (·.2))
    (hi : DI X B E tg it fun ds => ∃ J : Nat → List Dt → Prop, J 0 [] ∧ (∀ gl ow i d acc, ds[i]? = some d → J i acc → g d (wipeE E (own.map (·.2))) fun E2 =>
      ∀ s H C cl fp, DQ (XB X scope s H C cl fp) (B.v gl ow) E2 ifs fun z => ifB z (∀ s H C cl fp, DW (XB X scope s H C cl fp) (B.v gl ow) E2 elt fun y => J (i + 1) (acc ++ [y])) (J (i + 1) acc)) ∧ (∀ acc, J ds.length acc → Ψ acc)) : DNl X B E own tg it ifs elt scope Ψ := by
  intro σ G H Q S k
  refine hi σ G H _ S ?_
  rintro J G1 H1 ds S1 x1 sv hz ⟨Jv, j0, turn, fin⟩ D hD
  have S1' : Stt X.K (B.v B.Gl B.ow) E σ G1 H1 := S1
  have xD : ∀ {H2 G2 : Hp} {o : HO}, Ext B.M H1 G1 H2 G2 → Ext B.M H1 G1 (upd H2 D o) G2 := fun {H2 G2 o} x => ⟨x.gg, fun b u hb t m => by rw [upd_ne (ne_of_none hb hD)]; exact x.keep b u hb t m, fun b u hb => by
    obtain ⟨o', h'⟩ := x.live b u hb
    exact ⟨o', by rw [upd_ne (ne_of_none hb hD)]; exact h'⟩, x.new⟩
  refine ⟨fun i m H' => ∃ acc G', Stt X.K (B.v B.Gl ((D, acc) :: B.ow)) E σ G' H' ∧ Ext B.M H1 G1 H' G' ∧ i ≤ ds.length ∧ m = ds.length - i ∧ acc.length ≤ i ∧ Jv i acc, ⟨_, [], G1, S1'.gpush hD, xD (Ext.rf H1 G1), Nat.zero_le _, rfl, Nat.le_refl _, j0⟩, ?_⟩
  rintro i m H' ⟨acc, G', S', x', hle, rfl, hal, jv⟩
  by_cases hlt : i < ds.length
  · right
    have hd : ds[i]? = some ds[i] := List.getElem?_eq_getElem hlt
    obtain ⟨go, yl⟩ := sv.go i G' H' _ x'.gg S'.cln hd
    refine ⟨go, fun H2 => ∃ acc G2, Stt X.K (B.v B.Gl ((D, acc) :: B.ow)) E σ G2 H2 ∧ Ext B.M H1 G1 H2 G2 ∧ acc.length ≤ i + 1 ∧ Jv (i + 1) acc, fun H2 q => ?_, ?_⟩
    · obtain ⟨acc2, G2, S2, x2, l2, j2⟩ := q
      exact ⟨ds.length - (i + 1), by omega, acc2, G2, S2, x2, by omega, rfl, l2, j2⟩
    intro x H2 hy s0 H0 C cl fp
    obtain ⟨G2, gr, rx⟩ := yl x H2 hy
    have S2 := S'.grow gr
    refine hg s0 H0 C cl fp B.Gl ((D, acc) :: B.ow) (wipeE E (own.map (·.2))) _ G2 H2 x _ _ _ (S2.wiped _) rx (turn B.Gl ((D, acc) :: B.ow) i _ acc hd jv) ?_
    intro E2 σ2 S3 on th
    refine ⟨?_, ?_⟩
    · rw [on _ his]
      have ww : ∀ (vs us : List Nat), (∀ v ∈ vs, v ∈ us) → wipe (wipe σ us) vs = wipe σ us := by
        intro vs us h
        induction vs with
        | nil => rfl
        | cons v vs ih =>
          show (wipe (wipe σ us) vs).set v none = wipe σ us
          rw [ih fun u hu => h u (List.mem_cons_of_mem _ hu)]
          have mem := h v List.mem_cons_self
          clear ih h
          induction us with
          | nil => cases mem
          | cons u us ih =>
            show ((wipe σ us).set u none).set v none = (wipe σ us).set u none
            by_cases e : v = u
            · rw [e, List.set_set]
            · rw [List.set_comm _ _ (fun q => e q.symm), ih (by rcases List.mem_cons.mp mem with h | h; exact (e h).elim; exact h)]
      exact ww _ _ fun _ h => h
    intro s1 H01 C1 cl1 fp1
    refine th s1 H01 C1 cl1 fp1 σ2 G2 H2 _ S3 ?_
    intro z G4 H4 S4 x4 f
    have S4E : Stt X.K (B.v B.Gl ((D, acc) :: B.ow)) E σ G4 H4 := S2.step x4 S4.cln S4.tab S4.hi
    have x14 : Ext B.M H1 G1 H4 G4 := (x'.tr gr.ext).tr x4
    cases z with
    | false => exact ⟨acc, G4, S4E, x14, by omega, f.2 rfl⟩
    | true =>
      show ∀ s0 H0 C cl fp, semE (XB X scope s0 H0 C cl fp) elt σ2 H4 _
      intro s5 H05 C5 cl5 fp5
      refine f.1 rfl s5 H05 C5 cl5 fp5 σ2 G4 H4 _ S4 ?_
      intro y dy G5 H5 S5 x5 ry jn
      have S5E : Stt X.K (B.v B.Gl ((D, acc) :: B.ow)) E σ G5 H5 := S4E.step x5 S5.cln S5.tab S5.hi
      obtain ⟨_, _, _, xs, hxs, rxs⟩ := S5E.gho _ List.mem_cons_self
      refine ⟨xs, hxs, ?_, acc ++ [dy], G5, S5E.gapp (rxs.app (.one ry)), xD (x14.tr x5), ?_, jn⟩
      · rw [rxs.len]
        exact Nat.lt_of_le_of_lt hal (Nat.lt_of_lt_of_le hlt hz)
      · rw [List.length_append]
        simp only [List.length_cons, List.length_nil]
        omega
  · left
    have e : i = ds.length := Nat.le_antisymm hle (Nat.not_lt.mp hlt)
    refine ⟨sv.stop i G' H' x'.gg S'.cln (Nat.not_lt.mp hlt), ?_⟩
    obtain ⟨gD, h0D, mD, xs, hxs, rxs⟩ := S'.gho _ List.mem_cons_self
    have q := k D xs acc G' (del1 H' D) (Stt.gdel (B := B) S') ?_ del1_self rxs (Nat.le_trans hal (Nat.le_trans hle hz)) (fin acc (e ▸ jv))
    · rw [upd_del1 hxs] at q
      exact q
    · have hDn : H D = none := by
        cases eD : H D with
        | none => rfl
        | some u =>
          obtain ⟨o', h'⟩ := x1.live D u eD
          rw [hD] at h'; cases h'
      have xx := x1.tr x'
      exact ⟨xx.gg, fun b u hb t m => by rw [del1_ne (ne_of_none hb hDn)]; exact xx.keep b u hb t m, fun b u hb => by
        obtain ⟨o', h'⟩ := xx.live b u hb
        exact ⟨o', by rw [del1_ne (ne_of_none hb hDn)]; exact h'⟩, xx.new⟩
theorem dn_lc (own : List (Str × Nat)) {is : List Nat} {g : Dt → Ev → (Ev → Prop) → Prop} (hN : X.N.Nodup) (ok : BlkOk X.N X.env.scope scope own)
    (hg : ∀ s H C cl fp gl ow, DG (XB X scope s H C cl fp) (B.v gl ow) is tg g) (his : ∀ i ∈ is, i ∈ own.map (·.2))
    (hi : DI X B E tg it fun ds => ∃ J : Nat → List Dt → Prop, J 0 [] ∧ (∀ gl ow i d acc, ds[i]? = some d → J i acc → g d (wipeE E (own.map (·.2))) fun E2 =>
      ∀ s H C cl fp, DQ (XB X scope s H C cl fp) (B.v gl ow) E2 ifs fun z => ifB z (∀ s H C cl fp, DW (XB X scope s H C cl fp) (B.v gl ow) E2 elt fun y => J (i + 1) (acc ++ [y])) (J (i + 1) acc)) ∧ (∀ acc, J ds.length acc → Ψ acc))
    (hc : X.calm = true := by rfl) (hs : ∀ x, foldedSetIterable it X.env x = pure x := by intro _; rfl) : DN X B E (.ListComp elt [⟨tg, it, ifs, 0⟩] scope pos) Ψ := dn_l own hN ok (lc_l own hg his hi) hc hs
end
section
variable {X : Cx} {B : Bd} {E : Ev} {tg it : Expr} {body : List Stmt} {pos : Pos} {Ψ : Ed}
/-- for tg in it: body -/
theorem ds_for {is : List Nat} {g : Dt → Ev → (Ev → Prop) → Prop} (hp : PassesOwn (model X.prog X.w) X.A X.env X.xe) (hg : ∀ gl ow, DG X (B.v gl ow) is tg g)
    (hi : DI X B E tg it fun ds => ∃ J : Nat → Ev → Prop, J 0 E ∧ (∀ gl i d E', ds[i]? = some d → J i E' → g d E' fun E2 => DL X (B.v gl B.ow) E2 body { nx := J (i + 1), rt := Ψ.rt, bk := Ψ.nx, ct := J (i + 1) }) ∧ (∀ E', J ds.length E' → Ψ.nx E'))
    (hc : X.calm = true := by rfl) (hs : ∀ x, foldedSetIterable it X.env x = pure x := by intro _; rfl) : DS X B E (.For tg it body [] pos) Ψ := by
  intro σ G H D S k
  refine fS (L2.ps_for hp hc qI qG qL hs) ?_
  refine hi σ G H _ S ?_
  rintro J G1 H1 ds S1 x1 sv hz ⟨Jv, j0, turn, fin⟩
  have lift : ∀ {E : Ev} {σ : L2.St} {G2 H2 : Hp}, Stt X.K B E σ G2 H2 → GLe G1 G2 → Stt X.K (B.v G1 B.ow) E σ G2 H2 := fun {E σ G2 H2} S l => ⟨S.bok, S.ext, S.cln, S.tab, S.hi, S.gm, S.len, S.sl, S.dis, l, S.gho, S.gdis, S.gnd⟩
  have drop : ∀ {E : Ev} {σ : L2.St} {G2 H2 : Hp}, Stt X.K (B.v G1 B.ow) E σ G2 H2 → Stt X.K B E σ G2 H2 := fun {E σ G2 H2} S => ⟨S.bok, S.ext, S.cln, S.tab, S.hi, S.gm, S.len, S.sl, S.dis, GLe.tr S1.low S.low, S.gho, S.gdis, S.gnd⟩
  refine ⟨fun i m σ' H' => ∃ E' G', Stt X.K (B.v G1 B.ow) E' σ' G' H' ∧ i ≤ ds.length ∧ m = ds.length - i ∧ Jv i E', ⟨_, E, G1, lift S1 (GLe.rfl' G1), Nat.zero_le _, rfl, j0⟩, ?_⟩
  rintro i m σ' H' ⟨E', G', S', hle, rfl, jv⟩
  by_cases hlt : i < ds.length
  · right
    have hd : ds[i]? = some ds[i] := List.getElem?_eq_getElem hlt
    obtain ⟨go, yl⟩ := sv.go i G' H' _ S'.low S'.cln hd
    refine ⟨go, fun σ2 H2 => ∃ E2 G2, Stt X.K (B.v G1 B.ow) E2 σ2 G2 H2 ∧ Jv (i + 1) E2, fun σ2 H2 q => ?_, ?_⟩
    · obtain ⟨E2, G2, S2, j2⟩ := q
      exact ⟨ds.length - (i + 1), by omega, E2, G2, S2, by omega, rfl, j2⟩
    intro x H2 hy
    obtain ⟨G2, gr, rx⟩ := yl x H2 hy
    refine hg G1 B.ow E' σ' G2 H2 x _ _ _ (S'.grow gr) rx (turn G1 i _ E' hd jv) ?_
    intro E3 σ3 S3 _ f
    exact f σ3 G2 H2 _ S3 ⟨fun E4 σ4 G4 H4 S4 j4 => ⟨E4, G4, S4, j4⟩, fun v d G4 H4 F r q => k.rt v d G4 H4 ⟨F.ext, F.cln, F.tab, F.hi⟩ r q, fun E4 σ4 G4 H4 S4 q => k.nx E4 σ4 G4 H4 (drop S4) q, fun E4 σ4 G4 H4 S4 j4 => ⟨E4, G4, S4, j4⟩⟩
  · left
    have e : i = ds.length := Nat.le_antisymm hle (Nat.not_lt.mp hlt)
    exact ⟨sv.stop i G' H' S'.low S'.cln (Nat.not_lt.mp hlt), k.nx E' σ' G' H' (drop S') (fin E' (e ▸ jv))⟩
end
end N
set_option Elab.async false
set_option linter.all false
set_option maxRecDepth 100000
set_option maxHeartbeats 1000000
/-! DE: defs, calls, built-ins, subscripts, slices, by data. -/
namespace N
open PySem
open PySem.Spec
open PyProof.Rows
open L2

/-- a def's promise by data: f tells of the arguments what is wanted -/
abbrev FT := List Dt → (Dt → Prop) → Prop
def spD (K : PySem.W.Frag) (M : Addr → Prop) (HI : Hp → Prop) (T : List (Addr × Str)) (f : FT) : Sp := fun vs H Q _ => ∃ G ds Φ, Cln G H ∧ (∀ b, M b → G b = none) ∧ LamX.Tabs T H ∧ HI H ∧ RpA K G vs ds ∧ f ds Φ ∧
  ∀ v d G' H', Ext M H G H' G' → Cln G' H' → LamX.Tabs T H' → HI H' → Rp K G' v d → Φ d → Q v H'
abbrev noM : Addr → Prop := fun _ => False
abbrev noHI : Hp → Prop := fun _ => True
abbrev spP (K : PySem.W.Frag) (T : List (Addr × Str)) (f : FT) : Sp := spD K noM noHI T f
/-- the slots at the entry -/
def st0 (N : List Str) (ds : List Dt) : Ev := ds.map Sl.dt ++ List.replicate (N.length - ds.length) Sl.un
/-- what a def is, to its callers -/
structure Cal (P : Program) (w : World) (K : PySem.W.Frag) (mg : Str → Option Value) (base : Heap) (k : Nat) (x : Str) (ps : List Str) (sp : Sp) : Prop where
  ex : ∃ (g : Addr) (fd : FuncData), FnOk P w K mg base CX0 k g fd ps sp ∧ mg x = some (.ref g) ∧ PySem.W.keepIn K (.ref g) = true ∧ Binds K fd ps []
section
variable {P : Program} {w : World} {K : PySem.W.Frag} {mg : Str → Option Value} {base : Heap} {M : Addr → Prop} {HI : Hp → Prop} {T : List (Addr × Str)}
theorem rpa_at {G : Hp} {vs : List V} {ds : List Dt} (r : RpA K G vs ds) (N : List Str) (i : Nat) (s : Sl) (h : (st0 N ds)[i]? = some s) : (∃ d, s = .dt d ∧ ∃ v, (L2.start N vs)[i]? = some (some v) ∧ Rp K G v d) ∨ s = .un := by
  unfold st0 at h
  by_cases hi : i < ds.length
  · rw [List.getElem?_append_left (by rw [List.length_map]; exact hi), List.getElem?_map, List.getElem?_eq_getElem hi] at h
    obtain ⟨v, hv, rv⟩ := r.get (List.getElem?_eq_getElem hi)
    refine .inl ⟨_, (Option.some.inj h).symm, v, ?_, rv⟩
    unfold L2.start
    rw [List.getElem?_append_left (by rw [List.length_map, r.len]; exact hi), List.getElem?_map, hv]
    rfl
  · rw [List.getElem?_append_right (by rw [List.length_map]; omega)] at h
    have := List.mem_of_getElem? h
    exact .inr (List.eq_of_mem_replicate this)
/-- THE RULE for a def: its body by data -/
theorem fn_okD {x qual : Str} {params : Arguments} {body : List Stmt} {scope : Scope} {g : Addr} {fd : FuncData} {N ps : List Str} {k : Nat} {f : FT} (bok : BdOk M HI) (F : FunD K x qual params body scope [] [] g fd) (S : FnScope N ps scope) (len : ∀ ds Φ, f ds Φ → ds.length = ps.length)
    (hle : ps.length ≤ N.length) (hb : ∀ (cdv : Value) (A : Around) (outer : List Env) (s : Shared) (H : Hp) (E : XK) (B : Bd) (ds : List Dt) (Φ : Dt → Prop), B.M = M → B.HI = HI → B.T = T → Room k (A.deeper (envOfC qual scope s.heap.objs.size g cdv)) → f ds Φ →
      DL (cxOf CX0 P w K mg base N qual scope g cdv A outer s H E).nox B (st0 N ds) body { nx := fun _ => Φ .non, rt := Φ }) : FnOk P w K mg base CX0 (k + 1) g fd ps (spD K M HI T f) := by
  refine F.ok S (fun vs H Q E h => ?_) (fun cdv A outer s H vs Q E hr h => ?_)
  · obtain ⟨G, ds, Φ, _, _, _, _, r, hf, _⟩ := h
    rw [r.len]
    exact len ds Φ hf
  · obtain ⟨G, ds, Φ, cl, gm, tb, hi, r, hf, q⟩ := h
    have hl : ds.length = ps.length := len ds Φ hf
    refine ⟨semL (cxOf CX0 P w K mg base N qual scope g cdv A outer s H E).nox body, (qL : PSs (cxOf CX0 P w K mg base N qual scope g cdv A outer s H E).nox body _).nox, ?_⟩
    refine hb cdv A outer s H E ⟨M, HI, T, G, H, G, []⟩ ds Φ rfl rfl rfl hr hf (L2.start N vs) G H _ ?_ ?_
    · refine ⟨bok, Ext.rf H G, cl, tb, hi, gm, ?_, fun i s h => ?_, fun i j s u l hi hj hs hu => ?_, GLe.rfl' G, fun p hp => (nomatch hp), fun p hp => (nomatch hp), List.nodup_nil⟩
      · unfold L2.start st0
        rw [List.length_append, List.length_append, List.length_map, List.length_map, List.length_replicate, List.length_replicate, r.len]
      · rcases rpa_at r N i s h with ⟨d, rfl, v, hv, rv⟩ | rfl
        · exact ⟨v, hv, rv⟩
        · trivial
      · rcases rpa_at r N i s hi with ⟨d, rfl, _⟩ | rfl <;> cases hs
    · exact ⟨fun E σ G' H' S' f => q .non .non G' H' S'.ext S'.cln S'.tab S'.hi .non f, fun v d G' H' F r f => q v d G' H' F.ext F.cln F.tab F.hi r f, fun _ _ _ _ _ f => f.elim, fun _ _ _ _ _ f => f.elim⟩
end
section
variable {X : Cx} {B : Bd} {E : Ev} {Φ : Dt → Prop} {e a b : Expr} {es : List Expr} {pos p : Pos} {x : Str} {k : Nat} {ps : List Str} {f : FT}
/-- the callee's own M and HI fit the caller's -/
structure Cmp (M1 : Addr → Prop) (HI1 : Hp → Prop) (B : Bd) : Prop where
  m : ∀ b, M1 b → B.M b
  hi : ∀ H, B.HI H → HI1 H
  back : ∀ H H', B.HI H → HI1 H' → (∀ b, B.M b → ¬ M1 b → H' b = H b) → B.HI H'
theorem Cmp.same (B : Bd) : Cmp B.M B.HI B := ⟨fun _ h => h, fun _ h => h, fun _ _ _ h _ => h⟩
theorem Cmp.pure {B : Bd} (h : BdOk B.M B.HI) : Cmp noM noHI B := ⟨fun _ h => h.elim, fun _ _ => trivial, fun H H' hi _ q => h.stab H H' hi fun b m => q b m (fun z => z)⟩
theorem call_use {M1 : Addr → Prop} {HI1 : Hp → Prop} {σ : L2.St} {G H : Hp} {vs : List V} {ds : List Dt} {Q : VK} {XE : XK} (S : Stt X.K B E σ G H) (cm : Cmp M1 HI1 B) (r : RpA X.K G vs ds) (hf : f ds Φ)
    (q : ∀ v d G' H', Stt X.K B E σ G' H' → Ext B.M H G H' G' → Rp X.K G' v d → Φ d → Q v H') : spD X.K M1 HI1 B.T f vs H Q XE := by
  refine ⟨G, ds, Φ, S.cln, fun b m => S.gm b (cm.m b m), S.tab, cm.hi H S.hi, r, hf, ?_⟩
  intro v d G' H' x c t hi rv ph
  have x' : Ext B.M H G H' G' := ⟨x.gg, fun b o h t m => x.keep b o h t (fun z => m (cm.m b z)), x.live, x.new⟩
  refine q v d G' H' (S.step x' c t ?_) x' rv ph
  refine cm.back H H' S.hi hi fun b m n => ?_
  obtain ⟨xs, h⟩ := S.bok.mem H b S.hi m
  rw [h, x.keep b _ h (fun ps e => by cases e) n]
/-- g(e, ..) -/
theorem dw_call {M1 : Addr → Prop} {HI1 : Hp → Prop} (C : Cal X.prog X.w X.K X.mg X.base k x ps (spD X.K M1 HI1 B.T f)) (cm : BdOk B.M B.HI → Cmp M1 HI1 B) (hr : Room k X.A) (h : DA X B E (e :: es) fun ds => f ds Φ) (hg : Gl X x := by rfl)
    (hdb : (x == ("__debug__" : Str)) = false := by decide) (he : starEach (e :: es) X.env = (false, eval e X.env) :: starEach es X.env := by rfl) (hpl : (backTo pos (starEach es X.env)).any (·.1) = false := by rfl) :
    DW X B E (.Call (.Name x p) (e :: es) [] pos) Φ := fun σ G H Q S q => by
  obtain ⟨g, fd, F, hm, hk, hb⟩ := C.ex
  refine fE (pe_call F hr hg hm hk hb .nil pass0 qA hdb he hpl) ?_
  refine h σ G H _ S ?_
  intro vs ds G1 H1 S1 x1 r1 f1
  show spD X.K M1 HI1 B.T f (vs ++ []) H1 Q _
  rw [List.append_nil]
  exact call_use S1 (cm S.bok) r1 f1 fun v d G' H' S' x' rv ph => q v d G' H' S' (x1.tr x') rv ph
/-- .. called by keywords alone, the parameters from the last to the first -/
structure CalK (P : Program) (w : World) (K : PySem.W.Frag) (mg : Str → Option Value) (base : Heap) (k : Nat) (x : Str) (ps : List Str) (sp : Sp) : Prop where
  ex : ∃ (g : Addr) (fd : FuncData), FnOk P w K mg base CX0 k g fd ps sp ∧ mg x = some (.ref g) ∧ PySem.W.keepIn K (.ref g) = true ∧ KBn K fd ps 0 ps.reverse (fun _ ws => ws.reverse) (fun _ zs => zs.reverse)
def DKs (X : Cx) (B : Bd) (E : Ev) : List Keyword → (List Dt → Prop) → Prop
  | [], Ψ => Ψ []
  | kw :: ks, Ψ => DW X B E kw.value fun d => DKs X B E ks fun ds => Ψ (d :: ds)
theorem dks_ok : ∀ (ks : List Keyword) {Ψ : List Dt → Prop}, DKs X B E ks Ψ → DKw X B E ks Ψ
  | [], Ψ, h => fun σ G H Q S k => fK pk_nil (k [] [] G H S (Ext.rf H G) .nil h)
  | ⟨nm, e, kp⟩ :: ks, Ψ, h => fun σ G H Q S q => fK (pk_cons qE qK) (h σ G H _ S fun v d G1 H1 S1 g1 r1 f1 => dks_ok ks f1 σ G1 H1 _ S1 fun vs ds G2 H2 S2 g2 r2 f2 => q _ _ G2 H2 S2 (g1.tr g2) (.cons (r1.le g2.gg) r2) f2)
theorem dw_callK {M1 : Addr → Prop} {HI1 : Hp → Prop} {ks : List Keyword} (C : CalK X.prog X.w X.K X.mg X.base k x ps (spD X.K M1 HI1 B.T f)) (cm : BdOk B.M B.HI → Cmp M1 HI1 B) (hr : Room k X.A) (h : DKs X B E ks fun ds => ds.length = ps.length ∧ f ds.reverse Φ) (hg : Gl X x := by rfl)
    (hall : (backToKw pos (keywordEach ks X.env)).all (·.1.isSome) = true := by rfl) (hks : (backToKw pos (keywordEach ks X.env)).filterMap (·.1) = ps.reverse := by rfl) (hdb : (x == ("__debug__" : Str)) = false := by decide)
    (hpl : ((backTo pos (starEach [] X.env)).any (·.1) || (backToKw pos (keywordEach ks X.env)).any (·.1.isNone)) = false := by rfl) : DW X B E (.Call (.Name x p) [] ks pos) Φ := fun σ G H Q S q => by
  obtain ⟨g, fd, F, hm, hk, hb⟩ := C.ex
  have P0 : PE X (.Call (.Name x p) [] ks pos) (fun σ H Q => semK X ks σ H fun zs H2 => zs.length = ps.reverse.length ∧ spD X.K M1 HI1 B.T f zs.reverse H2 Q E0) := by
    refine ⟨fun pins s σ H Q I h => ?_⟩
    refine wpAny_Call_Name_kw (ld_glob I hg hm ?_ hdb)
    refine PySem.W.callWith_KW0 (h₀ := X.base) I.ok.mod.kin hk hall (thn (h.run pos pins s I) fun ws s2 q => ?_) hpl
    obtain ⟨zs, H2, I2, rz, l2, q2⟩ := q
    refine ⟨I2.kIn, ?_⟩
    rw [hks]
    exact run_fnN F hr hb pass0 I2 .nil rz rfl l2 q2
  refine fE P0 ?_
  refine dks_ok ks h σ G H _ S ?_
  intro vs ds G1 H1 S1 x1 r1 f1
  refine ⟨by rw [r1.len, List.length_reverse]; exact f1.1, ?_⟩
  exact call_use S1 (cm S.bok) r1.rev f1.2 fun v d G' H' S' x' rv ph => q v d G' H' S' (x1.tr x') rv ph
end
end N
set_option Elab.async false
set_option linter.all false
set_option maxRecDepth 100000
set_option maxHeartbeats 1000000
/-! DF: built-ins, subscripts, slices, joins, by data. -/
namespace N
open PySem
open PySem.Spec
open PyProof.Rows
open L2

section
variable {X : Cx} {B : Bd} {E : Ev} {Φ : Dt → Prop} {e a b : Expr} {es : List Expr} {pos p : Pos} {x : Str} {id : String} {r : List V → Hp → VK → Prop} {k : FT}
def OkC (X : Cx) (r : List V → Hp → VK → Prop) (k : FT) : Prop := ∀ (B : Bd) (E : Ev) (σ : L2.St) (G H : Hp) (vs : List V) (ds : List Dt) (Φ : Dt → Prop) (Q : VK), Stt X.K B E σ G H → RpA X.K G vs ds → k ds Φ →
  (∀ v d G' H', Grow G H G' H' → Rp X.K G' v d → Φ d → Q v H') → r vs H Q
/-- .. whose answer is a new list -/
def OkN (X : Cx) (r : List V → Hp → VK → Prop) (k : List Dt → (List Dt → Prop) → Prop) : Prop := ∀ (B : Bd) (E : Ev) (σ : L2.St) (G H : Hp) (vs : List V) (ds : List Dt) (Ψ : List Dt → Prop) (Q : VK), Stt X.K B E σ G H → RpA X.K G vs ds → k ds Ψ →
  (∀ p xs es, H p = none → RpA X.K G xs es → es.length ≤ sizeLine → Ψ es → Q (.ref p) (upd H p (.lst xs))) → r vs H Q
theorem dw_blt (hc : CallR X (.builtin id) r) (ok : OkC X r k) (hm : X.mg x = none) (hv : bootBuiltins x = some (.builtin id)) (h : DA X B E (e :: es) fun ds => k ds Φ) (hg : Gl X x := by rfl) (hn : x ≠ "__name__" := by decide) (hdb : (x == ("__debug__" : Str)) = false := by decide)
    (he : starEach (e :: es) X.env = (false, eval e X.env) :: starEach es X.env := by rfl) (hpl : (backTo pos (starEach es X.env)).any (·.1) = false := by rfl) : DW X B E (.Call (.Name x p) (e :: es) [] pos) Φ := fun σ G H Q S q =>
  fE (pe_callB hc hg hm hv qA hn hdb he hpl) (h σ G H _ S fun vs ds G1 H1 S1 x1 r1 f1 => ok B E σ G1 H1 vs ds Φ Q S1 r1 f1 fun v d G' H' g rv f => q v d G' H' (S1.grow g) (x1.tr g.ext) rv f)
theorem dw_bty {T : String} (hc : CallR X (.type T) r) (ok : OkC X r k) (hm : X.mg x = none) (hv : bootBuiltins x = some (.type T)) (h : DA X B E (e :: es) fun ds => k ds Φ) (hg : Gl X x := by rfl) (hn : x ≠ "__name__" := by decide) (hdb : (x == ("__debug__" : Str)) = false := by decide)
    (he : starEach (e :: es) X.env = (false, eval e X.env) :: starEach es X.env := by rfl) (hpl : (backTo pos (starEach es X.env)).any (·.1) = false := by rfl) : DW X B E (.Call (.Name x p) (e :: es) [] pos) Φ := fun σ G H Q S q =>
  fE (pe_callTy hc hg hm hv qA hn hdb he hpl) (h σ G H _ S fun vs ds G1 H1 S1 x1 r1 f1 => ok B E σ G1 H1 vs ds Φ Q S1 r1 f1 fun v d G' H' g rv f => q v d G' H' (S1.grow g) (x1.tr g.ext) rv f)
theorem dn_blt {Ψ : List Dt → Prop} {k : List Dt → (List Dt → Prop) → Prop} (hc : CallR X (.builtin id) r) (ok : OkN X r k) (hm : X.mg x = none) (hv : bootBuiltins x = some (.builtin id)) (h : DA X B E (e :: es) fun ds => k ds Ψ) (hg : Gl X x := by rfl) (hn : x ≠ "__name__" := by decide) (hdb : (x == ("__debug__" : Str)) = false := by decide)
    (he : starEach (e :: es) X.env = (false, eval e X.env) :: starEach es X.env := by rfl) (hpl : (backTo pos (starEach es X.env)).any (·.1) = false := by rfl) : DN X B E (.Call (.Name x p) (e :: es) [] pos) Ψ := fun σ G H Q S q =>
  fE (pe_callB hc hg hm hv qA hn hdb he hpl) (h σ G H _ S fun vs ds G1 H1 S1 x1 r1 f1 => ok B E σ G1 H1 vs ds Ψ Q S1 r1 f1 fun p xs es hp rv z f => q p xs es G1 H1 S1 x1 hp rv z f)
theorem dn_bty {Ψ : List Dt → Prop} {T : String} {k : List Dt → (List Dt → Prop) → Prop} (hc : CallR X (.type T) r) (ok : OkN X r k) (hm : X.mg x = none) (hv : bootBuiltins x = some (.type T)) (h : DA X B E (e :: es) fun ds => k ds Ψ) (hg : Gl X x := by rfl) (hn : x ≠ "__name__" := by decide) (hdb : (x == ("__debug__" : Str)) = false := by decide)
    (he : starEach (e :: es) X.env = (false, eval e X.env) :: starEach es X.env := by rfl) (hpl : (backTo pos (starEach es X.env)).any (·.1) = false := by rfl) : DN X B E (.Call (.Name x p) (e :: es) [] pos) Ψ := fun σ G H Q S q =>
  fE (pe_callTy hc hg hm hv qA hn hdb he hpl) (h σ G H _ S fun vs ds G1 H1 S1 x1 r1 f1 => ok B E σ G1 H1 vs ds Ψ Q S1 r1 f1 fun p xs es hp rv z f => q p xs es G1 H1 S1 x1 hp rv z f)

/-! ### lists of ints, of bools -/
theorem rpa_ints {K : PySem.W.Frag} {G : Hp} : ∀ {ns : List Int} {vs : List V}, RpA K G vs (ns.map Dt.int) → vs = ns.map V.int
  | [], _, .nil => rfl
  | n :: ns, _, .cons r rs => by cases r; rw [rpa_ints rs]; rfl
theorem ints_rpa {K : PySem.W.Frag} {G : Hp} : ∀ ns : List Int, RpA K G (ns.map V.int) (ns.map Dt.int)
  | [] => .nil
  | n :: ns => .cons (.int n) (ints_rpa ns)
theorem rpa_bls {K : PySem.W.Frag} {G : Hp} : ∀ {ns : List Bool} {vs : List V}, RpA K G vs (ns.map Dt.bl) → vs = ns.map V.bl
  | [], _, .nil => rfl
  | n :: ns, _, .cons r rs => by cases r; rw [rpa_bls rs]; rfl
theorem rpa_strs {K : PySem.W.Frag} {G : Hp} : ∀ {ns : List Str} {vs : List V}, RpA K G vs (ns.map Dt.str) → vs = ns.map V.str
  | [], _, .nil => rfl
  | n :: ns, _, .cons r rs => by cases r; rw [rpa_strs rs]; rfl
theorem strs_rpa {K : PySem.W.Frag} {G : Hp} : ∀ ns : List Str, RpA K G (ns.map V.str) (ns.map Dt.str)
  | [] => .nil
  | n :: ns => .cons (.str n) (strs_rpa ns)
abbrev lenK : FT := fun ds Φ => (∃ l, ds = [.lst l] ∧ Φ (.int l.length)) ∨ (∃ l, ds = [.tup l] ∧ Φ (.int l.length)) ∨ ∃ l, ds = [.scr l] ∧ Φ (.int l.length)
theorem ok_len : OkC X (fun xs H Q => ∃ p ys, xs = [.ref p] ∧ (SqL X.K H p ys ∨ SqT X.K H p ys) ∧ Q (.int ys.length) H) lenK := fun B E σ G H vs ds Φ Q S r k q => by
  rcases k with ⟨l, rfl, f⟩ | ⟨l, rfl, f⟩ | ⟨l, rfl, f⟩
  · cases r with
    | cons r0 r => cases r; cases r0 with
      | lst h z r => exact ⟨_, _, rfl, .inl (SqL.of (S.cln.sub _ _ h)), q _ _ G H (Grow.rf S.cln) (.int _) (by rw [r.len]; exact f)⟩
  · cases r with
    | cons r0 r => cases r; cases r0 with
      | tup h z r => exact ⟨_, _, rfl, .inr (SqT.of (S.cln.sub _ _ h)), q _ _ G H (Grow.rf S.cln) (.int _) (by rw [r.len]; exact f)⟩
  · cases r with
    | cons r0 r => cases r; cases r0 with
      | scr h => exact ⟨_, _, rfl, .inl (seqL_le S.cln.sub h), q _ _ G H (Grow.rf S.cln) (.int _) (by rw [List.length_map]; exact f)⟩
theorem dw_len (hm : X.mg "len" = none) (h : DA X B E [e] fun ds => lenK ds Φ) (hg : Gl X "len" := by rfl) (he : starEach [e] X.env = (false, eval e X.env) :: starEach [] X.env := by rfl) (hpl : (backTo pos (starEach [] X.env)).any (·.1) = false := by rfl) : DW X B E (.Call (.Name "len" p) [e] [] pos) Φ :=
  dw_blt call_len_seq ok_len hm PySem.boot_len h hg (by decide) (by decide) he hpl
theorem dw_abs (hm : X.mg "abs" = none) (h : DA X B E [e] fun ds => ∃ i : Int, ds = [.int i] ∧ Φ (.int (if i < 0 then -i else i))) (hg : Gl X "abs" := by rfl) (he : starEach [e] X.env = (false, eval e X.env) :: starEach [] X.env := by rfl) (hpl : (backTo pos (starEach [] X.env)).any (·.1) = false := by rfl) : DW X B E (.Call (.Name "abs" p) [e] [] pos) Φ :=
  dw_blt (k := fun ds Φ => ∃ i : Int, ds = [.int i] ∧ Φ (.int (if i < 0 then -i else i))) call_abs (fun B E σ G H vs ds Φ Q S r k q => by
    obtain ⟨i, rfl, f⟩ := k
    cases r with
    | cons r0 r => cases r; cases r0; exact ⟨i, rfl, q _ _ G H (Grow.rf S.cln) (.int _) f⟩) hm (by decide +kernel) h hg (by decide) (by decide) he hpl
theorem dw_max2 (hm : X.mg "max" = none) (h : DA X B E [a, b] fun ds => ∃ i j : Int, ds = [.int i, .int j] ∧ Φ (.int (if j > i then j else i))) (hc : X.calm = true := by rfl) (hg : Gl X "max" := by rfl) (he : starEach [a, b] X.env = (false, eval a X.env) :: starEach [b] X.env := by rfl) (hpl : (backTo pos (starEach [b] X.env)).any (·.1) = false := by rfl) : DW X B E (.Call (.Name "max" p) [a, b] [] pos) Φ :=
  dw_blt (k := fun ds Φ => ∃ i j : Int, ds = [.int i, .int j] ∧ Φ (.int (if j > i then j else i))) (call_max2 hc) (fun B E σ G H vs ds Φ Q S r k q => by
    obtain ⟨i, j, rfl, f⟩ := k
    cases r with
    | cons r0 r => cases r with
      | cons r1 r => cases r; cases r0; cases r1; exact ⟨i, j, rfl, q _ _ G H (Grow.rf S.cln) (.int _) f⟩) hm (by decide +kernel) h hg (by decide) (by decide) he hpl
theorem rp_ints {K : PySem.W.Frag} {G H : Hp} {v : V} {ns : List Int} (c : Cln G H) (r : Rp K G v (.lst (ns.map Dt.int))) : ∃ a, v = .ref a ∧ SqL K H a (ns.map V.int) := by
  cases r with
  | lst h z r => exact ⟨_, rfl, by rw [← rpa_ints r]; exact SqL.of (c.sub _ _ h)⟩
theorem dw_maxL (hm : X.mg "max" = none) (h : DA X B E [e] fun ds => ∃ ns : List Int, ds = [.lst (ns.map .int)] ∧ 0 < ns.length ∧ ∀ m, m ∈ ns → (∀ y, y ∈ ns → y ≤ m) → Φ (.int m)) (hc : X.calm = true := by rfl) (hg : Gl X "max" := by rfl) (he : starEach [e] X.env = (false, eval e X.env) :: starEach [] X.env := by rfl) (hpl : (backTo pos (starEach [] X.env)).any (·.1) = false := by rfl) : DW X B E (.Call (.Name "max" p) [e] [] pos) Φ :=
  dw_blt (k := fun ds Φ => ∃ ns : List Int, ds = [.lst (ns.map .int)] ∧ 0 < ns.length ∧ ∀ m, m ∈ ns → (∀ y, y ∈ ns → y ≤ m) → Φ (.int m)) (cr_max hc) (fun B E σ G H vs ds Φ Q S r k q => by
    obtain ⟨ns, rfl, h0, f⟩ := k
    cases r with
    | cons r0 r =>
      cases r
      obtain ⟨a, rfl, hs⟩ := rp_ints S.cln r0
      exact ⟨a, ns, rfl, hs, h0, fun m h1 h2 => q _ _ G H (Grow.rf S.cln) (.int _) (f m h1 h2)⟩) hm (by decide +kernel) h hg (by decide) (by decide) he hpl
theorem dw_minL (hm : X.mg "min" = none) (h : DA X B E [e] fun ds => ∃ ns : List Int, ds = [.lst (ns.map .int)] ∧ 0 < ns.length ∧ ∀ m, m ∈ ns → (∀ y, y ∈ ns → m ≤ y) → Φ (.int m)) (hc : X.calm = true := by rfl) (hg : Gl X "min" := by rfl) (he : starEach [e] X.env = (false, eval e X.env) :: starEach [] X.env := by rfl) (hpl : (backTo pos (starEach [] X.env)).any (·.1) = false := by rfl) : DW X B E (.Call (.Name "min" p) [e] [] pos) Φ :=
  dw_blt (k := fun ds Φ => ∃ ns : List Int, ds = [.lst (ns.map .int)] ∧ 0 < ns.length ∧ ∀ m, m ∈ ns → (∀ y, y ∈ ns → m ≤ y) → Φ (.int m)) (cr_min hc) (fun B E σ G H vs ds Φ Q S r k q => by
    obtain ⟨ns, rfl, h0, f⟩ := k
    cases r with
    | cons r0 r =>
      cases r
      obtain ⟨a, rfl, hs⟩ := rp_ints S.cln r0
      exact ⟨a, ns, rfl, hs, h0, fun m h1 h2 => q _ _ G H (Grow.rf S.cln) (.int _) (f m h1 h2)⟩) hm (by decide +kernel) h hg (by decide) (by decide) he hpl
theorem dw_sum (hm : X.mg "sum" = none) (h : DA X B E [e] fun ds => ∃ ns : List Int, ds = [.lst (ns.map .int)] ∧ Φ (.int ns.sum)) (hc : X.calm = true := by rfl) (hg : Gl X "sum" := by rfl) (he : starEach [e] X.env = (false, eval e X.env) :: starEach [] X.env := by rfl) (hpl : (backTo pos (starEach [] X.env)).any (·.1) = false := by rfl) : DW X B E (.Call (.Name "sum" p) [e] [] pos) Φ :=
  dw_blt (k := fun ds Φ => ∃ ns : List Int, ds = [.lst (ns.map .int)] ∧ Φ (.int ns.sum)) (cr_sum hc) (fun B E σ G H vs ds Φ Q S r k q => by
    obtain ⟨ns, rfl, f⟩ := k
    cases r with
    | cons r0 r =>
      cases r
      obtain ⟨a, rfl, hs⟩ := rp_ints S.cln r0
      exact ⟨a, ns, rfl, hs, q _ _ G H (Grow.rf S.cln) (.int _) f⟩) hm (by decide +kernel) h hg (by decide) (by decide) he hpl
theorem rp_bls {K : PySem.W.Frag} {G H : Hp} {v : V} {ns : List Bool} (c : Cln G H) (r : Rp K G v (.lst (ns.map Dt.bl))) : ∃ a, v = .ref a ∧ SqL K H a (ns.map V.bl) := by
  cases r with
  | lst h z r => exact ⟨_, rfl, by rw [← rpa_bls r]; exact SqL.of (c.sub _ _ h)⟩
theorem dw_all (hm : X.mg "all" = none) (h : DA X B E [e] fun ds => ∃ ns : List Bool, ds = [.lst (ns.map .bl)] ∧ Φ (.bl (ns.all _root_.id))) (hc : X.calm = true := by rfl) (hg : Gl X "all" := by rfl) (he : starEach [e] X.env = (false, eval e X.env) :: starEach [] X.env := by rfl) (hpl : (backTo pos (starEach [] X.env)).any (·.1) = false := by rfl) : DW X B E (.Call (.Name "all" p) [e] [] pos) Φ :=
  dw_blt (k := fun ds Φ => ∃ ns : List Bool, ds = [.lst (ns.map .bl)] ∧ Φ (.bl (ns.all _root_.id))) (cr_all hc) (fun B E σ G H vs ds Φ Q S r k q => by
    obtain ⟨ns, rfl, f⟩ := k
    cases r with
    | cons r0 r =>
      cases r
      obtain ⟨a, rfl, hs⟩ := rp_bls S.cln r0
      exact ⟨a, ns, rfl, hs, q _ _ G H (Grow.rf S.cln) (.bl _) f⟩) hm (by decide +kernel) h hg (by decide) (by decide) he hpl
theorem dw_any (hm : X.mg "any" = none) (h : DA X B E [e] fun ds => ∃ ns : List Bool, ds = [.lst (ns.map .bl)] ∧ Φ (.bl (ns.any _root_.id))) (hc : X.calm = true := by rfl) (hg : Gl X "any" := by rfl) (he : starEach [e] X.env = (false, eval e X.env) :: starEach [] X.env := by rfl) (hpl : (backTo pos (starEach [] X.env)).any (·.1) = false := by rfl) : DW X B E (.Call (.Name "any" p) [e] [] pos) Φ :=
  dw_blt (k := fun ds Φ => ∃ ns : List Bool, ds = [.lst (ns.map .bl)] ∧ Φ (.bl (ns.any _root_.id))) (cr_any hc) (fun B E σ G H vs ds Φ Q S r k q => by
    obtain ⟨ns, rfl, f⟩ := k
    cases r with
    | cons r0 r =>
      cases r
      obtain ⟨a, rfl, hs⟩ := rp_bls S.cln r0
      exact ⟨a, ns, rfl, hs, q _ _ G H (Grow.rf S.cln) (.bl _) f⟩) hm (by decide +kernel) h hg (by decide) (by decide) he hpl
abbrev intK : FT := fun ds Φ => (∃ i, ds = [.int i] ∧ Φ (.int i)) ∨ ∃ z, ds = [.bl z] ∧ Φ (.int (if z then 1 else 0))
theorem dw_int1 (hm : X.mg "int" = none) (h : DA X B E [e] fun ds => intK ds Φ) (hg : Gl X "int" := by rfl) (he : starEach [e] X.env = (false, eval e X.env) :: starEach [] X.env := by rfl) (hpl : (backTo pos (starEach [] X.env)).any (·.1) = false := by rfl) : DW X B E (.Call (.Name "int" p) [e] [] pos) Φ :=
  dw_bty (k := intK) call_int1 (fun B E σ G H vs ds Φ Q S r k q => by
    rcases k with ⟨i, rfl, f⟩ | ⟨z, rfl, f⟩
    · cases r with
      | cons r0 r => cases r; cases r0; exact .inl ⟨i, rfl, q _ _ G H (Grow.rf S.cln) (.int _) f⟩
    · cases r with
      | cons r0 r => cases r; cases r0; exact .inr ⟨z, rfl, q _ _ G H (Grow.rf S.cln) (.int _) f⟩) hm (by decide +kernel) h hg (by decide) (by decide) he hpl
abbrev tupK : FT := fun ds Φ => (∃ l, ds = [.lst l] ∧ Φ (.tup l)) ∨ ∃ l, ds = [.tup l] ∧ Φ (.tup l)
theorem dw_tuple (hm : X.mg "tuple" = none) (h : DA X B E [e] fun ds => tupK ds Φ) (hg : Gl X "tuple" := by rfl) (he : starEach [e] X.env = (false, eval e X.env) :: starEach [] X.env := by rfl) (hpl : (backTo pos (starEach [] X.env)).any (·.1) = false := by rfl) : DW X B E (.Call (.Name "tuple" p) [e] [] pos) Φ :=
  dw_bty (k := tupK) call_tuple_of (fun B E σ G H vs ds Φ Q S r k q => by
    rcases k with ⟨l, rfl, f⟩ | ⟨l, rfl, f⟩
    · cases r with
      | cons r0 r => cases r; cases r0 with
        | @lst a0 xs0 _ h z r =>
          refine ⟨_, _, rfl, .inl ⟨SqL.of (S.cln.sub _ _ h), fun p hp => ?_⟩⟩
          have g := Grow.one (o := .tup xs0) S.cln hp (fun ps e => by cases e)
          exact q _ _ _ _ g (.tup upd_same z (r.le g.gg)) f
    · cases r with
      | cons r0 r => cases r; cases r0 with
        | tup h z r => exact ⟨_, _, rfl, .inr ⟨SqT.of (S.cln.sub _ _ h), q _ _ G H (Grow.rf S.cln) (.tup h z r) f⟩⟩) hm (by decide +kernel) h hg (by decide) (by decide) he hpl
theorem dn_list {Ψ : List Dt → Prop} (hm : X.mg "list" = none) (h : DA X B E [e] fun ds => (∃ l, ds = [.lst l] ∧ Ψ l) ∨ ∃ l, ds = [.tup l] ∧ Ψ l) (hg : Gl X "list" := by rfl) (he : starEach [e] X.env = (false, eval e X.env) :: starEach [] X.env := by rfl) (hpl : (backTo pos (starEach [] X.env)).any (·.1) = false := by rfl) : DN X B E (.Call (.Name "list" p) [e] [] pos) Ψ :=
  dn_bty (k := fun ds Ψ => (∃ l, ds = [.lst l] ∧ Ψ l) ∨ ∃ l, ds = [.tup l] ∧ Ψ l) call_list_of (fun B E σ G H vs ds Φ Q S r k q => by
    rcases k with ⟨l, rfl, f⟩ | ⟨l, rfl, f⟩
    · cases r with
      | cons r0 r => cases r; cases r0 with
        | lst h z r => exact ⟨_, _, rfl, .inl (SqL.of (S.cln.sub _ _ h)), fun p hp => q p _ _ hp r z f⟩
    · cases r with
      | cons r0 r => cases r; cases r0 with
        | tup h z r => exact ⟨_, _, rfl, .inr (SqT.of (S.cln.sub _ _ h)), fun p hp => q p _ _ hp r z f⟩) hm (by decide +kernel) h hg (by decide) (by decide) he hpl
/-! ### subscripts -/
abbrev ixK : Dt → Dt → (Dt → Prop) → Prop
  | .tup l, .int i, Φ => ∃ d, atI l i = some d ∧ Φ d
  | .lst l, .int i, Φ => ∃ d, atI l i = some d ∧ Φ d
  | _, _, _ => False
theorem rpa_at_i {K : PySem.W.Frag} {G : Hp} {vs : List V} {ds : List Dt} (r : RpA K G vs ds) {i : Int} {d : Dt} (h : atI ds i = some d) : ∃ v, atI vs i = some v ∧ Rp K G v d := by
  unfold atI at h ⊢
  rw [r.len]
  cases e : ixN ds.length i with
  | none => rw [e] at h; cases h
  | some j => rw [e] at h; exact r.get (i := j) h
theorem ok_ix : OkR X (fun x y H Q => rIxL X.K x y H Q ∨ rIxT X.K x y H Q) ixK := fun B E σ G H x y d1 d2 Φ Q S r1 r2 k q => by
  unfold ixK at k
  split at k
  · obtain ⟨d, hd, f⟩ := k
    cases r2
    cases r1 with
    | tup h z r =>
      obtain ⟨v, hv, rv⟩ := rpa_at_i r hd
      exact .inr ⟨_, _, _, v, rfl, rfl, SqT.of (S.cln.sub _ _ h), hv, q v d G H (Grow.rf S.cln) rv f⟩
  · obtain ⟨d, hd, f⟩ := k
    cases r2
    cases r1 with
    | lst h z r =>
      obtain ⟨v, hv, rv⟩ := rpa_at_i r hd
      exact .inl ⟨_, _, _, v, rfl, rfl, SqL.of (S.cln.sub _ _ h), hv, q v d G H (Grow.rf S.cln) rv f⟩
  · exact k.elim
theorem dw_at (h : DW X B E a fun d1 => DW X B E b fun d2 => ixK d1 d2 Φ) (hs : PlainIx b := by exact fun _ _ => rfl) : DW X B E (.Subscript a b pos) Φ := dw_ix (ix_list.or ix_tup) ok_ix h hs
/-! ### slices -/
theorem do_none {Θ : Option Int → Prop} (h : Θ none) : DO X B E none Θ := fun σ G H Q S k => fO po_none (k none G H S (Ext.rf H G) h)
theorem do_some {Θ : Option Int → Prop} (h : DW X B E e fun d => ∃ i, d = .int i ∧ Θ (some i)) : DO X B E (some e) Θ := fun σ G H Q S k => fO (po_some qE) (h σ G H _ S fun v d G' H' S' x r f => by
  obtain ⟨i, rfl, f⟩ := f
  cases r
  exact ⟨i, rfl, k _ G' H' S' x f⟩)
def cutD {α : Type} (xs : List α) (lo hi : Option Int) : List α := (xs.drop (HT.sIx xs.length 0 lo)).take (HT.sIx xs.length xs.length hi - HT.sIx xs.length 0 lo)
theorem cutD_len {α : Type} (xs : List α) (lo hi : Option Int) : (cutD xs lo hi).length ≤ xs.length := by
  unfold cutD
  rw [List.length_take, List.length_drop]
  omega
theorem rpa_cut {K : PySem.W.Frag} {G : Hp} {vs : List V} {ds : List Dt} (r : RpA K G vs ds) (lo hi : Option Int) : RpA K G (cutV vs lo hi) (cutD ds lo hi) := by
  unfold cutV cutD
  rw [r.len]
  exact (r.drop _).take _
theorem cut_whole {α : Type} {xs : List α} {lo hi : Option Int} (h : HT.sIx xs.length 0 lo = 0 ∧ HT.sIx xs.length xs.length hi = xs.length) : cutD xs lo hi = xs := by
  unfold cutD
  rw [h.1, h.2, List.drop_zero, Nat.sub_zero, List.take_length]
/-- t[lo:hi] of a tuple -/
theorem dw_slT {lo hi : Option Expr} {p2 : Pos} (h : DW X B E a fun d => ∃ l, d = .tup l ∧ DO X B E lo fun i => DO X B E hi fun j => Φ (.tup (cutD l i j))) : DW X B E (.Subscript a (.Slice lo hi none p2) pos) Φ := fun σ G H Q S q =>
  fE (pe_slice sl_tupA qE qO qO) (h σ G H _ S fun v d G1 H1 S1 x1 r1 f1 => by
    obtain ⟨l, rfl, f1⟩ := f1
    refine f1 σ G1 H1 _ S1 fun i G2 H2 S2 x2 f2 => ?_
    refine f2 σ G2 H2 _ S2 fun j G3 H3 S3 x3 f3 => ?_
    cases (r1.le x2.gg).le x3.gg with
    | @tup a0 xs0 _ h z r =>
      refine ⟨_, _, rfl, SqT.of (S3.cln.sub _ _ h), fun hw => ?_, fun _ p hp => ?_⟩
      · rw [r.len] at hw
        have f3 : Φ (.tup (cutD l i j)) := f3
        rw [cut_whole hw] at f3
        exact q _ _ G3 H3 S3 ((x1.tr x2).tr x3) (.tup h z r) f3
      · have g := Grow.one (o := .tup (cutV xs0 i j)) S3.cln hp (fun ps e => by cases e)
        exact q _ _ _ _ (S3.grow g) (((x1.tr x2).tr x3).tr g.ext) (.tup upd_same (Nat.le_trans (cutD_len _ _ _) z) ((rpa_cut r i j).le g.gg)) f3)
/-- xs[lo:hi] of a list -/
theorem dn_slL {lo hi : Option Expr} {p2 : Pos} {Ψ : List Dt → Prop} (h : DW X B E a fun d => ∃ l, d = .lst l ∧ DO X B E lo fun i => DO X B E hi fun j => Ψ (cutD l i j)) : DN X B E (.Subscript a (.Slice lo hi none p2) pos) Ψ := fun σ G H Q S q =>
  fE (pe_slice sl_list qE qO qO) (h σ G H _ S fun v d G1 H1 S1 x1 r1 f1 => by
    obtain ⟨l, rfl, f1⟩ := f1
    refine f1 σ G1 H1 _ S1 fun i G2 H2 S2 x2 f2 => ?_
    refine f2 σ G2 H2 _ S2 fun j G3 H3 S3 x3 f3 => ?_
    cases (r1.le x2.gg).le x3.gg with
    | lst h z r => exact ⟨_, _, rfl, SqL.of (S3.cln.sub _ _ h), fun p hp => q p _ _ G3 H3 S3 ((x1.tr x2).tr x3) hp (rpa_cut r i j) (Nat.le_trans (cutD_len _ _ _) z) f3⟩)
/-- .. of the script -/
theorem dn_slS {lo hi : Option Expr} {p2 : Pos} {Ψ : List Dt → Prop} (h : DW X B E a fun d => ∃ l : List Int, d = .scr l ∧ l.length ≤ 1000 ∧ DO X B E lo fun i => DO X B E hi fun j => Ψ ((cutD l i j).map .int)) : DN X B E (.Subscript a (.Slice lo hi none p2) pos) Ψ := fun σ G H Q S q =>
  fE (pe_slice sl_list qE qO qO) (h σ G H _ S fun v d G1 H1 S1 x1 r1 f1 => by
    obtain ⟨l, rfl, hz, f1⟩ := f1
    refine f1 σ G1 H1 _ S1 fun i G2 H2 S2 x2 f2 => ?_
    refine f2 σ G2 H2 _ S2 fun j G3 H3 S3 x3 f3 => ?_
    cases (r1.le x2.gg).le x3.gg with
    | scr h =>
      refine ⟨_, _, rfl, seqL_le S3.cln.sub h, fun p hp => q p _ _ G3 H3 S3 ((x1.tr x2).tr x3) hp ?_ ?_ f3⟩
      · have e : cutV (l.map V.int) i j = (cutD l i j).map V.int := by
          unfold cutV cutD
          rw [List.length_map, ← List.map_drop, ← List.map_take]
        rw [e]
        exact ints_rpa _
      · rw [List.length_map]
        exact Nat.le_trans (cutD_len _ _ _) (Nat.le_trans hz (by decide)))
/-- xs[::-1] of a list -/
theorem dn_revL {k : Nat} {p1 p2 p3 : Pos} {Ψ : List Dt → Prop} (h : DW X B E e fun d => ∃ l, d = .lst l ∧ Ψ l.reverse) : DN X B E (.Subscript e (.Slice none none (some (.UnaryOp .USub (.Constant (.int 1) k p1) p2)) p3) pos) Ψ := fun σ G H Q S q =>
  fE (pe_revL qE) (h σ G H _ S fun v d G1 H1 S1 x1 r1 f1 => by
    obtain ⟨l, rfl, f1⟩ := f1
    cases r1 with
    | lst h z r => exact ⟨_, _, rfl, SqL.of (S1.cln.sub _ _ h), fun p hp => q p _ _ G1 H1 S1 x1 hp r.rev (by rw [List.length_reverse]; exact z) f1⟩)
/-! ### joins -/
theorem dn_cat {Ψ : List Dt → Prop} (h : DW X B E a fun d1 => DW X B E b fun d2 => ∃ l m, d1 = .lst l ∧ d2 = .lst m ∧ l.length + m.length ≤ sizeLine ∧ Ψ (l ++ m)) : DN X B E (.BinOp a .Add b pos) Ψ := fun σ G H Q S q =>
  fE (pe_op op_cat qE qE) (h σ G H _ S fun v d G1 H1 S1 x1 r1 f1 => f1 σ G1 H1 _ S1 fun u d2 G2 H2 S2 x2 r2 f2 => by
    obtain ⟨l, m, rfl, rfl, z, f⟩ := f2
    cases r1.le x2.gg with
    | lst h1 z1 r1 => cases r2 with
      | lst h2 z2 r2 => exact ⟨_, _, _, _, rfl, rfl, S2.cln.sub _ _ h1, S2.cln.sub _ _ h2, by rw [r1.len, r2.len]; exact z, fun p hp => q p _ _ G2 H2 S2 (x1.tr x2) hp (r1.app r2) (by rw [List.length_append]; exact z) f⟩)
abbrev catTK : Dt → Dt → (Dt → Prop) → Prop
  | .tup l, .tup m, Φ => l.length + m.length ≤ sizeLine ∧ Φ (.tup (l ++ m))
  | _, _, _ => False
theorem ok_catT : OkR X (rCatA X.K) catTK := fun B E σ G H x y d1 d2 Φ Q S r1 r2 k q => by
  unfold catTK at k
  split at k
  · obtain ⟨z, f⟩ := k
    cases r1 with
    | @tup a1 xs1 _ h1 z1 r1 => cases r2 with
      | @tup a2 xs2 _ h2 z2 r2 =>
        refine ⟨_, _, _, _, rfl, rfl, SqT.of (S.cln.sub _ _ h1), SqT.of (S.cln.sub _ _ h2), by rw [r1.len, r2.len]; exact z, fun e => ?_, fun _ e => ?_, fun _ _ p hp => ?_⟩
        · subst e
          cases r1
          exact q _ _ G H (Grow.rf S.cln) (.tup h2 z2 r2) f
        · subst e
          cases r2
          rw [List.append_nil] at f
          exact q _ _ G H (Grow.rf S.cln) (.tup h1 z1 r1) f
        · have g := Grow.one (o := .tup (xs1 ++ xs2)) S.cln hp (fun ps e => by cases e)
          exact q _ _ _ _ g (.tup upd_same (by rw [List.length_append]; exact z) ((r1.app r2).le g.gg)) f
  · exact k.elim
theorem dw_catT (h : DW X B E a fun d1 => DW X B E b fun d2 => catTK d1 d2 Φ) : DW X B E (.BinOp a .Add b pos) Φ := dw_bin op_catA ok_catT h
/-- t < u of tuples of ints -/
theorem rp_tints {K : PySem.W.Frag} {G H : Hp} {v : V} {ns : List Int} (c : Cln G H) (r : Rp K G v (.tup (ns.map Dt.int))) : ∃ a, v = .ref a ∧ SqT K H a (ns.map V.int) := by
  cases r with
  | tup h z r => exact ⟨_, rfl, by rw [← rpa_ints r]; exact SqT.of (c.sub _ _ h)⟩
abbrev ltTK : Dt → Dt → (Dt → Prop) → Prop := fun d1 d2 Φ => ∃ ns ms : List Int, d1 = .tup (ns.map .int) ∧ d2 = .tup (ms.map .int) ∧ Φ (.bl (HT.lexLt ns ms))
theorem ok_ltT : OkR X (rLtT X.K) ltTK := fun B E σ G H x y d1 d2 Φ Q S r1 r2 k q => by
  obtain ⟨ns, ms, rfl, rfl, f⟩ := k
  obtain ⟨a, rfl, h1⟩ := rp_tints S.cln r1
  obtain ⟨b, rfl, h2⟩ := rp_tints S.cln r2
  exact ⟨a, b, ns, ms, rfl, rfl, h1, h2, q _ _ G H (Grow.rf S.cln) (.bl _) f⟩
theorem dw_ltT (hu : X.A.units < cLine) (h : DW X B E a fun d1 => DW X B E b fun d2 => ltTK d1 d2 Φ) : DW X B E (.Compare a [.Lt] [b] pos) Φ := dw_cmp (op_ltT hu) ok_ltT (nomark b) h
theorem dt_ltT {Ψ : Bool → Prop} (hu : X.A.units < cLine) (h : DW X B E a fun d1 => DW X B E b fun d2 => ltTK d1 d2 fun d => ∃ z, d = .bl z ∧ Ψ z) : DT X B E (.Compare a [.Lt] [b] pos) Ψ := dt_cmp (op_ltT hu) ok_ltT (nomark b) h
/-! ### fields -/
theorem rpf_look {K : PySem.W.Frag} {G : Hp} {f : Str} : ∀ {fs : List (Str × V)} {ds : List (Str × Dt)} {d : Dt}, RpF K G fs ds → ds.lookup f = some d → ∃ v, fs.lookup f = some v ∧ Rp K G v d
  | _, _, _, .nil, h => by cases h
  | _, _, d, .cons (f := g) (v := v) (d := d0) r rs, h => by
    rw [List.lookup_cons] at h ⊢
    cases e : (f == g) with
    | true => rw [e] at h; cases h; exact ⟨v, rfl, r⟩
    | false => rw [e] at h; exact rpf_look rs h
theorem dw_fld {f : Str} {nm : Str} {ds : List (Str × Dt)} (hc : Cls X.K (He.ga X.K nm)) (hn : NoAttr X.K (He.ga X.K nm) f) (h : DW X B E e fun d => ∃ ds v, d = .obj nm ds ∧ ds.lookup f = some v ∧ Φ v) (hb : attributeBase e f X.env (eval e X.env) = eval e X.env := by rfl) : DW X B E (.Attribute e f pos) Φ := fun σ G H Q S q =>
  fE (pe_fld qE hb) (h σ G H _ S fun v d G1 H1 S1 x1 r1 f1 => by
    obtain ⟨ds, w, rfl, hl, f1⟩ := f1
    cases r1 with
    | obj hi rf =>
      obtain ⟨u, hu, ru⟩ := rpf_look rf hl
      exact ⟨_, _, _, _, u, rfl, S1.cln.sub _ _ hi, hc, hn, hu, q u w G1 H1 S1 x1 ru f1⟩)
end
end N
set_option Elab.async false
set_option linter.all false
set_option maxRecDepth 100000
set_option maxHeartbeats 1000000
/-! DJ: what else is walked: zip of three tuples, enumerate of a tuple. -/
namespace N
open PySem
open PySem.Spec
open PyProof.Rows
open L2

/-- the tuples at a, b, c, their items in new triples -/
def ItZ3 (K : PySem.W.Frag) (a b c : Addr) (xs ys zs : List V) (n : Nat) : It :=
  ⟨fun i H => SqT K H a xs ∧ SqT K H b ys ∧ SqT K H c zs ∧ n = min (min xs.length ys.length) zs.length ∧ i < n,
    fun i H v H' => ∃ T x y z, v = .ref T ∧ H T = none ∧ H' = upd H T (.tup [x, y, z]) ∧ xs[i]? = some x ∧ ys[i]? = some y ∧ zs[i]? = some z,
    fun i H => SqT K H a xs ∧ SqT K H b ys ∧ SqT K H c zs ∧ n = min (min xs.length ys.length) zs.length ∧ n ≤ i⟩
theorem iter_at {h h' : Heap} {i t : Addr} {n : Nat} (x : h.IsTupleIter i t n) (k : ∀ o, h.get? i = some o → h'.get? i = some o) : h'.IsTupleIter i t n := x.at k
theorem turn_z3 {P : Program} {w : World} {K : PySem.W.Frag} {elts : List Expr} {kk : Nat} {tp : Pos} {a b c z TI TO i1 i2 i3 : Addr} {xs ys zs : List V} {n : Nat} (S : ZipSep3 z TI TO i1 i2 i3 [i1, a] [i2, b] [i3, c]) (n1 : a ≠ i1) (n2 : b ≠ i2) (n3 : c ≠ i3) :
    Turn P w K (.Tuple elts kk tp) (ItZ3 K a b c xs ys zs n) [z, TI, TO, i1, i2, i3] z (fun i h => i ≤ n ∧ IsZip h z TI TO .none ∧ IsTupOf3 h TI (.ref i1) (.ref i2) (.ref i3) ∧ (∃ a1 a2 a3, IsTupOf3 h TO a1 a2 a3) ∧ h.IsTupleIter i1 a i ∧ h.IsTupleIter i2 b i ∧ h.IsTupleIter i3 c i) where
  mem := by simp
  obj := fun i h st q hq => by
    obtain ⟨_, hz, hTI, ⟨x, y, u, hTO⟩, ⟨o1, e1, _, d1⟩, ⟨o2, e2, _, d2⟩, ⟨o3, e3, _, d3⟩⟩ := st
    have e' : q = z ∨ q = TI ∨ q = TO ∨ q = i1 ∨ q = i2 ∨ q = i3 := by simpa using hq
    rcases e' with r | r | r | r | r | r
    · rw [r]; exact ⟨_, hz, fun v q => nomatch q⟩
    · rw [r]; exact ⟨_, hTI, fun v q => nomatch q⟩
    · rw [r]; exact ⟨_, hTO, fun v q => nomatch q⟩
    · rw [r]; exact ⟨o1, e1, fun v q => by rw [d1] at q; cases q⟩
    · rw [r]; exact ⟨o2, e2, fun v q => by rw [d2] at q; cases q⟩
    · rw [r]; exact ⟨o3, e3, fun v q => by rw [d3] at q; cases q⟩
  keep := fun i h h' st k => by
    obtain ⟨hi, hz, hTI, ⟨x, y, u, hTO⟩, h1, h2, h3⟩ := st
    exact ⟨hi, k z (by simp) _ hz, k TI (by simp) _ hTI, ⟨x, y, u, k TO (by simp) _ hTO⟩, h1.at fun o q => k i1 (by simp) o q, h2.at fun o q => k i2 (by simp) o q, h3.at fun o q => k i3 (by simp) o q⟩
  item := by
    intro X hP hw hK hc i pins s σ H E I hf st hg
    subst hP hw hK
    obtain ⟨hi, hz, hTI, hTO, h1, h2, h3⟩ := st
    obtain ⟨q1, q2, q3, en, hlt⟩ := hg
    obtain ⟨its1, r1, p1, _⟩ := I.tuple q1
    obtain ⟨its2, r2, p2, _⟩ := I.tuple q2
    obtain ⟨its3, r3, p3, _⟩ := I.tuple q3
    have hd : X.A.in1.handled = none := I.ok.hd hc
    have W := GoesN.zip3 (prog := X.prog) (w := X.w) (A := X.A) (elts := elts) (x1 := kk) (pos := tp) S (Draws.tuple hd i1 a n1 its1.toArray) (Draws.tuple hd i2 b n2 its2.toArray) (Draws.tuple hd i3 c n3 its3.toArray)
    have l1 := r1.length
    have l2 := r2.length
    have l3 := r3.length
    refine W.goes i s _ E (by simp only [List.size_toArray]; omega) ⟨hz, hTI, hTO, ⟨h1, p1⟩, ⟨h2, p2⟩, ⟨h3, p3⟩⟩ ?_
    intro v h' tk hY st' hk htk
    obtain ⟨T, x, y, u, rfl, hT, hx, hy, hu, hTup⟩ := hY
    obtain ⟨hz', hTI', hTO', ⟨h1', _⟩, ⟨h2', _⟩, ⟨h3', _⟩⟩ := st'
    have g1 : i < xs.length := by omega
    have g2 : i < ys.length := by omega
    have g3 : i < zs.length := by omega
    obtain ⟨x', hx', rx⟩ := r1.get (List.getElem?_eq_getElem g1)
    obtain ⟨y', hy', ry⟩ := r2.get (List.getElem?_eq_getElem g2)
    obtain ⟨u', hu', ru⟩ := r3.get (List.getElem?_eq_getElem g3)
    have ex : x' = x := Option.some.inj (hx'.symm.trans (by simpa using hx))
    have ey : y' = y := Option.some.inj (hy'.symm.trans (by simpa using hy))
    have eu : u' = u := Option.some.inj (hu'.symm.trans (by simpa using hu))
    subst ex ey eu
    have new : ObjOk X.prog X.w (upd H T (.tup [xs[i], ys[i], zs[i]])) h' T (.tup [xs[i], ys[i], zs[i]]) :=
      ⟨by show 3 ≤ sizeLine; decide, [x', y', u'], .cons rx (.cons ry (.cons ru .nil)), hTup⟩
    have I1 : Inv X pins σ (upd H T (.tup [xs[i], ys[i], zs[i]])) { s with heap := h', toks := tk } :=
      I.turnedNew (ch := [z, TO, i1, i2, i3]) (fun q o hb e => hk q o hb e) (fun q hq => hf q (by
        have e' : q = z ∨ q = TO ∨ q = i1 ∨ q = i2 ∨ q = i3 := by simpa using hq
        rcases e' with r | r | r | r | r <;> rw [r] <;> simp)) hT new
    refine ⟨.ref T, _, I1, rfl, ⟨T, xs[i], ys[i], zs[i], rfl, I.hok.fresh hT, rfl, List.getElem?_eq_getElem g1, List.getElem?_eq_getElem g2, List.getElem?_eq_getElem g3⟩, ⟨by omega, hz', hTI', hTO', h1', h2', h3'⟩, fun q hq => ?_⟩
    have hlt' : q < s.heap.objs.size := by
      obtain ⟨_, hT0⟩ := hTO
      have e' : q = z ∨ q = TI ∨ q = TO ∨ q = i1 ∨ q = i2 ∨ q = i3 := by simpa using hq
      rcases e' with r | r | r | r | r | r
      · rw [r]; exact Heap.lt_size hz
      · rw [r]; exact Heap.lt_size hTI
      · rw [r]; obtain ⟨_, _, hT1⟩ := hT0; exact Heap.lt_size hT1
      · rw [r]; obtain ⟨_, e1, _⟩ := h1; exact Heap.lt_size e1
      · rw [r]; obtain ⟨_, e1, _⟩ := h2; exact Heap.lt_size e1
      · rw [r]; obtain ⟨_, e1, _⟩ := h3; exact Heap.lt_size e1
    rw [upd_ne (Nat.ne_of_lt (Nat.lt_of_lt_of_le hlt' hT))]
    exact (hf q hq).1
  done := by
    intro X hP hw hK hc i pins s σ H E I hf st hg
    subst hP hw hK
    obtain ⟨hi, hz, hTI, hTO, h1, h2, h3⟩ := st
    obtain ⟨q1, q2, q3, en, hle⟩ := hg
    obtain ⟨its1, r1, p1, _⟩ := I.tuple q1
    obtain ⟨its2, r2, p2, _⟩ := I.tuple q2
    obtain ⟨its3, r3, p3, _⟩ := I.tuple q3
    have hd : X.A.in1.handled = none := I.ok.hd hc
    have W := GoesN.zip3 (prog := X.prog) (w := X.w) (A := X.A) (elts := elts) (x1 := kk) (pos := tp) S (Draws.tuple hd i1 a n1 its1.toArray) (Draws.tuple hd i2 b n2 its2.toArray) (Draws.tuple hd i3 c n3 its3.toArray)
    have l1 := r1.length
    have l2 := r2.length
    have l3 := r3.length
    have e : i = min (min its1.toArray.size its2.toArray.size) its3.toArray.size := by simp only [List.size_toArray]; omega
    subst e
    refine W.stops s _ E ⟨hz, hTI, hTO, ⟨h1, p1⟩, ⟨h2, p2⟩, ⟨h3, p3⟩⟩ fun h' tk hk htk => ?_
    exact I.turnedL (ch := [z, TO, i1, i2, i3]) (fun q o hb e => hk q o hb e) (fun q hq => hf q (by
        have e' : q = z ∨ q = TO ∨ q = i1 ∨ q = i2 ∨ q = i3 := by simpa using hq
        rcases e' with r | r | r | r | r <;> rw [r] <;> simp))
  self := fun A i s Q E st q => wpAny_pyIter_zip st.2.1 q
/-- the tuple at a, each item in a new pair -/
def ItE (K : PySem.W.Frag) (a : Addr) (xs : List V) : It :=
  ⟨fun i H => SqT K H a xs ∧ i < xs.length, fun i H v H' => ∃ T x, v = .ref T ∧ H T = none ∧ H' = upd H T (.tup [.int (i : Nat), x]) ∧ xs[i]? = some x, fun i H => SqT K H a xs ∧ xs.length ≤ i⟩
theorem turn_eT {P : Program} {w : World} {K : PySem.W.Frag} {elts : List Expr} {kk : Nat} {tp : Pos} {a e it : Addr} {xs : List V} (hne : e ≠ it) (hea : e ≠ a) (hai : a ≠ it) :
    Turn P w K (.Tuple elts kk tp) (ItE K a xs) [e, it] e (fun i h => i ≤ xs.length ∧ (∃ old, IsEnum h e it (0 + (i : Int)) old) ∧ h.IsTupleIter it a i) where
  mem := by simp
  obj := fun i h st q hq => by
    obtain ⟨_, ⟨old, he⟩, ⟨o1, e1, _, d1⟩⟩ := st
    have e' : q = e ∨ q = it := by simpa using hq
    rcases e' with r | r
    · rw [r]; exact ⟨_, he, fun v q => nomatch q⟩
    · rw [r]; exact ⟨o1, e1, fun v q => by rw [d1] at q; cases q⟩
  keep := fun i h h' st k => by
    obtain ⟨hi, ⟨old, he⟩, h1⟩ := st
    exact ⟨hi, ⟨old, k e (by simp) _ he⟩, h1.at fun o q => k it (by simp) o q⟩
  item := by
    intro X hP hw hK hc i pins s σ H E I hf st hg
    subst hP hw hK
    obtain ⟨hi, he, h1⟩ := st
    obtain ⟨q1, hlt⟩ := hg
    obtain ⟨its1, r1, p1, _⟩ := I.tuple q1
    have hd : X.A.in1.handled = none := I.ok.hd hc
    have W := GoesN.enumFrom (prog := X.prog) (w := X.w) (A := X.A) (elts := elts) (x1 := kk) (pos := tp) 0 (Draws.tuple hd it a hai its1.toArray) e hne (by simp only [List.mem_cons, List.not_mem_nil, or_false, not_or]; exact ⟨hne, hea⟩) (by simp)
    have l1 := r1.length
    refine W.goes i s _ E (by simp only [List.size_toArray]; omega) ⟨he, h1, p1⟩ ?_
    intro v h' tk hY st' hk htk
    obtain ⟨T, t, x, rfl, hT, hx, hTup⟩ := hY
    obtain ⟨he', h1', _⟩ := st'
    obtain ⟨x', hx', rx⟩ := r1.get (List.getElem?_eq_getElem hlt)
    have ex : x' = x := Option.some.inj (hx'.symm.trans (by simpa using hx))
    subst ex
    have new : ObjOk X.prog X.w (upd H T (.tup [.int (i : Nat), xs[i]])) h' T (.tup [.int (i : Nat), xs[i]]) :=
      ⟨by show 2 ≤ sizeLine; decide, [.int (0 + (i : Int)) t, x'], .cons ⟨t, by rw [Int.zero_add]⟩ (.cons rx .nil), hTup⟩
    have I1 : Inv X pins σ (upd H T (.tup [.int (i : Nat), xs[i]])) { s with heap := h', toks := tk } := I.turnedNew (ch := [e, it]) (fun q o hb z => hk q o hb z) hf hT new
    refine ⟨.ref T, _, I1, rfl, ⟨T, xs[i], rfl, I.hok.fresh hT, rfl, List.getElem?_eq_getElem hlt⟩, ⟨by omega, he', h1'⟩, fun q hq => ?_⟩
    have hlt' : q < s.heap.objs.size := by
      have e' : q = e ∨ q = it := by simpa using hq
      rcases e' with r | r
      · rw [r]; obtain ⟨_, h0⟩ := he; exact Heap.lt_size h0
      · rw [r]; obtain ⟨_, e1, _⟩ := h1; exact Heap.lt_size e1
    rw [upd_ne (Nat.ne_of_lt (Nat.lt_of_lt_of_le hlt' hT))]
    exact (hf q hq).1
  done := by
    intro X hP hw hK hc i pins s σ H E I hf st hg
    subst hP hw hK
    obtain ⟨hi, he, h1⟩ := st
    obtain ⟨q1, hle⟩ := hg
    obtain ⟨its1, r1, p1, _⟩ := I.tuple q1
    have hd : X.A.in1.handled = none := I.ok.hd hc
    have W := GoesN.enumFrom (prog := X.prog) (w := X.w) (A := X.A) (elts := elts) (x1 := kk) (pos := tp) 0 (Draws.tuple hd it a hai its1.toArray) e hne (by simp only [List.mem_cons, List.not_mem_nil, or_false, not_or]; exact ⟨hne, hea⟩) (by simp)
    have l1 := r1.length
    have e0 : i = its1.toArray.size := by simp only [List.size_toArray]; omega
    subst e0
    refine W.stops s _ E ⟨he, h1, p1⟩ fun h' tk hk htk => ?_
    exact I.turnedL (ch := [e, it]) (fun q o hb z => hk q o hb z) hf
  self := fun A i s Q E st q => wpAny_pyIter_enum st.2.1.choose_spec q
section
variable {X : Cx} {B : Bd} {E : Ev} {a b c : Expr} {Φ : List Dt → Prop} {p pos : Pos}
def iZ3 (K : PySem.W.Frag) (ta : TA) : TI := fun σ H R => ta σ H fun vs H1 => ∃ a b c xs ys zs, vs = [.ref a, .ref b, .ref c] ∧ SqT K H1 a xs ∧ SqT K H1 b ys ∧ SqT K H1 c zs ∧ R (ItZ3 K a b c xs ys zs (min (min xs.length ys.length) zs.length)) H1
theorem pi_z3 {e1 e2 e3 : Expr} {ta : TA} {elts : List Expr} {kk : Nat} {tp : Pos} (hg : Gl X "zip") (hm : X.mg "zip" = none) (ha : PA X [e1, e2, e3] ta) (hs : starEach [e1, e2, e3] X.env = (false, eval e1 X.env) :: starEach [e2, e3] X.env := by rfl)
    (hp : (backTo pos (starEach [e2, e3] X.env)).any (·.1) = false := by rfl) : PI X (.Tuple elts kk tp) (.Call (.Name "zip" p) [e1, e2, e3] [] pos) (iZ3 X.K ta) := by
  refine ⟨fun pins s σ H R I h => ?_⟩
  refine Call_ (ld_blt I hg hm boot_zip (callWith_type1 (thn (ha.run pos pins s σ H _ I h) fun us s1 ⟨vs, H1, I1, r1, q1⟩ => ?_) hs hp))
  obtain ⟨a, b, c, xs, ys, zs, rfl, k1, k2, k3, q⟩ := q1
  cases r1 with
  | cons r rr => cases rr with
    | cons r' rr => cases rr with
      | cons r'' rr =>
        cases rr; cases r; cases r'; cases r''
        obtain ⟨its1, v1, p1, _⟩ := I1.tuple k1
        obtain ⟨its2, v2, p2, _⟩ := I1.tuple k2
        obtain ⟨its3, v3, p3, _⟩ := I1.tuple k3
        have s1a : a < s1.heap.objs.size := by obtain ⟨_, h0, _⟩ := p1; exact Heap.lt_size h0
        have s1b : b < s1.heap.objs.size := by obtain ⟨_, h0, _⟩ := p2; exact Heap.lt_size h0
        have s1c : c < s1.heap.objs.size := by obtain ⟨_, h0, _⟩ := p3; exact Heap.lt_size h0
        refine zip_begins3 (begins_tuple a its1.toArray) (begins_tuple b its2.toArray) (begins_tuple c its3.toArray) p1 p2 p3 fun h' hz hTI hTO g1 g2 g3 hsz hk => wpAny_pyIter_zip hz ?_
        have I2 : Inv X pins σ H1 { s1 with heap := h' } := I1.kept (t' := s1.toks) hk
        refine ⟨s1.heap.objs.size + 5, [s1.heap.objs.size + 5, s1.heap.objs.size + 3, s1.heap.objs.size + 4, s1.heap.objs.size, s1.heap.objs.size + 1, s1.heap.objs.size + 2], _, _, H1, rfl, I2,
          turn_z3 (zip_sep3 (N := s1.heap.objs.size) (fp1 := [a]) (fp2 := [b]) (fp3 := [c]) (by simpa using s1a) (by simpa using s1b) (by simpa using s1c)) (Nat.ne_of_lt s1a) (Nat.ne_of_lt (Nat.lt_succ_of_lt s1b)) (Nat.ne_of_lt (Nat.lt_succ_of_lt (Nat.lt_succ_of_lt s1c))),
          ⟨Nat.zero_le _, hz, hTI, ⟨_, _, _, hTO⟩, ⟨_, g1, rfl, rfl⟩, ⟨_, g2, rfl, rfl⟩, ⟨_, g3, rfl, rfl⟩⟩, fun q hq => ?_, q⟩
        have hle : s1.heap.objs.size ≤ q := by
          have e' : q = s1.heap.objs.size + 5 ∨ q = s1.heap.objs.size + 3 ∨ q = s1.heap.objs.size + 4 ∨ q = s1.heap.objs.size ∨ q = s1.heap.objs.size + 1 ∨ q = s1.heap.objs.size + 2 := by simpa using hq
          rcases e' with r | r | r | r | r | r <;> rw [r] <;> first | exact Nat.le_refl _ | exact Nat.le_add_right _ _
        exact I1.fpOk hle (I1.hok.fresh hle)
end
open AutoSeq1 (wpAny_loadPart') in
theorem enumT_new (l : Addr) (items : Array Value) (n : Nat) (dct : Option Addr) (sl : Array (Option Value)) :
    Meets (Builtin.«enumerate.__new__» ⟨[.type "enumerate", .ref l], []⟩) (fun _ R s => s.heap.get? l = some { cls := .type "tuple", dict := dct, data := .seq items n, slots := sl } ∧
      R (.ok (.ret (.ref (s.heap.push { cls := .type "tuple_iterator", data := .fields #[.ref l, .int 0 0] }).objs.size)))
        { s with heap := (s.heap.push { cls := .type "tuple_iterator", data := .fields #[.ref l, .int 0 0] }).push { cls := .type "enumerate", data := .fields #[.none, .bool false, .ref s.heap.objs.size, rawInt 0, .none, .none] } }) :=
  .of_wp fun prog w A R s h => by
    obtain ⟨hp, g, d, tk, os⟩ := s
    obtain ⟨hl, h⟩ := h
    have hsub := sub_enumerate
    have hT : Heap.IsTuple (Shared.heap ⟨hp, g, d, tk, os⟩) l items := ⟨_, hl, rfl, n, rfl⟩
    wp_walk using wpAny_loadPart' hl
    refine wpAny_stack_any fun st => wpAny_pure ?_
    split
    · rename_i c _ _ _ _ _
      cases (c == Value.type "enumerate")
      · wp_walk using wpAny_loadPart' hl, wpAny_pyIter_tuple hT
        exact ⟨_, rfl, h⟩
      · wp_walk using wpAny_loadPart' hl, wpAny_pyIter_tuple hT
        exact ⟨_, rfl, h⟩
    · wp_walk using wpAny_loadPart' hl, wpAny_pyIter_tuple hT
      exact ⟨_, rfl, h⟩
theorem call_enumT {prog : Program} {w : World} {A : Around} {E : Value → Shared → Prop} {s : Shared} {l : Addr} {items : Array Value} {Q : Value → Shared → Prop} (hL : s.heap.IsTuple l items)
    (h : ∀ h', IsEnum h' (s.heap.objs.size + 1) s.heap.objs.size 0 .none → h'.IsTupleIter s.heap.objs.size l 0 → (∀ b o, s.heap.get? b = some o → h'.get? b = some o) → Q (.ref (s.heap.objs.size + 1)) { s with heap := h' }) :
    wpAny (model prog w) A (call (.type "enumerate") [.ref l]) Q E s := by
  obtain ⟨⟨c, dct, dt, sl⟩, hl, hc, n, hd⟩ := hL
  replace hc : c = .type "tuple" := hc
  replace hd : dt = .seq items n := hd
  subst hc hd
  refine callType_new F.called_enumerate (by decide) (F.typeCall_enumerate_1 _) (F.newCall_enumerate_1 _) (fun obj => F.args_object_init_2 obj _) F.entry_enumerate_new (enumT_new l items n dct sl) ⟨hl, ?_⟩
  generalize ho : ({ cls := .type "tuple_iterator", data := .fields #[.ref l, .int 0 0] } : Obj) = o1
  have hz : (s.heap.push o1).objs.size = s.heap.objs.size + 1 := Heap.size_push ..
  show _ ∧ _
  rw [hz]
  have g0 : (s.heap.push o1).get? s.heap.objs.size = some o1 := Heap.get?_push_size _ (by rw [← ho]; rfl)
  generalize he : ({ cls := .type "enumerate", data := .fields #[.none, .bool false, .ref s.heap.objs.size, rawInt 0, .none, .none] } : Obj) = o2
  have g1 : ((s.heap.push o1).push o2).get? (s.heap.objs.size + 1) = some o2 := by
    have q := Heap.get?_push_size (s.heap.push o1) (o := o2) (by rw [← he]; rfl)
    rw [hz] at q; exact q
  have hE : IsEnum ((s.heap.push o1).push o2) (s.heap.objs.size + 1) s.heap.objs.size 0 .none := by rw [← he] at g1 ⊢; exact g1
  exact ⟨⟨_, g1, by rw [← he]⟩, h _ hE ⟨_, Heap.get?_push_of_some _ g0, by rw [← ho], by rw [← ho]; rfl⟩ fun b o x => Heap.get?_push_of_some _ (Heap.get?_push_of_some _ x)⟩
section
variable {X : Cx} {B : Bd} {E : Ev} {a b c : Expr} {Φ : List Dt → Prop} {p pos : Pos}
def iE (K : PySem.W.Frag) (ta : TA) : TI := fun σ H R => ta σ H fun vs H1 => ∃ a xs, vs = [.ref a] ∧ SqT K H1 a xs ∧ R (ItE K a xs) H1
theorem pi_eT {e : Expr} {ta : TA} {elts : List Expr} {kk : Nat} {tp : Pos} (hg : Gl X "enumerate") (hm : X.mg "enumerate" = none) (ha : PA X [e] ta) (hs : starEach [e] X.env = [(false, eval e X.env)] := by rfl) : PI X (.Tuple elts kk tp) (.Call (.Name "enumerate" p) [e] [] pos) (iE X.K ta) := by
  refine ⟨fun pins s σ H R I h => ?_⟩
  refine Call_ (ld_blt I hg hm boot_enumerate (callWith_type1 (thn (ha.run pos pins s σ H _ I h) fun us s1 ⟨vs, H1, I1, r1, q1⟩ => ?_) hs rfl))
  obtain ⟨a, xs, rfl, k1, q⟩ := q1
  cases r1 with
  | cons r rr =>
    cases rr; cases r
    obtain ⟨its1, v1, p1, _⟩ := I1.tuple k1
    have s1a : a < s1.heap.objs.size := by obtain ⟨_, h0, _⟩ := p1; exact Heap.lt_size h0
    refine call_enumT p1 fun h' he hit hk => wpAny_pyIter_enum he ?_
    have I2 : Inv X pins σ H1 { s1 with heap := h' } := I1.kept (t' := s1.toks) hk
    refine ⟨s1.heap.objs.size + 1, [s1.heap.objs.size + 1, s1.heap.objs.size], _, _, H1, rfl, I2, turn_eT (Nat.succ_ne_self _) (Nat.ne_of_gt (Nat.lt_succ_of_lt s1a)) (Nat.ne_of_lt s1a), ⟨Nat.zero_le _, ⟨_, he⟩, hit⟩, fun q hq => ?_, q⟩
    have hle : s1.heap.objs.size ≤ q := by
      have e' : q = s1.heap.objs.size + 1 ∨ q = s1.heap.objs.size := by simpa using hq
      rcases e' with r | r <;> rw [r] <;> first | exact Nat.le_refl _ | exact Nat.le_add_right _ _
    exact I1.fpOk hle (I1.hok.fresh hle)
/-- the items of zip of three -/
def zip3D : List Dt → List Dt → List Dt → List Dt
  | x :: xs, y :: ys, z :: zs => .tup [x, y, z] :: zip3D xs ys zs
  | _, _, _ => []
theorem zip3D_len : ∀ xs ys zs : List Dt, (zip3D xs ys zs).length = min (min xs.length ys.length) zs.length
  | x :: xs, y :: ys, z :: zs => by
    show (zip3D xs ys zs).length + 1 = min (min (xs.length + 1) (ys.length + 1)) (zs.length + 1)
    rw [zip3D_len xs ys zs]; omega
  | [], _, _ => by simp [zip3D]
  | _ :: _, [], _ => by simp [zip3D]
  | _ :: _, _ :: _, [] => by simp [zip3D]
theorem zip3D_get : ∀ (xs ys zs : List Dt) (i : Nat) (d : Dt), (zip3D xs ys zs)[i]? = some d → ∃ x y z, xs[i]? = some x ∧ ys[i]? = some y ∧ zs[i]? = some z ∧ d = .tup [x, y, z]
  | x :: xs, y :: ys, z :: zs, 0, d, h => ⟨x, y, z, rfl, rfl, rfl, (Option.some.inj h).symm⟩
  | x :: xs, y :: ys, z :: zs, i + 1, d, h => zip3D_get xs ys zs i d h
  | [], _, _, i, d, h => by simp [zip3D] at h
  | _ :: _, [], _, i, d, h => by simp [zip3D] at h
  | _ :: _, _ :: _, [], i, d, h => by simp [zip3D] at h
theorem sv_z3 {K : PySem.W.Frag} {G : Hp} {a b c : Addr} {xs ys zs : List V} {ds es fs : List Dt} (h1 : G a = some (.tup xs)) (h2 : G b = some (.tup ys)) (h3 : G c = some (.tup zs)) (r1 : RpA K G xs ds) (r2 : RpA K G ys es) (r3 : RpA K G zs fs) :
    Sv K (ItZ3 K a b c xs ys zs (min (min xs.length ys.length) zs.length)) G (zip3D ds es fs) where
  go := fun i G' H d le cl hd => by
    obtain ⟨x, y, z, e1, e2, e3, rfl⟩ := zip3D_get _ _ _ _ _ hd
    obtain ⟨v1, k1, q1⟩ := r1.get e1
    obtain ⟨v2, k2, q2⟩ := r2.get e2
    obtain ⟨v3, k3, q3⟩ := r3.get e3
    have l1 := (List.getElem?_eq_some_iff.mp k1).1
    have l2 := (List.getElem?_eq_some_iff.mp k2).1
    have l3 := (List.getElem?_eq_some_iff.mp k3).1
    refine ⟨⟨SqT.of (cl.sub _ _ (le _ _ h1)), SqT.of (cl.sub _ _ (le _ _ h2)), SqT.of (cl.sub _ _ (le _ _ h3)), rfl, by omega⟩, fun v H' hy => ?_⟩
    obtain ⟨T, w1, w2, w3, rfl, nT, rfl, f1, f2, f3⟩ := hy
    have z1 := f1.symm.trans k1
    have z2 := f2.symm.trans k2
    have z3 := f3.symm.trans k3
    cases z1; cases z2; cases z3
    have g := Grow.one (o := .tup [v1, v2, v3]) cl nT (fun ps e => by cases e)
    exact ⟨_, g, .tup upd_same (show 3 ≤ sizeLine by decide) (.cons ((q1.le le).le g.gg) (.cons ((q2.le le).le g.gg) (.cons ((q3.le le).le g.gg) .nil)))⟩
  stop := fun i G' H le cl hl => by
    rw [zip3D_len, ← r1.len, ← r2.len, ← r3.len] at hl
    exact ⟨SqT.of (cl.sub _ _ (le _ _ h1)), SqT.of (cl.sub _ _ (le _ _ h2)), SqT.of (cl.sub _ _ (le _ _ h3)), rfl, hl⟩
theorem di_zip3 {elts : List Expr} {kk : Nat} {tp : Pos} (hm : X.mg "zip" = none) (h : DA X B E [a, b, c] fun ds => ∃ xs ys zs, ds = [.tup xs, .tup ys, .tup zs] ∧ Φ (zip3D xs ys zs)) (hg : Gl X "zip" := by rfl)
    (hs : starEach [a, b, c] X.env = (false, eval a X.env) :: starEach [b, c] X.env := by rfl) (hp : (backTo pos (starEach [b, c] X.env)).any (·.1) = false := by rfl) : DI X B E (.Tuple elts kk tp) (.Call (.Name "zip" p) [a, b, c] [] pos) Φ :=
  fun σ G H R S k => fI (pi_z3 hg hm qA hs hp) (h σ G H _ S fun vs ds G' H' S' x r f => by
    obtain ⟨xs, ys, zs, rfl, f⟩ := f
    cases r with
    | cons r0 r => cases r with
      | cons r1 r => cases r with
        | cons r2 r => cases r0 with
          | tup h0 z0 r0 => cases r1 with
            | tup h1 z1 r1 => cases r2 with
              | tup h2 z2 r2 =>
                cases r
                refine ⟨_, _, _, _, _, _, rfl, SqT.of (S'.cln.sub _ _ h0), SqT.of (S'.cln.sub _ _ h1), SqT.of (S'.cln.sub _ _ h2), k _ G' H' _ S' x (sv_z3 h0 h1 h2 r0 r1 r2) ?_ f⟩
                rw [zip3D_len]
                omega)
/-- the items of enumerate -/
def enumD (l : List Dt) : List Dt := l.zipIdx.map fun p => .tup [.int (p.2 : Nat), p.1]
theorem enumD_len (l : List Dt) : (enumD l).length = l.length := by unfold enumD; rw [List.length_map, List.length_zipIdx]
theorem enumD_get {l : List Dt} {i : Nat} {d : Dt} (h : (enumD l)[i]? = some d) : ∃ x, l[i]? = some x ∧ d = .tup [.int (i : Nat), x] := by
  unfold enumD at h
  rw [List.getElem?_map, List.getElem?_zipIdx] at h
  cases e : l[i]? with
  | none => rw [e] at h; cases h
  | some x =>
    rw [e] at h
    refine ⟨x, rfl, ?_⟩
    have q := (Option.some.inj h).symm
    simpa using q
theorem di_enum {elts : List Expr} {kk : Nat} {tp : Pos} (hm : X.mg "enumerate" = none) (h : DA X B E [a] fun ds => ∃ xs, ds = [.tup xs] ∧ Φ (enumD xs)) (hg : Gl X "enumerate" := by rfl) (hs : starEach [a] X.env = [(false, eval a X.env)] := by rfl) : DI X B E (.Tuple elts kk tp) (.Call (.Name "enumerate" p) [a] [] pos) Φ :=
  fun σ G H R S k => fI (pi_eT hg hm qA hs) (h σ G H _ S fun vs ds G' H' S' x r f => by
    obtain ⟨xs, rfl, f⟩ := f
    cases r with
    | cons r0 r =>
      cases r
      cases r0 with
      | @tup a0 vs0 _ h0 z0 r0 =>
        refine ⟨_, _, rfl, SqT.of (S'.cln.sub _ _ h0), k _ G' H' _ S' x ⟨fun i G2 H2 d le cl hd => ?_, fun i G2 H2 le cl hl => ?_⟩ (by rw [enumD_len]; exact z0) f⟩
        · obtain ⟨w, e1, rfl⟩ := enumD_get hd
          obtain ⟨v1, k1, q1⟩ := r0.get e1
          refine ⟨⟨SqT.of (cl.sub _ _ (le _ _ h0)), (List.getElem?_eq_some_iff.mp k1).1⟩, fun v H' hy => ?_⟩
          obtain ⟨T, w1, rfl, nT, rfl, f1⟩ := hy
          have z1 := f1.symm.trans k1
          cases z1
          have g := Grow.one (o := .tup [.int (i : Nat), v1]) cl nT (fun ps e => by cases e)
          exact ⟨_, g, .tup upd_same (show 2 ≤ sizeLine by decide) (.cons (.int _) (.cons ((q1.le le).le g.gg) .nil))⟩
        · rw [enumD_len, ← r0.len] at hl
          exact ⟨SqT.of (cl.sub _ _ (le _ _ h0)), hl⟩)
end
end N
set_option Elab.async false
set_option linter.all false
set_option maxRecDepth 100000
set_option maxHeartbeats 1000000
/-! DK: isinstance, dicts read, sorted, max with a default, isqrt, == and in of data, new instances. -/
namespace N
open PySem
open PySem.Spec
open PyProof.Rows
open L2

section
variable {X : Cx} {B : Bd} {E : Ev} {Φ : Dt → Prop} {e a b c : Expr} {es : List Expr} {pos p : Pos} {x : Str}
/-! ### isinstance -/
def tyN : Dt → Option String
  | .non => some "NoneType"
  | .bl _ => some "bool"
  | .int _ => some "int"
  | .str _ => some "str"
  | .lst _ => some "list"
  | .tup _ => some "tuple"
  | _ => none
theorem rp_ty {K : PySem.W.Frag} {G H : Hp} {v : V} {d : Dt} {n : String} (r : Rp K G v d) (cl : Cln G H) (h : tyN d = some n) : TyX K H v (.type n) := by
  cases r <;> first | cases h
  · exact .base .non
  · exact .base (.bl _)
  · exact .base (.int _)
  · exact .base (.str _)
  · rename_i h0 _ _; exact .base (.lst (cl.sub _ _ h0))
  · rename_i h0 _ _; exact .base (.tup (cl.sub _ _ h0))
def isiK : FT := fun ds Φ => ∃ d n T z, ds = [d, .raw (.ty T)] ∧ tyN d = some n ∧ kitB n T = some z ∧ Φ (.bl z)
theorem ok_isi : OkC X (rIsi X.K) isiK := fun B E σ G H vs ds Φ Q S r k q => by
  obtain ⟨d, n, T, z, rfl, hn, hz, f⟩ := k
  cases r with
  | cons r0 r => cases r with
    | cons r1 r =>
      cases r
      cases r1
      exact ⟨_, _, _, _, z, rfl, .ty T, rp_ty r0 S.cln hn, kit_ty hz, q _ _ G H (Grow.rf S.cln) (.bl z) f⟩
theorem dw_isi (hm : X.mg "isinstance" = none) (h : DA X B E [a, b] fun ds => isiK ds Φ) (hg : Gl X "isinstance" := by rfl) (he : starEach [a, b] X.env = (false, eval a X.env) :: starEach [b] X.env := by rfl) (hpl : (backTo pos (starEach [b] X.env)).any (·.1) = false := by rfl) :
    DW X B E (.Call (.Name "isinstance" p) [a, b] [] pos) Φ := dw_blt call_isi ok_isi hm (by decide +kernel) h hg (by decide) (by decide) he hpl
/-- a built-in type's name as a value -/
theorem dw_ty {T : String} (hm : X.mg x = none) (hv : bootBuiltins x = some (.type T)) (q : Φ (.raw (.ty T))) (hg : Gl X x := by rfl) (hn : x ≠ "__name__" := by decide) (hd : (x == ("__debug__" : Str)) = false := by decide) : DW X B E (.Name x pos) Φ := dw_bltn (v := .ty T) hg hm hv (show Value.type T = Value.type T from rfl) q hn hd
/-- isinstance(e, C) of an own class, of a value of a built-in type or of an instance of C -/
structure IsC (K : PySem.W.Frag) (nm : Str) : Prop where
  cl : Cls K (He.ga K nm)
  ha : PySem.W.findIn K (.ref (He.ga K nm)) "__class__" = some (some (.builtin "object.__class__"))
  hn : PySem.W.specialIn K (.builtin "object.__class__") "__get__" = some (some (.builtin "getset_descriptor.__get__"))
  tk : PySem.W.takesIn K (.builtin "object.__class__") = some true
  mo : PySem.W.mroIn K (He.ga K nm) (.type "object") = some true
  me : PySem.W.kitOne K (.ref (He.ga K nm)) (.ref (He.ga K nm)) = some true
  no : PySem.W.kitOne K (.type "NoneType") (.ref (He.ga K nm)) = some false
  tu : PySem.W.kitOne K (.type "tuple") (.ref (He.ga K nm)) = some false
def isCA (nm : Str) : Dt → Option Bool
  | .non => some false
  | .tup _ => some false
  | .obj m _ => if m = nm then some true else none
  | _ => none
def isCK (K : PySem.W.Frag) (nm : Str) : FT := fun ds Φ => ∃ d z, ds = [d, .raw (.ref (He.ga K nm))] ∧ isCA nm d = some z ∧ Φ (.bl z)
theorem ok_isC {nm : Str} (T : IsC X.K nm) : OkC X (rIsi X.K) (isCK X.K nm) := fun B E σ G H vs ds Φ Q S r k q => by
  obtain ⟨d, z, rfl, hz, f⟩ := k
  cases r with
  | cons r0 r => cases r with
    | cons r1 r =>
      cases r
      cases r1
      cases r0 with
      | non => cases hz; exact ⟨_, _, _, _, false, rfl, .own _, .base .non, T.no, q _ _ G H (Grow.rf S.cln) (.bl _) f⟩
      | tup h0 _ _ => cases hz; exact ⟨_, _, _, _, false, rfl, .own _, .base (.tup (S.cln.sub _ _ h0)), T.tu, q _ _ G H (Grow.rf S.cln) (.bl _) f⟩
      | @obj a0 dx m fs ds h0 _ =>
        have hz' : (if m = nm then some true else none) = some z := hz
        by_cases e : m = nm
        · rw [if_pos e] at hz'
          cases hz'
          subst e
          exact ⟨_, _, _, _, true, rfl, .own _, .base (.ins (S.cln.sub _ _ h0) T.cl T.ha T.hn T.tk T.mo), T.me, q _ _ G H (Grow.rf S.cln) (.bl _) f⟩
        · rw [if_neg e] at hz'
          cases hz'
      | bl _ => cases hz
      | int _ => cases hz
      | str _ => cases hz
      | lst _ _ _ => cases hz
      | dic _ _ => cases hz
      | raw _ => cases hz
      | scr _ => cases hz
theorem dw_isC {nm : Str} (T : IsC X.K nm) (hm : X.mg "isinstance" = none) (h : DA X B E [a, b] fun ds => isCK X.K nm ds Φ) (hg : Gl X "isinstance" := by rfl) (he : starEach [a, b] X.env = (false, eval a X.env) :: starEach [b] X.env := by rfl) (hpl : (backTo pos (starEach [b] X.env)).any (·.1) = false := by rfl) :
    DW X B E (.Call (.Name "isinstance" p) [a, b] [] pos) Φ := dw_blt call_isi (ok_isC T) hm (by decide +kernel) h hg (by decide) (by decide) he hpl
/-! ### d[k], d a dict with int keys -/
def lookD : List (Int × Dt) → Int → Option Dt
  | [], _ => none
  | (j, d) :: r, i => if j = i then some d else lookD r i
theorem rpd_look {K : PySem.W.Frag} {G : Hp} {i : Int} : ∀ {kvs : List (Key × V)} {ds : List (Int × Dt)} {d : Dt}, RpD K G kvs ds → lookD ds i = some d → ∃ v, valV kvs (.inl i : Key) = some v ∧ Rp K G v d
  | _, _, _, .nil, h => by cases h
  | _, _, d, .cons (i := j) (v := v) (d := d0) r rs, h => by
    unfold lookD at h
    by_cases e : j = i
    · rw [if_pos e] at h; cases h
      exact ⟨v, valV_pos (by show (Sum.inl j : Key) = Sum.inl i; rw [e]), r⟩
    · rw [if_neg e] at h
      obtain ⟨u, hu, ru⟩ := rpd_look rs h
      exact ⟨u, by rw [valV_neg (by intro q; cases q; exact e rfl)]; exact hu, ru⟩
theorem dw_dget (hu : X.A.units + 1 < cLine) (h : DW X B E a fun d1 => DW X B E b fun d2 => ∃ kvs i d, d1 = .dic kvs ∧ d2 = .int i ∧ lookD kvs i = some d ∧ Φ d) (hs : NoSl b := by exact fun _ _ => rfl) : DW X B E (.Subscript a b pos) Φ := fun σ G H Q S q =>
  fE (pe_dget hu qE qE hs) (h σ G H _ S fun v d1 G1 H1 S1 x1 r1 f1 => f1 σ G1 H1 _ S1 fun u d2 G2 H2 S2 x2 r2 f2 => by
    obtain ⟨kvs, i, d, rfl, rfl, hl, f⟩ := f2
    cases r2
    cases r1.le x2.gg with
    | dic h0 rd =>
      obtain ⟨w, hw, rw0⟩ := rpd_look rd hl
      exact ⟨_, w, rfl, by rw [← hw]; exact DGet.k (k := Sum.inl i) (S2.cln.sub _ _ h0), q w d G2 H2 S2 (x1.tr x2) rw0 f⟩)
/-- list(d): its keys -/
theorem rpd_keys {K : PySem.W.Frag} {G : Hp} : ∀ {kvs : List (Key × V)} {ds : List (Int × Dt)}, RpD K G kvs ds → RpA K G (kvs.map fun kv => kV kv.1) (ds.map fun q => .int q.1)
  | _, _, .nil => .nil
  | _, _, .cons _ rs => .cons (.int _) (rpd_keys rs)
theorem rpd_len {K : PySem.W.Frag} {G : Hp} : ∀ {kvs : List (Key × V)} {ds : List (Int × Dt)}, RpD K G kvs ds → kvs.length = ds.length
  | _, _, .nil => rfl
  | _, _, .cons _ rs => congrArg (· + 1) (rpd_len rs)
theorem dn_listD {Ψ : List Dt → Prop} (hm : X.mg "list" = none) (h : DA X B E [e] fun ds => ∃ l, ds = [.dic l] ∧ l.length ≤ 1000 ∧ Ψ (l.map fun q => .int q.1)) (hc : X.calm = true := by rfl) (hg : Gl X "list" := by rfl) (he : starEach [e] X.env = (false, eval e X.env) :: starEach [] X.env := by rfl) (hpl : (backTo pos (starEach [] X.env)).any (·.1) = false := by rfl) : DN X B E (.Call (.Name "list" p) [e] [] pos) Ψ :=
  dn_bty (k := fun ds Ψ => ∃ l, ds = [.dic l] ∧ l.length ≤ 1000 ∧ Ψ (l.map fun q => .int q.1)) (call_list_dK hc) (fun B E σ G H vs ds Φ Q S r k q => by
    obtain ⟨l, rfl, hz, f⟩ := k
    cases r with
    | cons r0 r => cases r; cases r0 with
      | dic h0 rd => exact ⟨_, _, rfl, S.cln.sub _ _ h0, fun p hp => q p _ _ hp (rpd_keys rd) (by rw [List.length_map]; exact Nat.le_trans hz (by decide)) f⟩) hm (by decide +kernel) h hg (by decide) (by decide) he hpl
/-! ### sorted -/
theorem dn_sortI {Ψ : List Dt → Prop} (hm : X.mg "sorted" = none) (h : DA X B E [e] fun ds => ∃ ns : List Int, ds = [.lst (ns.map .int)] ∧ ∀ ms : List Int, ms.Perm ns → ms.Pairwise (· ≤ ·) → Ψ (ms.map .int)) (hg : Gl X "sorted" := by rfl) (he : starEach [e] X.env = (false, eval e X.env) :: starEach [] X.env := by rfl) (hpl : (backTo pos (starEach [] X.env)).any (·.1) = false := by rfl) : DN X B E (.Call (.Name "sorted" p) [e] [] pos) Ψ :=
  dn_blt (k := fun ds Ψ => ∃ ns : List Int, ds = [.lst (ns.map .int)] ∧ ∀ ms : List Int, ms.Perm ns → ms.Pairwise (· ≤ ·) → Ψ (ms.map .int)) cr_sortedI (fun B E σ G H vs ds Φ Q S r k q => by
    obtain ⟨ns, rfl, f⟩ := k
    cases r with
    | cons r0 r =>
      cases r
      have hz : ns.length ≤ sizeLine := by cases r0 with | lst _ z _ => rw [List.length_map] at z; exact z
      obtain ⟨a, rfl, hs⟩ := rp_ints S.cln r0
      exact ⟨a, ns, rfl, hs, fun ms p h1 h2 hp => q p _ _ hp (ints_rpa ms) (by rw [List.length_map, h1.length_eq]; exact hz) (f ms h1 h2)⟩) hm (by decide +kernel) h hg (by decide) (by decide) he hpl
theorem dn_sortS {Ψ : List Dt → Prop} (hm : X.mg "sorted" = none) (h : DA X B E [e] fun ds => ∃ ns : List Str, ds = [.lst (ns.map .str)] ∧ ns.length < 64 ∧ ∀ ms : List Str, ms.Perm ns → sortedS ms = true → Ψ (ms.map .str)) (hg : Gl X "sorted" := by rfl) (he : starEach [e] X.env = (false, eval e X.env) :: starEach [] X.env := by rfl) (hpl : (backTo pos (starEach [] X.env)).any (·.1) = false := by rfl) : DN X B E (.Call (.Name "sorted" p) [e] [] pos) Ψ :=
  dn_blt (k := fun ds Ψ => ∃ ns : List Str, ds = [.lst (ns.map .str)] ∧ ns.length < 64 ∧ ∀ ms : List Str, ms.Perm ns → sortedS ms = true → Ψ (ms.map .str)) cr_sortedS (fun B E σ G H vs ds Φ Q S r k q => by
    obtain ⟨ns, rfl, h64, f⟩ := k
    cases r with
    | cons r0 r =>
      cases r
      cases r0 with
      | lst h0 z r =>
        have ev := rpa_strs r
        exact ⟨_, ns, rfl, by rw [← ev]; exact SqL.of (S.cln.sub _ _ h0), h64, fun ms p h1 h2 hp => q p _ _ hp (strs_rpa ms) (by rw [List.length_map, h1.length_eq]; exact Nat.le_trans (Nat.le_of_lt h64) (by decide)) (f ms h1 h2)⟩) hm (by decide +kernel) h hg (by decide) (by decide) he hpl
/-- a pair of ints -/
abbrev prT (q : Int × Int) : Dt := .tup [.int q.1, .int q.2]
def kOf (G : Hp) : V → Int × Int
  | .ref t => (match G t with
    | some (.tup [.int i, .int j]) => (i, j)
    | _ => (0, 0))
  | _ => (0, 0)
theorem kOf_map {K : PySem.W.Frag} {G : Hp} : ∀ {ps : List (Int × Int)} {vs : List V}, RpA K G vs (ps.map prT) → vs.map (kOf G) = ps ∧ ∀ x ∈ vs, ∃ t, x = .ref t ∧ G t = some (.tup [.int (kOf G x).1, .int (kOf G x).2])
  | [], _, .nil => ⟨rfl, fun _ h => by cases h⟩
  | q :: ps, _, .cons r rs => by
    obtain ⟨h1, h2⟩ := kOf_map rs
    cases r with
    | @tup t xs _ h0 z r =>
      cases r with
      | cons ra r => cases r with
        | cons rb r =>
          cases r; cases ra; cases rb
          have e : kOf G (.ref t) = q := by show (match G t with | some (.tup [.int i, .int j]) => (i, j) | _ => (0, 0)) = q; rw [h0]
          refine ⟨by rw [List.map_cons, h1, e], fun x hx => ?_⟩
          rcases List.mem_cons.mp hx with rfl | hx
          · exact ⟨t, rfl, by rw [e]; exact h0⟩
          · exact h2 x hx
theorem rpa_of_k {K : PySem.W.Frag} {G : Hp} : ∀ {vs : List V}, (∀ x ∈ vs, ∃ t, x = V.ref t ∧ G t = some (.tup [.int (kOf G x).1, .int (kOf G x).2])) → RpA K G vs ((vs.map (kOf G)).map prT)
  | [], _ => .nil
  | x :: vs, h => by
    obtain ⟨t, e, ht⟩ := h x List.mem_cons_self
    refine .cons ?_ (rpa_of_k fun y hy => h y (List.mem_cons_of_mem _ hy))
    rw [e] at ht ⊢
    exact .tup ht (show 2 ≤ sizeLine by decide) (.cons (.int _) (.cons (.int _) .nil))
/-- in order: by the first, then by the second -/
abbrev leP (a b : Int × Int) : Prop := SrtO.lexB b a = false
theorem dn_sortP {Ψ : List Dt → Prop} (hm : X.mg "sorted" = none) (h : DA X B E [e] fun ds => ∃ ps : List (Int × Int), ds = [.lst (ps.map prT)] ∧ ∀ qs : List (Int × Int), qs.Perm ps → qs.Pairwise leP → Ψ (qs.map prT)) (hg : Gl X "sorted" := by rfl) (he : starEach [e] X.env = (false, eval e X.env) :: starEach [] X.env := by rfl) (hpl : (backTo pos (starEach [] X.env)).any (·.1) = false := by rfl) : DN X B E (.Call (.Name "sorted" p) [e] [] pos) Ψ :=
  dn_blt (k := fun ds Ψ => ∃ ps : List (Int × Int), ds = [.lst (ps.map prT)] ∧ ∀ qs : List (Int × Int), qs.Perm ps → qs.Pairwise leP → Ψ (qs.map prT)) cr_sortedPO (fun B E σ G H vs ds Φ Q S r k q => by
    obtain ⟨ps, rfl, f⟩ := k
    cases r with
    | cons r0 r =>
      cases r
      cases r0 with
      | @lst a0 xs _ h0 z r =>
        obtain ⟨k1, k2⟩ := kOf_map r
        refine ⟨a0, xs, kOf G, rfl, SqL.of (S.cln.sub _ _ h0), fun x hx => ?_, fun ys p hs hb hp => ?_⟩
        · obtain ⟨t, e, ht⟩ := k2 x hx
          exact ⟨t, e, S.cln.sub _ _ ht⟩
        · have hm : ∀ x ∈ ys, ∃ t, x = V.ref t ∧ G t = some (.tup [.int (kOf G x).1, .int (kOf G x).2]) := fun x hx => k2 x (hb.perm.mem_iff.mp hx)
          refine q p ys _ hp (rpa_of_k hm) ?_ (f (ys.map (kOf G)) ?_ ?_)
          · rw [List.length_map, List.length_map, hb.perm.length_eq, r.len]; exact z
          · rw [← k1]; exact hb.perm.map _
          · exact List.pairwise_map.mpr hs) hm (by decide +kernel) h hg (by decide) (by decide) he hpl
/-! ### max(xs, default=n) -/
theorem reads_ints {h : Heap} : ∀ {vs : List Value} {ns : List Int}, IntsAre vs ns → ReadsAll h vs (ns.map .int) []
  | _, _, hi => by
    induction hi with
    | nil => exact .nil
    | cons n t _ ih => exact .cons (as := []) (bs := []) (.int n t) ih
theorem alike_ints (ns : List Int) : PySem.W.AlikeAll (ns.map .int) := by
  refine ⟨fun x hx y hy => ?_, fun x hx => ?_⟩
  · obtain ⟨i, _, rfl⟩ := List.mem_map.mp hx
    obtain ⟨j, _, rfl⟩ := List.mem_map.mp hy
    rfl
  · obtain ⟨i, _, rfl⟩ := List.mem_map.mp hx
    exact fun z => by cases z
theorem depth_ints : ∀ ns : List Int, PyData.depthAll (ns.map .int) = 0
  | [] => rfl
  | n :: ns => by
    show max (PyData.depth (.int n)) (PyData.depthAll (ns.map .int)) = 0
    rw [depth_ints ns]
    rfl
theorem semE_mono {σ : L2.St} {H : Hp} {Q Q' : VK} (h : semE X a σ H Q) (k : ∀ v H, Q v H → Q' v H) : semE X a σ H Q' := ⟨fun pins s I => thn (h.run pins s I) fun u s' q => by
  obtain ⟨v, H', I', r, q⟩ := q
  exact ⟨v, H', I', r, k v H' q⟩⟩
theorem semA_one {σ : L2.St} {H : Hp} {R : VK} (he : starEach [a] X.env = (false, eval a X.env) :: starEach [] X.env) (h : semE X a σ H R) : semA X [a] σ H (fun vs H1 => ∃ v, vs = [v] ∧ R v H1) :=
  fA (pa_cons qE pa_nil he) (semE_mono h fun v H q => (⟨v, rfl, q⟩ : ∃ u, [v] = [u] ∧ R u H))
theorem pe_maxDef {ta : TE} {n : Int} {j : Nat} {p2 kp : Pos} (hm : X.mg "max" = none) (ha : PE X a ta) (hu : X.A.units + 1 < cLine) (hc : X.calm = true) (hg : Gl X "max") (hall : (backToKw pos (keywordEach [⟨some "default", .Constant (.int n) j p2, kp⟩] X.env)).all (·.1.isSome) = true)
    (hks : (backToKw pos (keywordEach [⟨some "default", .Constant (.int n) j p2, kp⟩] X.env)).filterMap (·.1) = [("default" : Str)]) (he : starEach [a] X.env = (false, eval a X.env) :: starEach [] X.env)
    (hpl : (backTo pos (starEach [a] X.env)).any (·.1) = false) (hkn : (backToKw pos (keywordEach [⟨some "default", .Constant (.int n) j p2, kp⟩] X.env)).any (·.1.isNone) = false) (hb0 : backTo pos (starEach [a] X.env) = (false, eval a X.env) :: backTo pos (starEach [] X.env)) :
    PE X (.Call (.Name "max" p) [a] [⟨some "default", .Constant (.int n) j p2, kp⟩] pos) (fun σ H Q => ta σ H fun x H1 => ∃ l ns, x = .ref l ∧ SqL X.K H1 l (ns.map V.int) ∧ (ns = [] → Q (.int n) H1) ∧ ∀ h t, ns = h :: t → Q (.int (t.foldl max h)) H1) := by
  refine ⟨fun pins s σ H Q I h => ?_⟩
  refine wpAny_Call_Name_kw (ld_blt (u := .builtin "max") I hg hm (by decide +kernel) ?_)
  refine callWith_kw (thn ((semA_one he (fE ha h)).run pos pins s I) fun us s1 q => ?_) hb0 hpl hall hkn
  obtain ⟨vs, H1, I1, r1, v, rfl, q1⟩ := q
  refine thn ((pk_cons pe_int pk_nil).run pos pins s1 σ H1 (fun ws H2 => ws = [.int n] ∧ H2 = H1) I1 ⟨rfl, rfl⟩) fun ws s2 q2 => ?_
  obtain ⟨zs, H2, I2, r2, rfl, rfl⟩ := q2
  obtain ⟨l, ns, rfl, hs, h0, h1⟩ := q1
  rw [hks, Vals.ref1 r1]
  cases r2 with
  | cons r r2 =>
    cases r2
    obtain ⟨t, rfl⟩ := r
    obtain ⟨its, rv, hl, _⟩ := I2.list hs
    have hi := rv.ints
    refine PySem.W.max_list_default (I2.ok.hd hc) hl.isList (reads_ints hi) (alike_ints ns) (by rw [depth_ints]; exact hu) (fun e h' tk hk => ⟨.int n, _, I2.kept hk, ⟨t, rfl⟩, h0 ?_⟩) (fun y ys i v h' tk bs e hv rd hk => ?_)
    · cases ns with
      | nil => rfl
      | cons _ _ => cases e
    · cases ns with
      | nil => cases e
      | cons m ms =>
        injection e with e1 e2
        subst e1 e2
        rw [PySem.W.maxD_ints] at rd
        cases rd
        exact ⟨.int _, _, I2.kept hk, ⟨_, rfl⟩, h1 m ms rfl⟩
theorem dw_maxDef {n : Int} {j : Nat} {p2 kp : Pos} (hm : X.mg "max" = none) (hu : X.A.units + 1 < cLine) (h : DW X B E a fun d => ∃ ns : List Int, d = .lst (ns.map .int) ∧ (ns = [] → Φ (.int n)) ∧ ∀ h t, ns = h :: t → Φ (.int (t.foldl max h))) (hc : X.calm = true := by rfl) (hg : Gl X "max" := by rfl)
    (hall : (backToKw pos (keywordEach [⟨some "default", .Constant (.int n) j p2, kp⟩] X.env)).all (·.1.isSome) = true := by rfl) (hks : (backToKw pos (keywordEach [⟨some "default", .Constant (.int n) j p2, kp⟩] X.env)).filterMap (·.1) = [("default" : Str)] := by rfl)
    (he : starEach [a] X.env = (false, eval a X.env) :: starEach [] X.env := by rfl) (hpl : (backTo pos (starEach [a] X.env)).any (·.1) = false := by rfl) (hkn : (backToKw pos (keywordEach [⟨some "default", .Constant (.int n) j p2, kp⟩] X.env)).any (·.1.isNone) = false := by rfl) (hb0 : backTo pos (starEach [a] X.env) = (false, eval a X.env) :: backTo pos (starEach [] X.env) := by rfl) :
    DW X B E (.Call (.Name "max" p) [a] [⟨some "default", .Constant (.int n) j p2, kp⟩] pos) Φ := fun σ G H Q S q =>
  fE (pe_maxDef hm qE hu hc hg hall hks he hpl hkn hb0) (h σ G H _ S fun v d G1 H1 S1 x1 r1 f1 => by
    obtain ⟨ns, rfl, f0, f1⟩ := f1
    obtain ⟨l, rfl, hs⟩ := rp_ints S1.cln r1
    exact ⟨l, ns, rfl, hs, fun e => q _ _ G1 H1 S1 x1 (.int _) (f0 e), fun h t e => q _ _ G1 H1 S1 x1 (.int _) (f1 h t e)⟩)
/-! ### isqrt -/
theorem dw_isqrt (hm : X.mg "isqrt" = some (.builtin "math.isqrt")) (h : DW X B E a fun d => ∃ n : Nat, d = .int n ∧ n < 2 ^ 64 ∧ Φ (.int (Float64.isqrt n : Nat))) (hg : Gl X "isqrt" := by rfl) (he : starEach [a] X.env = (false, eval a X.env) :: starEach [] X.env := by rfl) (hpl : (backTo pos (starEach [] X.env)).any (·.1) = false := by rfl) :
    DW X B E (.Call (.Name "isqrt" p) [a] [] pos) Φ := fun σ G H Q S q => by
  have P0 : PE X (.Call (.Name "isqrt" p) [a] [] pos) (fun σ H Q => semE X a σ H fun x H1 => ∃ n : Nat, x = .int n ∧ n < 2 ^ 64 ∧ Q (.int (Float64.isqrt n : Nat)) H1) := by
    refine ⟨fun pins s σ H Q I h => ?_⟩
    refine wpAny_Call_Name_kw (ld_glob I hg hm ?_)
    refine callWith_builtin1 (thn ((semA_one he h).run pos pins s I) fun us s1 q => ?_) he hpl
    obtain ⟨vs, H1, I1, r1, v, rfl, n, rfl, hn, q1⟩ := q
    cases r1 with
    | cons r r1 =>
      cases r1
      obtain ⟨t, rfl⟩ := r
      exact PySem.W.mg_isqrt (by omega) (by omega) ⟨.int _, _, I1.tok _, ⟨_, rfl⟩, by rw [Int.toNat_natCast]; exact q1⟩
  refine fE P0 (h σ G H _ S fun v d G1 H1 S1 x1 r1 f1 => ?_)
  obtain ⟨n, rfl, hn, f1⟩ := f1
  cases r1
  exact ⟨n, rfl, hn, q _ _ G1 H1 S1 x1 (.int _) f1⟩
end
end N
set_option Elab.async false
set_option linter.all false
set_option maxRecDepth 100000
set_option maxHeartbeats 1000000
/-! DM: the rules in the forms that a walk by steps can take: slots by names, operations by what stands on both sides. -/
namespace N
open PySem
open PySem.Spec
open PyProof.Rows
open L2

/-- a name's slot -/
def ixS (N : List Str) (x : Str) : Nat := N.idxOf x
/-- the built-ins are not hidden by the module -/
structure BI (mg : Str → Option Value) : Prop where
  isinstance : mg "isinstance" = none
  int : mg "int" = none
  bool : mg "bool" = none
  tuple : mg "tuple" = none
  zip : mg "zip" = none
  abs : mg "abs" = none
  max : mg "max" = none
  min : mg "min" = none
  sum : mg "sum" = none
  len : mg "len" = none
  all : mg "all" = none
  any : mg "any" = none
  sorted : mg "sorted" = none
  range : mg "range" = none
  enumerate : mg "enumerate" = none
  str : mg "str" = none
  list : mg "list" = none
  repr : mg "repr" = none
  isqrt : mg "isqrt" = some (.builtin "math.isqrt")
section
variable {X : Cx} {B : Bd} {E : Ev} {Φ : Dt → Prop} {Ψ : Ed} {e a b c : Expr} {es : List Expr} {pos p : Pos} {x : Str} {k : Nat} {f : FT} {ps : List Str}
theorem dw_v {d : Dt} (hE : E[ixS X.N x]? = some (.dt d)) (q : Φ d) (hN : X.N[ixS X.N x]? = some x := by rfl) (hv : Vis X.env.scope x := by first | exact Or.inl rfl | exact Or.inr (Or.inl rfl) | exact Or.inr (Or.inr rfl))
    (hd : (x == ("__debug__" : Str)) = false := by decide) (hcd : (x == ("__classdict__" : Str)) = false := by decide) : DW X B E (.Name x pos) Φ := dw_var _ hE q hN hv hd hcd
theorem ds_s {p' : Pos} (hN : X.N.Nodup) (h : DW X B E e fun d => Ψ.nx (E.set (ixS X.N x) (.dt d))) (hi : X.N[ixS X.N x]? = some x := by rfl) (hx : Loc X.env.scope x := by first | exact Or.inl rfl | exact Or.inr rfl)
    (hs : swapsWith e (some (.Name x p')) pos.line X.env = pure false := by rfl) (hf : X.fn x = true ∨ X.env.scope.names.lookup x = some .local := by first | exact .inl rfl | exact .inr rfl) : DS X B E (.Assign [.Name x p'] e pos) Ψ := ds_set _ h hN hi hx hs hf
theorem dg_v (hN : X.N.Nodup) (hi : X.N[ixS X.N x]? = some x := by rfl) (hx : Loc X.env.scope x := by first | exact Or.inl rfl | exact Or.inr rfl) (hf : X.fn x = true ∨ X.env.scope.names.lookup x = some .local := by first | exact .inl rfl | exact .inr rfl) : DG X B [ixS X.N x] (.Name x pos) (gN (ixS X.N x)) := dg_name _ hN hi hx hf
/-- .. + .. -/
abbrev addK : Dt → Dt → (Dt → Prop) → Prop
  | .int i, .int j, Φ => Φ (.int (i + j))
  | .tup l, .tup m, Φ => l.length + m.length ≤ sizeLine ∧ Φ (.tup (l ++ m))
  | .lst l, .lst m, Φ => l.length + m.length ≤ sizeLine ∧ Φ (.lst (l ++ m))
  | _, _, _ => False
theorem ok_add : OkR X (fun x y H Q => (rI0 (fun i j => V.int (i + j)) x y H Q ∨ rCatA X.K x y H Q) ∨ rCat x y H Q) addK := fun B E σ G H x y d1 d2 Φ Q S r1 r2 k q => by
  unfold addK at k
  split at k
  · exact .inl (.inl (okI0 (X := X) (g := fun i j => V.int (i + j)) (g' := fun i j => .int (i + j)) (fun _ _ _ _ => .int _) B E σ G H x y _ _ Φ Q S r1 r2 k q))
  · exact .inl (.inr (ok_catT (X := X) B E σ G H x y _ _ Φ Q S r1 r2 k q))
  · obtain ⟨z, f⟩ := k
    cases r1 with
    | @lst a1 xs1 _ h1 z1 r1 => cases r2 with
      | @lst a2 xs2 _ h2 z2 r2 =>
        refine .inr ⟨_, _, _, _, rfl, rfl, S.cln.sub _ _ h1, S.cln.sub _ _ h2, by rw [r1.len, r2.len]; exact z, fun p hp => ?_⟩
        have g := Grow.one (G := G) (o := .lst (xs1 ++ xs2)) S.cln hp (fun ps e => by cases e)
        exact q _ _ _ _ g (.lst upd_same (by rw [List.length_append]; exact z) ((r1.app r2).le g.gg)) f
  · exact k.elim
theorem dw_add (h : DW X B E a fun d1 => DW X B E b fun d2 => addK d1 d2 Φ) : DW X B E (.BinOp a .Add b pos) Φ := dw_bin ((op_add.or op_catA).or op_cat) ok_add h
/-- g(e, ..): any level below -/
theorem dw_cal {n : Nat} {M1 : Addr → Prop} {HI1 : Hp → Prop} (C : Cal X.prog X.w X.K X.mg X.base k x ps (spD X.K M1 HI1 B.T f)) (cm : BdOk B.M B.HI → Cmp M1 HI1 B) (hr : Room n X.A) (hk : k ≤ n) (h : DA X B E (e :: es) fun ds => f ds Φ) (hg : Gl X x := by rfl)
    (hdb : (x == ("__debug__" : Str)) = false := by decide) (he : starEach (e :: es) X.env = (false, eval e X.env) :: starEach es X.env := by rfl) (hpl : (backTo pos (starEach es X.env)).any (·.1) = false := by rfl) :
    DW X B E (.Call (.Name x p) (e :: es) [] pos) Φ := dw_call C cm (hr.mono hk) h hg hdb he hpl
theorem dw_calP {n : Nat} (C : Cal X.prog X.w X.K X.mg X.base k x ps (spP X.K B.T f)) (hr : Room n X.A) (hk : k ≤ n) (h : DA X B E (e :: es) fun ds => f ds Φ) (hg : Gl X x := by rfl)
    (hdb : (x == ("__debug__" : Str)) = false := by decide) (he : starEach (e :: es) X.env = (false, eval e X.env) :: starEach es X.env := by rfl) (hpl : (backTo pos (starEach es X.env)).any (·.1) = false := by rfl) :
    DW X B E (.Call (.Name x p) (e :: es) [] pos) Φ := dw_call C Cmp.pure (hr.mono hk) h hg hdb he hpl
/-- a pure def's promise: any number of the like -/
theorem ifB_d {q : Prop} [d : Decidable q] {r s : Prop} (h1 : q → r) (h2 : ¬ q → s) : ifB (decide q) r s := ⟨fun h => h1 (of_decide_eq_true h), fun h => h2 (of_decide_eq_false h)⟩
theorem ifB_n {q : Prop} [d : Decidable q] {r s : Prop} (h1 : ¬ q → r) (h2 : q → s) : ifB (!decide q) r s := by
  by_cases h : q
  · rw [decide_eq_true h]; exact ifB_f (h2 h)
  · rw [decide_eq_false h]; exact ifB_t (h1 h)
theorem ifB_b {c : Bool} {r s : Prop} (h1 : c = true → r) (h2 : c = false → s) : ifB c r s := ⟨h1, h2⟩
theorem dq_im {ifs : List Expr} {Φ Φ' : Bool → Prop} (h : DQ X B E ifs Φ') (k : ∀ z, Φ' z → Φ z) : DQ X B E ifs Φ := fun σ G H Q S q => h σ G H Q S fun z G' H' S' x f => q z G' H' S' x (k z f)
/-! ### a comprehension by functions -/
def MG (g : Dt → Ev → (Ev → Prop) → Prop) : Prop := ∀ (d : Dt) (E : Ev) (P Q : Ev → Prop), (∀ E, P E → Q E) → g d E P → g d E Q
def MGs (g : List Dt → Ev → (Ev → Prop) → Prop) : Prop := ∀ (d : List Dt) (E : Ev) (P Q : Ev → Prop), (∀ E, P E → Q E) → g d E P → g d E Q
theorem mg_n (i : Nat) : MG (gN i) := fun _ _ _ _ h f => h _ f
theorem mgs_0 : MGs gsNil := fun _ _ _ _ h f => ⟨f.1, h _ f.2⟩
theorem mgs_c {g : Dt → Ev → (Ev → Prop) → Prop} {gs : List Dt → Ev → (Ev → Prop) → Prop} (m : MG g) (ms : MGs gs) : MGs (gsCons g gs) := fun ds E P Q h f => by
  cases ds with
  | nil => exact f
  | cons d ds => exact m d E _ _ (fun E' f' => ms ds E' P Q h f') f
theorem mg_t (n : Nat) {gs : List Dt → Ev → (Ev → Prop) → Prop} (ms : MGs gs) : MG (gT n gs) := fun d E P Q h f => by
  cases d with
  | tup ds => exact ⟨f.1, ms ds E P Q h f.2⟩
  | _ => exact f
variable {tg it elt : Expr} {ifs : List Expr} {scope : Scope} {Θ : List Dt → Prop}
/-- [elt for tg in it if ..]: ts tells which stay, fn what they become; both may look at the items -/
theorem lcM (own : List (Str × Nat)) {is : List Nat} {g : Dt → Ev → (Ev → Prop) → Prop}
    (hg : ∀ s H C cl fp gl ow, DG (XB X scope s H C cl fp) (B.v gl ow) is tg g) (his : ∀ i ∈ is, i ∈ own.map (·.2))
    (hi : DI X B E tg it fun ds => ∃ (ts : Dt → Bool) (fn : Dt → Dt), (∀ gl ow d, d ∈ ds → g d (wipeE E (own.map (·.2))) fun E2 =>
      ∀ s H C cl fp, DQ (XB X scope s H C cl fp) (B.v gl ow) E2 ifs fun z => z = ts d ∧ (z = true → ∀ s H C cl fp, DW (XB X scope s H C cl fp) (B.v gl ow) E2 elt fun y => y = fn d)) ∧ Θ ((ds.filter ts).map fn))
    (mono : MG g := by first | exact mg_n _ | exact mg_t _ (mgs_c (mg_n _) (mgs_c (mg_n _) mgs_0)) | exact mg_t _ (mgs_c (mg_n _) (mgs_c (mg_n _) (mgs_c (mg_n _) mgs_0)))) : DNl X B E own tg it ifs elt scope Θ := by
  refine lc_l own hg his (fun σ G H R S k => hi σ G H R S fun J G' H' ds S' x' sv hz f => k J G' H' ds S' x' sv hz ?_)
  obtain ⟨ts, fn, turn, fin⟩ := f
  refine ⟨fun i acc => acc = ((ds.take i).filter ts).map fn, rfl, fun gl ow i d acc hd hacc => ?_, fun acc hacc => ?_⟩
  · refine mono _ _ _ _ (fun E2 h2 s H C cl fp => ?_) (turn gl ow d (List.mem_of_getElem? hd))
    have ht : ds.take (i + 1) = ds.take i ++ [d] := by rw [List.take_add_one, hd]; rfl
    refine dq_im (h2 s H C cl fp) fun z hb => ?_
    obtain ⟨rfl, hb⟩ := hb
    refine ⟨fun hz s H C cl fp => ?_, fun hz => ?_⟩
    · refine (hb hz s H C cl fp).im fun y hy => ?_
      show acc ++ [y] = _
      rw [ht, List.filter_append, List.map_append, hacc, hy]
      simp [List.filter, hz]
    · show acc = _
      rw [ht, List.filter_append, List.map_append, hacc]
      simp [List.filter, hz]
  · have hacc : acc = ((ds.take ds.length).filter ts).map fn := hacc
    rw [List.take_length] at hacc
    rw [hacc]; exact fin
/-- [elt for tg in it if ..]: what is known of each -/
theorem lcR (own : List (Str × Nat)) {is : List Nat} {g : Dt → Ev → (Ev → Prop) → Prop}
    (hg : ∀ s H C cl fp gl ow, DG (XB X scope s H C cl fp) (B.v gl ow) is tg g) (his : ∀ i ∈ is, i ∈ own.map (·.2))
    (hi : DI X B E tg it fun ds => ∃ (P : Dt → Prop), (∀ gl ow d, d ∈ ds → g d (wipeE E (own.map (·.2))) fun E2 =>
      ∀ s H C cl fp, DQ (XB X scope s H C cl fp) (B.v gl ow) E2 ifs fun z => z = true → ∀ s H C cl fp, DW (XB X scope s H C cl fp) (B.v gl ow) E2 elt P) ∧ ∀ ys : List Dt, ys.length ≤ ds.length → (∀ y ∈ ys, P y) → Θ ys)
    (mono : MG g := by first | exact mg_n _ | exact mg_t _ (mgs_c (mg_n _) (mgs_c (mg_n _) mgs_0)) | exact mg_t _ (mgs_c (mg_n _) (mgs_c (mg_n _) (mgs_c (mg_n _) mgs_0)))) : DNl X B E own tg it ifs elt scope Θ := by
  refine lc_l own hg his (fun σ G H R S k => hi σ G H R S fun J G' H' ds S' x' sv hz f => k J G' H' ds S' x' sv hz ?_)
  obtain ⟨P, turn, fin⟩ := f
  refine ⟨fun i acc => acc.length ≤ i ∧ ∀ y ∈ acc, P y, ⟨Nat.le_refl _, fun y h => by cases h⟩, fun gl ow i d acc hd hacc => ?_, fun acc hacc => fin acc hacc.1 hacc.2⟩
  refine mono _ _ _ _ (fun E2 h2 s H C cl fp => ?_) (turn gl ow d (List.mem_of_getElem? hd))
  refine dq_im (h2 s H C cl fp) fun z hb => ?_
  refine ⟨fun hz s H C cl fp => ?_, fun hz => ⟨by have := hacc.1; omega, hacc.2⟩⟩
  refine (hb hz s H C cl fp).im fun y hy => ?_
  refine ⟨by rw [List.length_append]; exact Nat.add_le_add_right hacc.1 1, fun z hz => ?_⟩
  rcases List.mem_append.mp hz with h | h
  · exact hacc.2 z h
  · rw [List.mem_singleton.mp h]; exact hy
/-- [elt for tg in it]: .. and there are as many -/
theorem lcR0 (own : List (Str × Nat)) {is : List Nat} {g : Dt → Ev → (Ev → Prop) → Prop}
    (hg : ∀ s H C cl fp gl ow, DG (XB X scope s H C cl fp) (B.v gl ow) is tg g) (his : ∀ i ∈ is, i ∈ own.map (·.2))
    (hi : DI X B E tg it fun ds => ∃ (P : Dt → Prop), (∀ gl ow d, d ∈ ds → g d (wipeE E (own.map (·.2))) fun E2 =>
      ∀ s H C cl fp, DW (XB X scope s H C cl fp) (B.v gl ow) E2 elt P) ∧ ∀ ys : List Dt, ys.length = ds.length → (∀ y ∈ ys, P y) → Θ ys)
    (mono : MG g := by first | exact mg_n _ | exact mg_t _ (mgs_c (mg_n _) (mgs_c (mg_n _) mgs_0)) | exact mg_t _ (mgs_c (mg_n _) (mgs_c (mg_n _) (mgs_c (mg_n _) mgs_0)))) : DNl X B E own tg it [] elt scope Θ := by
  refine lc_l own hg his (fun σ G H R S k => hi σ G H R S fun J G' H' ds S' x' sv hz f => k J G' H' ds S' x' sv hz ?_)
  obtain ⟨P, turn, fin⟩ := f
  refine ⟨fun i acc => acc.length = i ∧ ∀ y ∈ acc, P y, ⟨rfl, fun y h => by cases h⟩, fun gl ow i d acc hd hacc => ?_, fun acc hacc => fin acc hacc.1 hacc.2⟩
  refine mono _ _ _ _ (fun E2 h2 s H C cl fp => ?_) (turn gl ow d (List.mem_of_getElem? hd))
  refine dq_nil (ifB_t fun s H C cl fp => ?_)
  refine (h2 s H C cl fp).im fun y hy => ?_
  refine ⟨by rw [List.length_append, hacc.1]; rfl, fun z hz => ?_⟩
  rcases List.mem_append.mp hz with h | h
  · exact hacc.2 z h
  · rw [List.mem_singleton.mp h]; exact hy
/-- .. the items told by an encoding -/
theorem lcE {α : Type} (own : List (Str × Nat)) {is : List Nat} {g : Dt → Ev → (Ev → Prop) → Prop}
    (hg : ∀ s H C cl fp gl ow, DG (XB X scope s H C cl fp) (B.v gl ow) is tg g) (his : ∀ i ∈ is, i ∈ own.map (·.2))
    (hi : DI X B E tg it fun ds => ∃ (xs : List α) (enc : α → Dt) (ts : α → Bool) (fn : α → Dt), ds = xs.map enc ∧ (∀ gl ow x, x ∈ xs → g (enc x) (wipeE E (own.map (·.2))) fun E2 =>
      ∀ s H C cl fp, DQ (XB X scope s H C cl fp) (B.v gl ow) E2 ifs fun z => z = ts x ∧ (z = true → ∀ s H C cl fp, DW (XB X scope s H C cl fp) (B.v gl ow) E2 elt fun y => y = fn x)) ∧ Θ ((xs.filter ts).map fn))
    (mono : MG g := by first | exact mg_n _ | exact mg_t _ (mgs_c (mg_n _) (mgs_c (mg_n _) mgs_0)) | exact mg_t _ (mgs_c (mg_n _) (mgs_c (mg_n _) (mgs_c (mg_n _) mgs_0)))) : DNl X B E own tg it ifs elt scope Θ := by
  refine lc_l own hg his (fun σ G H R S k => hi σ G H R S fun J G' H' ds S' x' sv hz f => k J G' H' ds S' x' sv hz ?_)
  obtain ⟨xs, enc, ts, fn, rfl, turn, fin⟩ := f
  refine ⟨fun i acc => acc = ((xs.take i).filter ts).map fn, rfl, fun gl ow i d acc hd hacc => ?_, fun acc hacc => ?_⟩
  · rw [List.getElem?_map] at hd
    cases hx : xs[i]? with
    | none => rw [hx] at hd; cases hd
    | some x =>
      rw [hx] at hd
      cases hd
      refine mono _ _ _ _ (fun E2 h2 s H C cl fp => ?_) (turn gl ow x (List.mem_of_getElem? hx))
      have ht : xs.take (i + 1) = xs.take i ++ [x] := by rw [List.take_add_one, hx]; rfl
      refine dq_im (h2 s H C cl fp) fun z hb => ?_
      obtain ⟨rfl, hb⟩ := hb
      refine ⟨fun hz s H C cl fp => ?_, fun hz => ?_⟩
      · refine (hb hz s H C cl fp).im fun y hy => ?_
        show acc ++ [y] = _
        rw [ht, List.filter_append, List.map_append, hacc, hy]
        simp [List.filter, hz]
      · show acc = _
        rw [ht, List.filter_append, List.map_append, hacc]
        simp [List.filter, hz]
  · have hacc : acc = ((xs.take (xs.map enc).length).filter ts).map fn := hacc
    rw [List.length_map, List.take_length] at hacc
    rw [hacc]; exact fin
end
end N
set_option Elab.async false
set_option linter.all false
set_option maxRecDepth 100000
set_option maxHeartbeats 1000000
namespace N
open PySem
open PySem.Spec
open PyProof.Rows
open L2
/-! Sp: what the program works on, as plain data; what its defs compute, plainly. -/
theorem szl {n : Nat} (h : Nat.ble n sizeLine = true := by rfl) : n ≤ sizeLine := Nat.le_of_ble_eq_true h
inductive Kd where | square | sum | most | unlike
  deriving DecidableEq
def kS : Kd → Str
  | .square => "square"
  | .sum => "sum"
  | .most => "most"
  | .unlike => "unlike"
theorem kS_inj : ∀ {a b : Kd}, kS a = kS b → a = b := by
  intro a b h
  cases a <;> cases b <;> first | rfl | exact absurd h (by decide)
abbrev vecD (v : List Int) : Dt := .tup (v.map .int)
abbrev labD (q : Str × Int) : Dt := .tup [.str q.1, .int q.2]
abbrev labsD (l : List (Str × Int)) : Dt := .tup (l.map labD)
structure Itm where
  key : Int
  vec : List Int
  labs : List (Str × Int)
abbrev itmD (i : Itm) : Dt := .tup [.int i.key, vecD i.vec, labsD i.labs]
abbrev stD (l : List (Int × Itm)) : Dt := .dic (l.map fun q => (q.1, itmD q.2))
inductive Sie where
  | all
  | has (n : Str)
  | rng (n : Str) (lo hi : Int)
  | nt (s : Sie)
  | an (a b : Sie)
  | orr (a b : Sie)
def sieD : Sie → Dt
  | .all => .tup [.str "all"]
  | .has n => .tup [.str "has", .str n]
  | .rng n lo hi => .tup [.str "in", .str n, .int lo, .int hi]
  | .nt s => .tup [.str "not", sieD s]
  | .an a b => .tup [.str "and", sieD a, sieD b]
  | .orr a b => .tup [.str "or", sieD a, sieD b]
inductive Reg where
  | box (lo hi : List Int)
  | ball (c : List Int) (r : Int)
  | cell (c : List Int) (a b : Int)
def regD : Reg → Dt
  | .box lo hi => .tup [.str "box", vecD lo, vecD hi]
  | .ball c r => .tup [.str "ball", vecD c, .int r]
  | .cell c a b => .tup [.str "cell", vecD c, .int a, .int b]
structure Row where
  name : Str
  many : Int
  least : Int
  greatest : Int
abbrev rowD (r : Row) : Dt := .tup [.str r.name, .int r.many, .int r.least, .int r.greatest]
structure Smy where
  many : Int
  rows : List Row
abbrev smyD (s : Smy) : Dt := .tup [.int s.many, .tup (s.rows.map rowD)]
inductive Lot where
  | items (r : Reg) (s : Smy) (ks : List Int)
  | lots (r : Reg) (s : Smy) (ls : List Lot)
mutual
def lotD : Lot → Dt
  | .items r s ks => .tup [regD r, smyD s, .tup [.str "items", vecD ks]]
  | .lots r s ls => .tup [regD r, smyD s, .tup [.str "lots", .tup (lotsD ls)]]
def lotsD : List Lot → List Dt
  | [] => []
  | l :: ls => lotD l :: lotsD ls
end
theorem lotsD_map : ∀ l : List Lot, lotsD l = l.map lotD
  | [] => rfl
  | a :: l => by rw [lotsD, lotsD_map l]; rfl
def Lot.reg : Lot → Reg
  | .items r _ _ => r
  | .lots r _ _ => r
def Lot.smy : Lot → Smy
  | .items _ s _ => s
  | .lots _ s _ => s
def Lot.kids : Lot → List Lot
  | .items _ _ _ => []
  | .lots _ _ ls => ls
def Lot.keys : Lot → List Int
  | .items _ _ ks => ks
  | .lots _ _ _ => []
abbrev ixD (k : Kd) (form : Str) (lot : Lot) (room : Int) : Dt := .obj "Index" [("kind", .str (kS k)), ("form", .str form), ("lot", lotD lot), ("room", .int room)]
abbrev papD (a s : Dt) : Dt := .obj "Paper" [("answer", a), ("steps", s)]
abbrev prsD (l : List (Int × Int)) : List Dt := l.map prT
abbrev wdsD (l : List Str) : Dt := .tup (l.map .str)
/-- a question, a reach -/
abbrev qD (k : Kd) (v : List Int) (many : Int) (s : Sie) : Dt := .tup [.str (kS k), vecD v, .int many, sieD s]
def optD : Option Int → Dt
  | none => .non
  | some i => .int i
/-! ### plain functions -/
def iabs (i : Int) : Int := if i < 0 then -i else i
def partOf : Kd → Int → Int
  | .square, d => d * d
  | .unlike, d => if d ≠ 0 then 1 else 0
  | _, d => iabs d
def maxD0 : List Int → Int
  | [] => 0
  | h :: t => t.foldl max h
def joined : Kd → List Int → Int
  | .most, l => maxD0 l
  | _, l => l.sum
def diffs (a b : List Int) : List Int := List.zipWith (· - ·) a b
def dist (k : Kd) (a b : List Int) : Int := joined k ((diffs a b).map (partOf k))
def droot (a b : Int) : Int := (Float64.isqrt (4 * a * b).toNat : Nat)
def gapOf (k : Kd) (a b : Int) : Int := if k = .square then a + b - droot a b else iabs (a - b)
def leastBeyond (k : Kd) (a r : Int) : Int := if a > r then gapOf k a r else 0
def gapTo (a b c : Int) : Int := if c < a then a - c else if c > b then c - b else 0
def labelIn : List (Str × Int) → Str → Option Int
  | [], _ => none
  | (m, v) :: r, n => if m = n then some v else labelIn r n
def lets : Sie → List (Str × Int) → Bool
  | .all, _ => true
  | .has n, l => (labelIn l n).isSome
  | .rng n lo hi, l => match labelIn l n with
    | none => false
    | some v => decide (lo ≤ v ∧ v ≤ hi)
  | .nt s, l => !lets s l
  | .an a b, l => lets a l && lets b l
  | .orr a b, l => lets a l || lets b l
def shell : Reg → Int × Int
  | .box _ _ => (0, 0)
  | .ball _ r => (0, r)
  | .cell _ a b => (a, b)
def floorShell (k : Kd) (sh : Int × Int) (near far : Int) : Int := if near > sh.2 then leastBeyond k near sh.2 else if far < sh.1 then gapOf k sh.1 far else 0
def gaps3 : List Int → List Int → List Int → List Int
  | a :: as, b :: bs, c :: cs => gapTo a b c :: gaps3 as bs cs
  | _, _, _ => []
def floorOf (k : Kd) : Reg → List Int → Int
  | .box lo hi, v => joined k ((gaps3 lo hi v).map (partOf k))
  | .ball c r, v => floorShell k (0, r) (dist k c v) (dist k c v)
  | .cell c a b, v => floorShell k (a, b) (dist k c v) (dist k c v)
inductive Vd where | all | some | none
  deriving DecidableEq
def vdS : Vd → Str
  | .all => "all"
  | .some => "some"
  | .none => "none"
def rowOf : List Row → Str → Option Row
  | [], _ => none
  | r :: rs, n => if r.name = n then some r else rowOf rs n
def rngV (lo hi : Int) (r : Row) (count : Int) : Vd :=
  if hi < r.least ∨ r.greatest < lo ∨ (r.many ≤ 2 ∧ r.least < lo ∧ hi < r.greatest) then .none else if r.many = count ∧ lo ≤ r.least ∧ r.greatest ≤ hi then .all else .some
def opp : Vd → Vd
  | .some => .some
  | .none => .all
  | .all => .none
def vAll (l : List Vd) : Vd := if .none ∈ l then .none else if .some ∈ l then .some else .all
def verd : Sie → Smy → Vd
  | s, t => if t.many = 0 then .none else match s with
    | .all => .all
    | .nt a => opp (verd a t)
    | .an a b => vAll [verd a t, verd b t]
    | .orr a b => opp (vAll [opp (verd a t), opp (verd b t)])
    | .has n => match rowOf t.rows n with
      | none => .none
      | some r => if r.many = t.many then .all else .some
    | .rng n lo hi => match rowOf t.rows n with
      | none => .none
      | some r => rngV lo hi r t.many
def mayPass (s : Sie) (t : Smy) : Bool := decide (verd s t ≠ .none)
def isStep (w : Str) (k : Kd) (v : List Int) (s : Sie) (reach : Option Int) (l : Lot) : Bool :=
  if w = "empty" then decide (l.smy.many = 0) else if w = "barred" then !mayPass s l.smy
  else if w = "far" then (match reach with
    | none => false
    | some r => decide (l.smy.many > 0) && decide (floorOf k l.reg v > r))
  else decide (w = "open")
section
variable {X : Cx} {B : Bd} {E : Ev} {Φ : Dt → Prop} {pos : Pos}
theorem dw_tInt (bi : BI X.mg) (q : Φ (.raw (.ty "int"))) (hg : Gl X "int" := by rfl) : DW X B E (.Name "int" pos) Φ := dw_ty bi.int (by decide +kernel) q hg
theorem dw_tBool (bi : BI X.mg) (q : Φ (.raw (.ty "bool"))) (hg : Gl X "bool" := by rfl) : DW X B E (.Name "bool" pos) Φ := dw_ty bi.bool (by decide +kernel) q hg
theorem dw_tTuple (bi : BI X.mg) (q : Φ (.raw (.ty "tuple"))) (hg : Gl X "tuple" := by rfl) : DW X B E (.Name "tuple" pos) Φ := dw_ty bi.tuple (by decide +kernel) q hg
theorem dw_tStr (bi : BI X.mg) (q : Φ (.raw (.ty "str"))) (hg : Gl X "str" := by rfl) : DW X B E (.Name "str" pos) Φ := dw_ty bi.str (by decide +kernel) q hg
end
end N
set_option Elab.async false
set_option linter.all false
set_option maxRecDepth 100000
set_option maxHeartbeats 1000000
/-! DP: t[::-1], xs.extend, in, == of data of any depth, == []. -/
namespace HT
open PySem PySem.Calls PyProof.Rows
section
variable {prog : Program} {w : World} {A : Around} {E : Value → Shared → Prop} {s : Shared}
theorem sliceApplied_rev {sl : Addr} {vs : Value} {n : Nat} {Q : Int × Int × Nat → Shared → Prop} (hs : s.heap.IsSliceOf sl .none .none vs) (ps : IsPart vs (some (-1)))
    (h : Q (((n : Int) - 1), -1, n) s) : wpAny (model prog w) A (Builtin.Slice.sliceApplied (.ref sl) (pure (n : Int))) Q E s := by
  obtain ⟨os, hos, hcs, hds⟩ := id hs
  unfold Builtin.Slice.sliceApplied Builtin.Slice.sliceFields
  refine wpAny_bind (wpAny_bind (wpAny_field hos hds (x := .none) rfl (wpAny_bind (wpAny_field hos hds (x := .none) rfl (wpAny_bind (wpAny_field hos hds (x := vs) rfl (wpAny_pure ?_)))))))
  refine wpAny_bind (slicePart_ ps ?_)
  show wpAny _ _ (if ((-1 : Int) == 0) = true then _ else _) _ _ s
  rw [if_neg (by decide)]
  refine wpAny_bind (slicePart_none (wpAny_bind (slicePart_none (wpAny_bind (wpAny_pure ?_)))))
  have e : Builtin.Slice.slicePlaces ((n : Int) - 1) (-1) (-1) = n := by
    unfold Builtin.Slice.slicePlaces
    rw [if_neg (by decide)]
    split
    · rw [show (-(-1) : Int) = 1 by decide, Int.ediv_one]; omega
    · omega
  show wpAny _ _ (pure ((n : Int) - 1, (-1 : Int), Builtin.Slice.slicePlaces ((n : Int) - 1) (-1) (-1))) _ _ s
  rw [e]
  exact wpAny_pure h
theorem fmap_congr {α β : Type} {f g : α → Option β} : ∀ {l : List α}, (∀ a ∈ l, f a = g a) → l.filterMap f = l.filterMap g
  | [], _ => rfl
  | a :: l, h => by
    rw [List.filterMap_cons, List.filterMap_cons, h a List.mem_cons_self, fmap_congr fun b hb => h b (List.mem_cons_of_mem _ hb)]
theorem pick_rev (xs : Array Value) : ((List.range xs.size).filterMap fun (m : Nat) => xs[(((xs.size : Int) - 1) + (m : Int) * -1).toNat]?).toArray = xs.toList.reverse.toArray := by
  have h : (List.range xs.size).filterMap (fun (m : Nat) => xs[(((xs.size : Int) - 1) + (m : Int) * -1).toNat]?) = ((List.range xs.size).map fun k => xs.size - 1 - k).filterMap (xs[·]?) := by
    rw [List.filterMap_map]
    refine fmap_congr fun m hm => ?_
    have := List.mem_range.mp hm
    show xs[(((xs.size : Int) - 1) + (m : Int) * -1).toNat]? = xs[xs.size - 1 - m]?
    rw [show (((xs.size : Int) - 1) + (m : Int) * -1).toNat = xs.size - 1 - m by omega]
  rw [h, PySem.W.krv_range, List.filterMap_reverse, PySem.W.krv_all]
theorem getItem_tuple_rev {t sl : Addr} {items : Array Value} {vs : Value} {Q : Value → Shared → Prop} (ht : IsTup s.heap t items) (hs : s.heap.IsSliceOf sl .none .none vs) (ps : IsPart vs (some (-1)))
    (h : Q (.ref s.heap.objs.size) { s with heap := s.heap.push { cls := .type "tuple", data := .seq items.toList.reverse.toArray } })
    (hsz : items.size ≤ sizeLine) : wpAny (model prog w) A (getItem (.ref t) (.ref sl)) Q E s := by
  have htake : sizeOk (.seq items.toList.reverse.toArray) := by
    show items.toList.reverse.toArray.size ≤ sizeLine
    rw [List.size_toArray, List.length_reverse, Array.length_toList]
    omega
  obtain ⟨os, hos, hcs, hds⟩ := id hs
  have hTs : s.TypeIs (.ref sl) "slice" := ⟨os, hos, hcs⟩
  unfold getItem
  try with_reducible refine wpAny_holding ?_
  first | refine wpAny_bind (wpAny_pure ?_) | skip
  refine wpAny_bind (wpAny_sequenceKey ht.typeIs (by decide) ?_)
  refine wpAny_bind (wpAny_callSpecial?_slot (name := Str.ofString "__getitem__") ht.typeIs PyProof.Rows.slot_tuple_getitem
    (wpAny_call_entry PyProof.Rows.slot_tuple_getitem ht.typeIs entry_tuple_getitem ?_ (args_tuple_getitem _ _)))
  show wpAny _ _ (Builtin.Tuple.tupleItemsOf (.ref t) >>= _) _ _ s
  refine wpAny_bind (tupleItemsOf_ ht ?_)
  refine wpAny_bind (wpAny_typeOf hTs ?_)
  rw [if_pos (by decide)]
  refine wpAny_bind (sliceApplied_rev hs ps ?_)
  have hno : ¬ ((((items.size : Int) - 1) == 0 && (-1 : Int) == 1 && items.size == items.size) = true) := by
    rw [show ((-1 : Int) == 1) = false by decide]
    simp
  show wpAny _ _ (if ((((items.size : Int) - 1) == 0 && (-1 : Int) == 1 && items.size == items.size) = true) then _ else _) _ _ s
  rw [if_neg hno, pick_rev]
  first
    | exact wpAny_bind (m := Builtin.Tuple.tupleExact _) (wpAny_newObj_type (wpAny_pure ⟨_, rfl, wpAny_pure h⟩) htake)
    | exact wpAny_bind (m := Builtin.Tuple.tupleExact _) (wpAny_newObj_type (wpAny_bind (wpAny_pure (wpAny_pure ⟨_, rfl, wpAny_pure h⟩))) htake)
    | exact wpAny_bind (wpAny_bind (m := Builtin.Tuple.tupleExact _) (wpAny_newObj_type (wpAny_pure (wpAny_pure ⟨_, rfl, wpAny_pure h⟩)) htake))
    | exact wpAny_bind (wpAny_bind (m := Builtin.Tuple.tupleExact _) (wpAny_newObj_type (wpAny_pure ⟨_, rfl, wpAny_pure h⟩) htake))
end
end HT
namespace N
open PySem
open PySem.Spec
open PyProof.Rows
open L2
section
variable {X : Cx} {B : Bd} {E : Ev} {Φ : Dt → Prop} {Ψ : Ed} {e a b c : Expr} {es : List Expr} {pos p p1 p2 p3 : Pos} {x : Str}
def tRevT (K : PySem.W.Frag) (te : TE) : TE := fun σ H Q => te σ H fun x H1 => ∃ a xs, x = .ref a ∧ SqT K H1 a xs ∧ ∀ p, H1 p = none → Q (.ref p) (upd H1 p (.tup xs.reverse))
theorem pe_revT {e : Expr} {te : TE} {k : Nat} {p1 p2 p3 pos : Pos} (he : PE X e te) : PE X (.Subscript e (.Slice none none (some (.UnaryOp .USub (.Constant (.int 1) k p1) p2)) p3) pos) (tRevT X.K te) := by
  refine ⟨fun pins s σ H Q I h => ?_⟩
  refine Subscript_ (thn (he.run pins s σ H _ I h) fun v s1 ⟨x, H1, I1, r1, q1⟩ => ?_)
  obtain ⟨a, xs, ex, hx, q⟩ := q1
  subst ex
  cases r1
  have hst : PO X (some (.UnaryOp .USub (.Constant (.int 1) k p1) p2)) (tPart (tUn (rU fun i => .int (-i)) (tC (.int 1)))) := po_some (pe_un un_neg pe_int)
  refine wpAny_Slice (thn (po_none.run pins s1 σ H1 (fun o H2 => o = none ∧ H2 = H1) I1 ⟨rfl, rfl⟩) fun vl s2 ⟨l, H2, I2, pl, el, e2⟩ => ?_)
  subst el e2
  refine thn (po_none.run pins s2 σ H2 (fun o H3 => o = none ∧ H3 = H2) I2 ⟨rfl, rfl⟩) fun vu s3 ⟨u, H3, I3, pu, eu, e3⟩ => ?_
  subst eu e3
  refine thn (hst.run pins s3 σ H3 (fun o H4 => o = some (-1) ∧ H4 = H3) I3 ⟨1, rfl, -1, rfl, rfl, rfl⟩) fun vs s4 ⟨o, H4, I4, ps, eo, e4⟩ => ?_
  subst eo e4
  cases pl
  cases pu
  have I5 : Inv X pins σ H4 { s4 with heap := s4.heap.push { cls := .type "slice", data := .fields #[.none, .none, vs] } } := I4.kept (t' := s4.toks) fun b ob q => Heap.get?_push_of_some _ q
  obtain ⟨its, r, ht, hz⟩ := I5.tuple hx
  have hlen : its.toArray.size = xs.length := by rw [List.size_toArray]; exact r.length.symm
  show wpAny (model X.prog X.w) X.A (subscriptTail e (.Slice none none (some (.UnaryOp .USub (.Constant (.int 1) k p1) p2)) p3) (.ref a) (.ref s4.heap.objs.size)) (EP X pins σ Q) X.xe { s4 with heap := s4.heap.push { cls := .type "slice", data := .fields #[.none, .none, vs] } }
  refine tail_any (ops := [.ref a, .ref s4.heap.objs.size]) ht.typeIs (PyProof.Rows.slot_tuple_getitem.lookup) ?_ (by with_unfolding_all rfl)
  refine HT.getItem_tuple_rev ht (Heap.IsSliceOf.new _ .none .none vs) ps ?_ (by rw [hlen]; exact hz)
  refine ⟨.ref _, _, I5.laid (t' := s4.toks) (o := .tup xs.reverse) (fun b ob q => Heap.get?_push_of_some _ q) (Nat.le_refl _) ?_, rfl, q _ (I5.hok.fresh (Nat.le_refl _))⟩
  exact ⟨by rw [List.length_reverse]; exact hz, _, r.reverse, IsTup.new _ _⟩
/-- t[::-1] of a tuple -/
theorem dw_revT {k : Nat} (h : DW X B E e fun d => ∃ l, d = .tup l ∧ Φ (.tup l.reverse)) : DW X B E (.Subscript e (.Slice none none (some (.UnaryOp .USub (.Constant (.int 1) k p1) p2)) p3) pos) Φ := fun σ G H Q S q =>
  fE (pe_revT qE) (h σ G H _ S fun v d G1 H1 S1 x1 r1 f1 => by
    obtain ⟨l, rfl, f1⟩ := f1
    cases r1 with
    | @tup a0 xs0 _ h z r =>
      refine ⟨_, _, rfl, SqT.of (S1.cln.sub _ _ h), fun p hp => ?_⟩
      have g := Grow.one (G := G1) (o := .tup xs0.reverse) S1.cln hp (fun ps e => by cases e)
      exact q _ _ _ _ (S1.grow g) (x1.tr g.ext) (.tup upd_same (by rw [List.length_reverse]; exact z) (r.rev.le g.gg)) f1)
/-! ### xs.extend(..), xs an own list -/
theorem extend_tup (l : Addr) (items : Array Value) (n : Nat) (b : Addr) (items2 : Array Value) (n2 : Nat) (dd : Option Addr) (sl : Array (Option Value)) (hs0 : ¬ (!items.isEmpty && Builtin.List.listTooLong (items.size + items2.size)) = true) (hs1 : items.size ≤ sizeLine) (hs2 : items.size + items2.size ≤ sizeLine + 1) :
    Meets (Builtin.«list.extend» ⟨[.ref l, .ref b], []⟩) (fun _ R s => s.heap.get? l = some { cls := .type "list", dict := none, data := .seq items n, slots := #[] } ∧ s.heap.get? b = some { cls := .type "tuple", dict := dd, data := .seq items2 n2, slots := sl } ∧ R (.ok (.ret Value.none)) { s with heap := s.heap.update l (Obj.mapSeq fun x => x ++ items2), toks := s.toks }) :=
  .of_wp fun prog w A R s h => by
    obtain ⟨hp, g, d, tk, os⟩ := s
    obtain ⟨hl, hb, h⟩ := h
    have f1 := AutoSeq1.idx_int; have f2 := AutoSeq1.sub_tuple_tuple; have f3 := AutoSeq1.sub_list_list
    have f4 := AutoSeq1.sub_tuple_list; have f5 := AutoSeq1.sub_list_tuple
    have hz' : (items ++ items2).size ≤ sizeLine + 1 := by rw [Array.size_append]; exact hs2
    wp_walk using (wpAny_updateSeq hl rfl (hz := hs1) (_hz' := hz')), AutoSeq1.wpAny_loadPart' hl, AutoSeq1.wpAny_loadPart' hb
    exact ⟨_, rfl, h⟩
def rExtT (K : PySem.W.Frag) : V → List V → Hp → VK → Prop := fun x vs H Q => ∃ l b xs zs, x = .ref l ∧ vs = [.ref b] ∧ H l = some (.lst xs) ∧ H b = some (.tup zs) ∧ xs.length + zs.length ≤ sizeLine ∧ Q .non (upd H l (.lst (xs ++ zs)))
theorem mt_extendT : MtM X "list.extend" (rExtT X.K) := by
  intro pins s σ H x vs v us Q I rx rv h
  obtain ⟨l, b, xs, zs, rfl, rfl, hH, hB, hz, q⟩ := h
  cases rx
  obtain ⟨u, rfl, ru⟩ := rv.one
  cases ru
  obtain ⟨z, its, n, r, hl, e⟩ := I.lstM hH
  obtain ⟨its2, r2, ht, z2⟩ := I.tuple (SqT.of hB)
  obtain ⟨⟨cl2, dd2, da2, sl2⟩, e2, hc2, n2, hd2⟩ := ht
  simp only at hc2 hd2
  subst hc2 hd2
  have hlen2 : its2.toArray.size = zs.length := by rw [List.size_toArray]; exact r2.length.symm
  have hlen1 : its.toArray.size = xs.length := by rw [List.size_toArray]; exact r.length.symm
  have hsz : its.toArray.size + its2.toArray.size ≤ sizeLine := by rw [hlen1, hlen2]; exact hz
  have hlong : ¬ (!its.toArray.isEmpty && Builtin.List.listTooLong (its.toArray.size + its2.toArray.size)) = true := by
    rw [notLongL hsz, Bool.and_false]
    exact Bool.false_ne_true
  refine call_meets F.slot_list_extend ⟨_, e, rfl⟩ F.entry_list_extend (F.args_list_extend_2 _ _)
    (extend_tup l its.toArray n b its2.toArray n2 dd2 sl2 hlong (by rw [hlen1]; omega) (by omega)) ⟨e, e2, ?_⟩
  refine ⟨.non, _, I.lset (its' := its ++ its2) hH e (by simp) (r.append r2) ?_, rfl, q⟩
  rw [List.length_append]
  omega
/-- xs.extend(e), xs an own list in slot i -/
theorem ds_extend {x : Str} (i : Nat) {l : Addr} {ds : List Dt} (hE : E[i]? = some (.own l ds)) (h : DW X B E e fun d => ∃ es, (d = .lst es ∨ d = .tup es) ∧ ds.length + es.length ≤ sizeLine ∧ Ψ.nx (E.set i (.own l (ds ++ es)))) (hN : X.N[i]? = some x := by rfl)
    (hv : Vis X.env.scope x := by first | exact Or.inl rfl | exact Or.inr (Or.inl rfl) | exact Or.inr (Or.inr rfl)) (hd : (x == ("__debug__" : Str)) = false := by decide) (hcd : (x == ("__classdict__" : Str)) = false := by decide)
    (hs : swapsWith (.Call (.Attribute (.Name x p1) "extend" p2) [e] [] p3) none pos.line X.env = pure false := by rfl) (hb : attributeBase (.Name x p1) "extend" X.env (eval (.Name x p1) X.env) = eval (.Name x p1) X.env := by rfl)
    (hfew : ((backTo p3 (starEach [e] X.env)).all (fun x => !x.1) && (backToKw p3 (keywordEach [] X.env)).all (fun x => x.1.isSome) && decide ([e].length + ([] : List Keyword).length + (if ([] : List Keyword).isEmpty then 0 else 1) < 30)) = true := by rfl)
    (hl : (p2.endLine == p3.line) = true := by rfl) (hst : starEach [e] X.env = (false, eval e X.env) :: starEach [] X.env := by rfl) (hp : (backTo p3 (starEach [] X.env)).any (·.1) = false := by rfl) :
    DS X B E (.Expr (.Call (.Attribute (.Name x p1) "extend" p2) [e] [] p3) pos) Ψ := fun σ G H D S k => by
  refine fS (ps_expr (pe_bm PySem.F.plainAttrs_list PySem.F.slot_list_extend PySem.F.type_list_extend (MtR.or mt_extend mt_extendT) (pe_var (i := i) hN hv hd hcd) (pa_cons qE pa_nil hst) hb hfew hl hst hp) hs) ?_
  obtain ⟨hv, gl, h0, m, xs, hl, r, z⟩ := S.sl i _ hE
  refine ⟨_, hv, tyL hl, ?_⟩
  refine h σ G H _ S ?_
  intro v d G1 H1 S1 g1 r1 f1
  obtain ⟨es, hd, hz, f1⟩ := f1
  obtain ⟨hv1, gl1, _, _, xs1, hl1, r2, z1⟩ := S1.sl i _ hE
  rcases hd with rfl | rfl
  · cases r1 with
    | @lst a ys _ h1 z1 r3 =>
      refine .inl ⟨l, a, xs1, ys, rfl, rfl, hl1, S1.cln.sub _ _ h1, by rw [r2.len, r3.len]; exact hz, ?_⟩
      exact k.nx _ σ G1 _ (S1.own hE (r2.app r3) (by rw [List.length_append]; exact hz)) f1
  · cases r1 with
    | @tup a ys _ h1 z1 r3 =>
      refine .inr ⟨l, a, xs1, ys, rfl, rfl, hl1, S1.cln.sub _ _ h1, by rw [r2.len, r3.len]; exact hz, ?_⟩
      exact k.nx _ σ G1 _ (S1.own hE (r2.app r3) (by rw [List.length_append]; exact hz)) f1
/-! ### in, of texts -/
abbrev inK (neg : Bool) : Dt → Dt → (Dt → Prop) → Prop := fun d1 d2 Φ => ∃ (w : Str) (ws : List Str), d1 = .str w ∧ (d2 = .lst (ws.map .str) ∨ d2 = .tup (ws.map .str)) ∧ Φ (.bl (if neg then !decide (w ∈ ws) else decide (w ∈ ws)))
theorem inV_str (w : Str) : ∀ ws : List Str, inV (.str w) (ws.map .str) = decide (w ∈ ws)
  | [] => rfl
  | a :: ws => by
    have h := inV_str w ws
    unfold inV at h ⊢
    rw [List.map_cons, List.any_cons, h]
    show ((a == w) || decide (w ∈ ws)) = _
    by_cases e : a = w
    · subst e; simp
    · have : (a == w) = false := by simpa using e
      rw [this, Bool.false_or]
      congr 1
      rw [List.mem_cons]
      exact propext ⟨fun h => .inr h, fun h => h.elim (fun q => (e q.symm).elim) id⟩
theorem flat_strs (ws : List Str) : (ws.map V.str).all flatV = true := by
  rw [List.all_map]; exact List.all_eq_true.mpr fun _ _ => rfl
theorem ok_inS (neg : Bool) : OkR X (rIn X.K neg) (inK neg) := fun B E σ G H x y d1 d2 Φ Q S r1 r2 k q => by
  obtain ⟨w, ws, rfl, hd, f⟩ := k
  cases r1
  rcases hd with rfl | rfl
  · cases r2 with
    | lst h z r =>
      have e := rpa_strs r
      subst e
      exact ⟨_, _, rfl, .inl (SqL.of (S.cln.sub _ _ h)), rfl, flat_strs ws, by rw [inV_str]; exact q _ _ G H (Grow.rf S.cln) (.bl _) f⟩
  · cases r2 with
    | tup h z r =>
      have e := rpa_strs r
      subst e
      exact ⟨_, _, rfl, .inr (SqT.of (S.cln.sub _ _ h)), rfl, flat_strs ws, by rw [inV_str]; exact q _ _ G H (Grow.rf S.cln) (.bl _) f⟩
theorem dw_inS (h : DW X B E a fun d1 => DW X B E b fun d2 => inK false d1 d2 Φ) (hm : behindInMarks .In b = false := by rfl) : DW X B E (.Compare a [.In] [b] pos) Φ := dw_cmp op_in_seq (ok_inS false) hm h
theorem dt_inS {Θ : Bool → Prop} (h : DW X B E a fun d1 => DW X B E b fun d2 => inK false d1 d2 fun d => ∃ z, d = .bl z ∧ Θ z) (hm : behindInMarks .In b = false := by rfl) : DT X B E (.Compare a [.In] [b] pos) Θ := dt_cmp op_in_seq (ok_inS false) hm h
theorem dt_notInS {Θ : Bool → Prop} (h : DW X B E a fun d1 => DW X B E b fun d2 => inK true d1 d2 fun d => ∃ z, d = .bl z ∧ Θ z) (hm : behindInMarks .NotIn b = false := by rfl) : DT X B E (.Compare a [.NotIn] [b] pos) Θ := dt_cmp op_notIn_seq (ok_inS true) hm h
/-- .. in a written tuple of texts of the module -/
abbrev inWK (K : PySem.W.Frag) (neg : Bool) : Dt → Dt → (Dt → Prop) → Prop := fun d1 d2 Φ => ∃ (w : Str) (ws : List Str) (a : Addr), d1 = .str w ∧ d2 = .raw (.ref a) ∧ (∀ H, SqT K H a (ws.map V.str)) ∧ Φ (.bl (if neg then !decide (w ∈ ws) else decide (w ∈ ws)))
theorem ok_inW (neg : Bool) : OkR X (rIn X.K neg) (inWK X.K neg) := fun B E σ G H x y d1 d2 Φ Q S r1 r2 k q => by
  obtain ⟨w, ws, a, rfl, rfl, hs, f⟩ := k
  cases r1
  cases r2
  exact ⟨_, _, rfl, .inr (hs H), rfl, flat_strs ws, by rw [inV_str]; exact q _ _ G H (Grow.rf S.cln) (.bl _) f⟩
theorem dt_notInW {Θ : Bool → Prop} (h : DW X B E a fun d1 => DW X B E b fun d2 => inWK X.K true d1 d2 fun d => ∃ z, d = .bl z ∧ Θ z) (hm : behindInMarks .NotIn b = false := by rfl) : DT X B E (.Compare a [.NotIn] [b] pos) Θ := dt_cmp op_notIn_seq (ok_inW true) hm h
/-! ### data of any depth -/
mutual
def pln : Dt → PyData
  | .non => .none
  | .bl b => .bool b
  | .int i => .int i
  | .str s => .str s
  | .lst l => .list (plnL l)
  | .tup l => .tuple (plnL l)
  | _ => .none
def plnL : List Dt → List PyData
  | [] => []
  | a :: l => pln a :: plnL l
end
mutual
def isP : Dt → Bool
  | .lst l => isPL l
  | .tup l => isPL l
  | .dic _ => false
  | .obj _ _ => false
  | .raw _ => false
  | .scr _ => false
  | _ => true
def isPL : List Dt → Bool
  | [] => true
  | a :: l => isP a && isPL l
end
section
variable {K : PySem.W.Frag} {G H : Hp}
mutual
theorem rp_dp (c : Cln G H) : ∀ {v : V} {d : Dt}, Rp K G v d → isP d = true → Dp K H v (pln d)
  | _, _, .non, _ => .non
  | _, _, .bl b, _ => .bl b
  | _, _, .int i, _ => .int i
  | _, _, .str x, _ => .str x
  | _, _, .lst h z r, p => .lst (SqL.of (c.sub _ _ h)) (rpa_dp c r p)
  | _, _, .tup h z r, p => .tup (SqT.of (c.sub _ _ h)) (rpa_dp c r p)
  | _, _, .dic h r, p => nomatch p
  | _, _, .obj h r, p => nomatch p
  | _, _, .raw v, p => nomatch p
  | _, _, .scr h, p => nomatch p
theorem rpa_dp (c : Cln G H) : ∀ {vs : List V} {ds : List Dt}, RpA K G vs ds → isPL ds = true → DpAll K H vs (plnL ds)
  | _, _, .nil, _ => .nil
  | _, _, .cons h r, p => .cons (rp_dp c h (Bool.and_eq_true_iff.mp p).1) (rpa_dp c r (Bool.and_eq_true_iff.mp p).2)
end
end
def okP (d : Dt) : Prop := isP d = true ∧ SeqAt.shaped (pln d) = true
abbrev eqDK (neg : Bool) : Dt → Dt → (Dt → Prop) → Prop := fun d1 d2 Φ => okP d1 ∧ okP d2 ∧ Φ (.bl (if neg then !PyData.eqv (pln d1) (pln d2) else PyData.eqv (pln d1) (pln d2)))
theorem ok_eqD : OkR X (rEqD X.K) (eqDK false) := fun B E σ G H x y d1 d2 Φ Q S r1 r2 k q => by
  obtain ⟨h1, h2, f⟩ := k
  exact ⟨_, _, rp_dp S.cln r1 h1.1, rp_dp S.cln r2 h2.1, h1.2, h2.2, q _ _ G H (Grow.rf S.cln) (.bl _) f⟩
theorem ok_neD : OkR X (rNeD X.K) (eqDK true) := fun B E σ G H x y d1 d2 Φ Q S r1 r2 k q => by
  obtain ⟨h1, h2, f⟩ := k
  exact ⟨_, _, rp_dp S.cln r1 h1.1, rp_dp S.cln r2 h2.1, h1.2, h2.2, q _ _ G H (Grow.rf S.cln) (.bl _) f⟩
theorem dw_eqD (hu : X.A.units + 64 < cLine) (h : DW X B E a fun d1 => DW X B E b fun d2 => eqDK false d1 d2 Φ) : DW X B E (.Compare a [.Eq] [b] pos) Φ := dw_cmp (op_eqD hu) ok_eqD (nomark b) h
theorem dt_eqD {Θ : Bool → Prop} (hu : X.A.units + 64 < cLine) (h : DW X B E a fun d1 => DW X B E b fun d2 => eqDK false d1 d2 fun d => ∃ z, d = .bl z ∧ Θ z) : DT X B E (.Compare a [.Eq] [b] pos) Θ := dt_cmp (op_eqD hu) ok_eqD (nomark b) h
theorem dw_neD (hu : X.A.units + 64 < cLine) (h : DW X B E a fun d1 => DW X B E b fun d2 => eqDK true d1 d2 Φ) : DW X B E (.Compare a [.NotEq] [b] pos) Φ := dw_cmp (op_neD hu) ok_neD (nomark b) h
theorem dt_neD {Θ : Bool → Prop} (hu : X.A.units + 64 < cLine) (h : DW X B E a fun d1 => DW X B E b fun d2 => eqDK true d1 d2 fun d => ∃ z, d = .bl z ∧ Θ z) : DT X B E (.Compare a [.NotEq] [b] pos) Θ := dt_cmp (op_neD hu) ok_neD (nomark b) h
/-- x not in l -/
abbrev notInDK : Dt → Dt → (Dt → Prop) → Prop := fun d1 d2 Φ => ∃ l, d2 = .lst l ∧ okP d1 ∧ okP (.lst l) ∧ Φ (.bl (!(plnL l).any fun z => PyData.eqv z (pln d1)))
theorem ok_notInD : OkR X (rNotInD X.K) notInDK := fun B E σ G H x y d1 d2 Φ Q S r1 r2 k q => by
  obtain ⟨l, rfl, h1, h2, f⟩ := k
  exact ⟨_, _, rp_dp S.cln r1 h1.1, rp_dp S.cln r2 h2.1, h1.2, h2.2, q _ _ G H (Grow.rf S.cln) (.bl _) f⟩
theorem dt_notInD {Θ : Bool → Prop} (hu : X.A.units + 65 < cLine) (h : DW X B E a fun d1 => DW X B E b fun d2 => notInDK d1 d2 fun d => ∃ z, d = .bl z ∧ Θ z) (hm : behindInMarks .NotIn b = false := by rfl) : DT X B E (.Compare a [.NotIn] [b] pos) Θ := dt_cmp (op_notInD hu) ok_notInD hm h
/-! ### xs == [], xs != [] -/
def rNil (K : PySem.W.Frag) (neg : Bool) : R2 := fun x y H Q => ∃ a b xs, x = .ref a ∧ y = .ref b ∧ SqL K H a xs ∧ SqL K H b [] ∧ Q (.bl (if neg then !xs.isEmpty else xs.isEmpty)) H
theorem op_nil (hu : X.A.units < cLine) : OpR X (compareOp .Eq) (rNil X.K false) := by
  intro pins s σ H x y v u Q I rx ry h
  obtain ⟨a, b, xs, rfl, rfl, ha, hb, q⟩ := h
  cases rx
  cases ry
  obtain ⟨its, r, p1, _⟩ := I.list ha
  obtain ⟨its2, r2, p2, _⟩ := I.list hb
  cases r2
  cases r with
  | nil => exact SeqAt.RcAt.lists (e := fun _ => true) p1.isList p2.isList rfl hu (fun j h1 _ => absurd h1 (Nat.not_lt_zero j)) _ _ _ _ ⟨.bl _, H, I, rfl, q⟩
  | cons r0 r1 => exact SeqAt.RcAt.lists_lengths p1.isList p2.isList (by simp) hu _ _ _ _ ⟨.bl _, H, I, rfl, q⟩
theorem op_nnil (hu : X.A.units < cLine) : OpR X (compareOp .NotEq) (rNil X.K true) := by
  intro pins s σ H x y v u Q I rx ry h
  obtain ⟨a, b, xs, rfl, rfl, ha, hb, q⟩ := h
  cases rx
  cases ry
  obtain ⟨its, r, p1, _⟩ := I.list ha
  obtain ⟨its2, r2, p2, _⟩ := I.list hb
  cases r2
  cases r with
  | nil => exact SeqAt.RcNeAt.lists (e := fun _ => true) p1.isList p2.isList rfl hu (fun j h1 _ => absurd h1 (Nat.not_lt_zero j)) _ _ _ _ ⟨.bl _, H, I, rfl, q⟩
  | cons r0 r1 => exact SeqAt.RcNeAt.lists_lengths p1.isList p2.isList (by simp) hu _ _ _ _ ⟨.bl _, H, I, rfl, q⟩
abbrev nilK (neg : Bool) : Dt → Dt → (Dt → Prop) → Prop
  | .lst l, .lst [], Φ => Φ (.bl (if neg then !l.isEmpty else l.isEmpty))
  | _, _, _ => False
theorem rpa_emp {K : PySem.W.Frag} {G : Hp} {vs : List V} {ds : List Dt} (r : RpA K G vs ds) : vs.isEmpty = ds.isEmpty := by cases r <;> rfl
theorem ok_nil (neg : Bool) : OkR X (rNil X.K neg) (nilK neg) := fun B E σ G H x y d1 d2 Φ Q S r1 r2 k q => by
  unfold nilK at k
  split at k
  · cases r1 with
    | lst h z r => cases r2 with
      | lst h2 z2 r2 => cases r2; exact ⟨_, _, _, rfl, rfl, SqL.of (S.cln.sub _ _ h), SqL.of (S.cln.sub _ _ h2), by rw [rpa_emp r]; exact q _ _ G H (Grow.rf S.cln) (.bl _) k⟩
  · exact k.elim
theorem dt_nil {Θ : Bool → Prop} (hu : X.A.units < cLine) (h : DW X B E a fun d1 => DW X B E b fun d2 => nilK false d1 d2 fun d => ∃ z, d = .bl z ∧ Θ z) : DT X B E (.Compare a [.Eq] [b] pos) Θ := dt_cmp (op_nil hu) (ok_nil false) (nomark b) h
theorem dt_nnil {Θ : Bool → Prop} (hu : X.A.units < cLine) (h : DW X B E a fun d1 => DW X B E b fun d2 => nilK true d1 d2 fun d => ∃ z, d = .bl z ∧ Θ z) : DT X B E (.Compare a [.NotEq] [b] pos) Θ := dt_cmp (op_nnil hu) (ok_nil true) (nomark b) h
/-- .. of an own list -/
theorem own_nil {neg : Bool} {op : CmpOp} {x : Str} {Θ : Bool → Prop} (ho : OpR X (compareOp op) (rNil X.K neg)) (hm : behindInMarks op (.List [] p2) = false) (i : Nat) {l : Addr} {ds : List Dt} (hE : E[i]? = some (.own l ds)) (h : Θ (if neg then !ds.isEmpty else ds.isEmpty)) (hN : X.N[i]? = some x)
    (hv : Vis X.env.scope x) (hd : (x == ("__debug__" : Str)) = false) (hcd : (x == ("__classdict__" : Str)) = false) : DT X B E (.Compare (.Name x p1) [op] [.List [] p2] pos) Θ := fun σ G H Q S k => by
  refine fT (pt_cmpR ho (pe_var (i := i) hN hv hd hcd) (pe_lst pa_nil) hm) ?_
  obtain ⟨hv, gl, h0, m, xs, hl, r, z⟩ := S.sl i _ hE
  refine ⟨_, hv, Nat.zero_le _, fun p hp => ?_⟩
  have np : l ≠ p := fun e => by rw [e, hp] at hl; cases hl
  refine ⟨l, p, xs, rfl, rfl, SqL.of (by rw [upd_ne np]; exact hl), SqL.of upd_same, _, rfl, ?_⟩
  rw [rpa_emp r]
  have g := Grow.dirt (G := G) (H := H) (o := .lst []) S.cln hp
  exact k _ G _ (S.grow g) g.ext h
theorem dt_ownNil {x : Str} {Θ : Bool → Prop} (i : Nat) (hu : X.A.units < cLine) {l : Addr} {ds : List Dt} (hE : E[i]? = some (.own l ds)) (h : Θ ds.isEmpty) (hN : X.N[i]? = some x := by rfl)
    (hv : Vis X.env.scope x := by first | exact Or.inl rfl | exact Or.inr (Or.inl rfl) | exact Or.inr (Or.inr rfl)) (hd : (x == ("__debug__" : Str)) = false := by decide) (hcd : (x == ("__classdict__" : Str)) = false := by decide) : DT X B E (.Compare (.Name x p1) [.Eq] [.List [] p2] pos) Θ := own_nil (op_nil hu) rfl i hE h hN hv hd hcd
theorem dt_ownNNil {x : Str} {Θ : Bool → Prop} (i : Nat) (hu : X.A.units < cLine) {l : Addr} {ds : List Dt} (hE : E[i]? = some (.own l ds)) (h : Θ (!ds.isEmpty)) (hN : X.N[i]? = some x := by rfl)
    (hv : Vis X.env.scope x := by first | exact Or.inl rfl | exact Or.inr (Or.inl rfl) | exact Or.inr (Or.inr rfl)) (hd : (x == ("__debug__" : Str)) = false := by decide) (hcd : (x == ("__classdict__" : Str)) = false := by decide) : DT X B E (.Compare (.Name x p1) [.NotEq] [.List [] p2] pos) Θ := own_nil (op_nnil hu) rfl i hE h hN hv hd hcd
end
end N
set_option Elab.async false
set_option linter.all false
set_option maxRecDepth 100000
set_option maxHeartbeats 1000000
namespace N
open PySem
open PySem.Spec
open PyProof.Rows
open L2
/-! Q1: the walks of the measures. -/
abbrev FnT (K : PySem.W.Frag) (x : Str) (st : Stmt) (f : Addr) (fd : FuncData) : Prop := FunD K x x (defArgs st) (defBody st) (defScope st) [] [] f fd
theorem lc_lst {X : Cx} {B : Bd} {E : Ev} {Φ : Dt → Prop} {es : List Expr} {pos : Pos} (h : DA X B E es fun ds => ds.length ≤ sizeLine ∧ Φ (.lst ds)) : DW X B E (.List es pos) Φ := dw_n (dn_lst h)
section
variable {P : Program} {w : World} {K : PySem.W.Frag} {mg : Str → Option Value} {base : Heap} {T : List (Addr × Str)} {g : Addr} {fd : FuncData}
def isIntD : Dt → Bool
  | .int _ => true
  | _ => false
def isNumD : Dt → Bool
  | .int i => decide (0 ≤ i)
  | _ => false
def f_is_integer : FT := fun ds Φ => ∃ d, ds = [d] ∧ (tyN d).isSome = true ∧ Φ (.bl (isIntD d))
theorem ok_is_integer (bi : BI mg) (F : FnT K "is_integer" s_is_integer g fd) : FnOk P w K mg base CX0 1 g fd p_is_integer (spP K T f_is_integer) := by
  refine fn_okD bdOk0 F sc_is_integer (fun ds Φ h => ?_) (by decide) (fun cdv A outer s H XE B ds Φ hM hHI hT hr hf => ?_)
  · obtain ⟨x, rfl, _⟩ := h; rfl
  obtain ⟨x, rfl, ht, hf⟩ := hf
  subst hT
  cases x <;> try (cases ht; done)
  case int i =>
    refine dl_cons (ds_ret (dw_and (dw_isi (BI.isinstance ‹_›) (da_cons (dw_v rfl (da_cons (dw_tInt bi (da_nil ⟨_, _, _, _, rfl, rfl, rfl, true, rfl, ifB_t (dw_one (dw_not ?_))⟩))))))))
    exact dw_isi (BI.isinstance ‹_›) (da_cons (dw_v rfl (da_cons (dw_tBool bi (da_nil ⟨_, _, _, _, rfl, rfl, rfl, _, rfl, hf⟩)))))
  case bl i =>
    refine dl_cons (ds_ret (dw_and (dw_isi (BI.isinstance ‹_›) (da_cons (dw_v rfl (da_cons (dw_tInt bi (da_nil ⟨_, _, _, _, rfl, rfl, rfl, true, rfl, ifB_t (dw_one (dw_not ?_))⟩))))))))
    exact dw_isi (BI.isinstance ‹_›) (da_cons (dw_v rfl (da_cons (dw_tBool bi (da_nil ⟨_, _, _, _, rfl, rfl, rfl, _, rfl, hf⟩)))))
  all_goals exact dl_cons (ds_ret (dw_and (dw_isi (BI.isinstance ‹_›) (da_cons (dw_v rfl (da_cons (dw_tInt bi (da_nil ⟨_, _, _, _, rfl, rfl, rfl, false, rfl, ifB_f hf⟩))))))))
def f_is_number : FT := fun ds Φ => ∃ d, ds = [d] ∧ (tyN d).isSome = true ∧ Φ (.bl (isNumD d))
theorem ok_is_number (C_is_integer : Cal P w K mg base 1 "is_integer" p_is_integer (spP K T f_is_integer)) (F : FnT K "is_number" s_is_number g fd) : FnOk P w K mg base CX0 2 g fd p_is_number (spP K T f_is_number) := by
  refine fn_okD bdOk0 F sc_is_number (fun ds Φ h => ?_) (by decide) (fun cdv A outer s H XE B ds Φ hM hHI hT hr hf => ?_)
  · obtain ⟨x, rfl, _⟩ := h; rfl
  obtain ⟨x, rfl, ht, hf⟩ := hf
  subst hT
  refine dl_cons (ds_ret (dw_and (dw_calP C_is_integer ‹Room _ _› (by decide) (da_cons (dw_v rfl (da_nil ⟨_, rfl, ht, _, rfl, ?_⟩))))))
  cases x <;> first | exact ifB_f hf | exact ifB_t (dw_one (dw_ge (dw_v rfl (dw_int hf))))
def f_differences : FT := fun ds Φ => ∃ a b : List Int, ds = [vecD a, vecD b] ∧ Φ (vecD (diffs a b))
def dif2 : Dt → Dt
  | .tup [.int a, .int b] => .int (a - b)
  | _ => .non
theorem ok_differences (bi : BI mg) (F : FnT K "differences" s_differences g fd) : FnOk P w K mg base CX0 1 g fd p_differences (spP K T f_differences) := by
  refine fn_okD bdOk0 F sc_differences (fun ds Φ h => ?_) (by decide) (fun cdv A outer s H XE B ds Φ hM hHI hT hr hf => ?_)
  · obtain ⟨x, y, rfl, _⟩ := h; rfl
  obtain ⟨x, y, rfl, hf⟩ := hf
  subst hT
  refine dl_cons (ds_ret (dw_tuple (BI.tuple ‹_›) (da_cons (dw_n (dn_l [("mine", 2), ("yours", 3)] sc_differences.nd (show BlkOk n_differences (defScope s_differences) _ _ from ⟨rfl, by decide +kernel, by decide +kernel, by decide +kernel, by decide +kernel⟩) (lcM [("mine", 2), ("yours", 3)] (fun _ _ _ _ _ _ _ => dg_tup (n := 2) rfl (dgs_cons (dg_name 2 sc_differences.nd) (dgs_cons (dg_name 3 sc_differences.nd) (dgs_nil)))) (by decide) (di_zip2 (BI.zip ‹_›) (da_cons (dw_v rfl (da_cons (dw_v rfl (da_nil (⟨_, _, rfl, ⟨fun _ => true, dif2, ?t, ?f⟩⟩)))))))))))))
  case t =>
    intro gl ow d hd
    obtain ⟨i, hi⟩ := List.getElem?_of_mem hd
    rw [List.zipWith_map, List.getElem?_zipWith] at hi
    cases h1 : x[i]? with
    | none => rw [h1] at hi; cases hi
    | some p =>
      cases h2 : y[i]? with
      | none => rw [h1, h2] at hi; cases hi
      | some q =>
        rw [h1, h2] at hi
        cases hi
        exact ⟨rfl, rfl, fun s H C cl fp => dq_nil ⟨rfl, fun _ s H C cl fp => dw_sub (dw_v rfl (dw_v rfl rfl))⟩⟩
  case f =>
    refine da_nil (.inl ⟨_, rfl, ?h1⟩)
    have e : ((List.zipWith (fun x y => Dt.tup [x, y]) (x.map Dt.int) (y.map Dt.int)).filter fun _ => true).map dif2 = (diffs x y).map .int := by
      rw [List.filter_eq_self.mpr (fun _ _ => rfl), List.zipWith_map, List.map_zipWith]
      unfold diffs
      rw [List.map_zipWith]
      rfl
    rw [e]; exact hf
/-- a vector that the program may meet -/
def Sv' (v : List Int) : Prop := v.length ≤ 100 ∧ ∀ x ∈ v, -1000 ≤ x ∧ x ≤ 1000
def f_part_of : FT := fun ds Φ => ∃ (k : Kd) (i : Int), ds = [.str (kS k), .int i] ∧ (-3000 ≤ i ∧ i ≤ 3000) ∧ Φ (.int (partOf k i))
theorem ok_part_of (bi : BI mg) (F : FnT K "part_of" s_part_of g fd) : FnOk P w K mg base CX0 1 g fd p_part_of (spP K T f_part_of) := by
  refine fn_okD bdOk0 F sc_part_of (fun ds Φ h => ?_) (by decide) (fun cdv A outer s H XE B ds Φ hM hHI hT hr hf => ?_)
  · obtain ⟨x, y, rfl, _⟩ := h; rfl
  obtain ⟨k, i, rfl, hi, hf⟩ := hf
  subst hT
  refine dl_cons (ds_if (dt_eq (dw_v rfl (dw_str (⟨_, rfl, ifB_d (fun h => ?h1) (fun h => ?h2)⟩)))))
  case h1 =>
    cases kS_inj (b := .square) h
    refine dl_cons (ds_ret (dw_mul (dw_v rfl (dw_v rfl (⟨.inl ⟨by omega, by omega⟩, hf⟩)))))
  case h2 =>
    refine dl_nil ?_
    refine dl_cons (ds_if (dt_eq (dw_v rfl (dw_str (⟨_, rfl, ifB_d (fun h => ?h5) (fun h => ?h6)⟩)))))
    case h5 =>
      cases kS_inj (b := .unlike) h
      refine dl_cons (ds_ret (dw_if (dt_ne (dw_v rfl (dw_int (⟨_, rfl, ifB_n (fun h => dw_int ?h8) (fun h => dw_int ?h9)⟩))))))
      case h8 => simp only [partOf] at hf; rw [if_pos h] at hf; exact hf
      case h9 => simp only [partOf] at hf; rw [if_neg (fun q => q h)] at hf; exact hf
    case h6 =>
      refine dl_nil ?_
      refine dl_cons (ds_ret (dw_abs (BI.abs ‹_›) (da_cons (dw_v rfl (da_nil (⟨_, rfl, ?h10⟩))))))
      rename_i h0
      cases k <;> first | exact (h0 rfl).elim | exact (h rfl).elim | exact hf
def f_joined_parts : FT := fun ds Φ => ∃ (k : Kd) (l : List Int), ds = [.str (kS k), .lst (l.map .int)] ∧ Φ (.int (joined k l))
theorem ok_joined_parts (bi : BI mg) (F : FnT K "joined_parts" s_joined_parts g fd) : FnOk P w K mg base CX0 1 g fd p_joined_parts (spP K T f_joined_parts) := by
  refine fn_okD bdOk0 F sc_joined_parts (fun ds Φ h => ?_) (by decide) (fun cdv A outer s H XE B ds Φ hM hHI hT hr hf => ?_)
  · obtain ⟨x, y, rfl, _⟩ := h; rfl
  obtain ⟨k, l, rfl, hf⟩ := hf
  subst hT
  refine dl_cons (ds_ret (dw_if (dt_eq (dw_v rfl (dw_str (⟨_, rfl, ifB_d (fun h => ?h2) (fun h => ?h3)⟩))))))
  case h2 =>
    cases kS_inj (b := .most) h
    refine dw_maxDef (BI.max ‹_›) (by have := hr.units; show A.units + 3 + 1 < _; have : A.units + 3 + 64 < cLine := hr.units; omega) (dw_v rfl (⟨_, rfl, fun h => ?z1, fun a t h => ?z2⟩))
    case z1 => subst h; exact hf
    case z2 => subst h; exact hf
  case h3 =>
    refine dw_sum (BI.sum ‹_›) (da_cons (dw_v rfl (da_nil (⟨_, rfl, ?h1⟩))))
    cases k <;> first | exact (h rfl).elim | exact hf
def f_distance : FT := fun ds Φ => ∃ (k : Kd) (a b : List Int), ds = [.str (kS k), vecD a, vecD b] ∧ Sv' a ∧ Sv' b ∧ Φ (.int (dist k a b))
def unI : Dt → Int
  | .int i => i
  | _ => 0
theorem unI_map : ∀ l : List Int, (l.map Dt.int).map unI = l
  | [] => rfl
  | a :: l => by rw [List.map_cons, List.map_cons, unI_map l]; rfl
theorem filter_tt {α : Type} (l : List α) : l.filter (fun _ => true) = l := List.filter_eq_self.mpr (fun _ _ => rfl)
theorem diffs_mem {a b : List Int} (ha : Sv' a) (hb : Sv' b) {i : Int} (h : i ∈ diffs a b) : -3000 ≤ i ∧ i ≤ 3000 := by
  unfold diffs at h
  obtain ⟨j, hj⟩ := List.getElem?_of_mem h
  rw [List.getElem?_zipWith] at hj
  cases h1 : a[j]? with
  | none => rw [h1] at hj; cases hj
  | some p =>
    cases h2 : b[j]? with
    | none => rw [h1, h2] at hj; cases hj
    | some q =>
      rw [h1, h2] at hj
      cases hj
      have := ha.2 p (List.mem_of_getElem? h1)
      have := hb.2 q (List.mem_of_getElem? h2)
      omega
theorem ok_distance (C_differences : Cal P w K mg base 1 "differences" p_differences (spP K T f_differences)) (C_part_of : Cal P w K mg base 1 "part_of" p_part_of (spP K T f_part_of)) (C_joined_parts : Cal P w K mg base 1 "joined_parts" p_joined_parts (spP K T f_joined_parts)) (F : FnT K "distance" s_distance g fd) : FnOk P w K mg base CX0 2 g fd p_distance (spP K T f_distance) := by
  refine fn_okD bdOk0 F sc_distance (fun ds Φ h => ?_) (by decide) (fun cdv A outer s H XE B ds Φ hM hHI hT hr hf => ?_)
  · obtain ⟨x, y, z, rfl, _⟩ := h; rfl
  obtain ⟨k, a, b, rfl, ha, hb, hf⟩ := hf
  subst hT
  refine dl_cons (ds_ret (dw_calP C_joined_parts ‹Room _ _› (by decide) (da_cons (dw_v rfl (da_cons (dw_n (dn_l [("difference", 3)] sc_distance.nd (show BlkOk n_distance (defScope s_distance) _ _ from ⟨rfl, by decide +kernel, by decide +kernel, by decide +kernel, by decide +kernel⟩) (lcM [("difference", 3)] (fun _ _ _ _ _ _ _ => dg_name 3 sc_distance.nd) (by decide) (di_tup (dw_calP C_differences ‹Room _ _› (by decide) (da_cons (dw_v rfl (da_cons (dw_v rfl (da_nil ⟨_, _, rfl, _, rfl, fun _ => true, fun d => .int (partOf k (unI d)), ?t, ?f⟩)))))))))))))))
  case t =>
    intro gl ow d hd
    obtain ⟨i, hi, rfl⟩ := List.mem_map.mp hd
    exact fun s H C cl fp => dq_nil ⟨rfl, fun _ s H C cl fp => dw_calP C_part_of ‹Room _ _› (by decide) (da_cons (dw_v rfl (da_cons (dw_v rfl (da_nil ⟨_, _, rfl, diffs_mem ha hb hi, rfl⟩)))))⟩
  case f =>
    refine da_nil ⟨k, (diffs a b).map (partOf k), ?_, hf⟩
    rw [filter_tt, List.map_map, List.map_map]
    rfl
def f_doubled_root : FT := fun ds Φ => ∃ a b : Int, ds = [.int a, .int b] ∧ (0 ≤ a ∧ a ≤ 1000000000) ∧ (0 ≤ b ∧ b ≤ 1000000000) ∧ Φ (.int (droot a b))
theorem ok_doubled_root (bi : BI mg) (F : FnT K "doubled_root" s_doubled_root g fd) : FnOk P w K mg base CX0 1 g fd p_doubled_root (spP K T f_doubled_root) := by
  refine fn_okD bdOk0 F sc_doubled_root (fun ds Φ h => ?_) (by decide) (fun cdv A outer s H XE B ds Φ hM hHI hT hr hf => ?_)
  · obtain ⟨x, y, rfl, _⟩ := h; rfl
  obtain ⟨a, b, rfl, ha, hb, hf⟩ := hf
  subst hT
  have hn : 0 ≤ 4 * a * b := Int.mul_nonneg (by omega) hb.1
  have hl : 4 * a * b ≤ 4000000000 * 1000000000 := Int.mul_le_mul (by omega) hb.2 hb.1 (by omega)
  refine dl_cons (ds_ret (dw_isqrt (BI.isqrt ‹_›) (dw_mul (dw_mul (dw_int (dw_v rfl ⟨.inl ⟨by decide, by decide⟩, dw_v rfl ⟨.inl ⟨by omega, by omega⟩, (4 * a * b).toNat, ?_, by omega, hf⟩⟩))))))
  rw [Int.toNat_of_nonneg hn]
def f_gap_of : FT := fun ds Φ => ∃ (k : Kd) (a b : Int), ds = [.str (kS k), .int a, .int b] ∧ (0 ≤ a ∧ a ≤ 1000000000) ∧ (0 ≤ b ∧ b ≤ 1000000000) ∧ Φ (.int (gapOf k a b))
theorem ok_gap_of (bi : BI mg) (C_doubled_root : Cal P w K mg base 1 "doubled_root" p_doubled_root (spP K T f_doubled_root)) (F : FnT K "gap_of" s_gap_of g fd) : FnOk P w K mg base CX0 2 g fd p_gap_of (spP K T f_gap_of) := by
  refine fn_okD bdOk0 F sc_gap_of (fun ds Φ h => ?_) (by decide) (fun cdv A outer s H XE B ds Φ hM hHI hT hr hf => ?_)
  · obtain ⟨x, y, z, rfl, _⟩ := h; rfl
  obtain ⟨k, a, b, rfl, ha, hb, hf⟩ := hf
  subst hT
  refine dl_cons (ds_ret (dw_if (dt_eq (dw_v rfl (dw_str (⟨_, rfl, ifB_d (fun h => ?h2) (fun h => ?h3)⟩))))))
  case h2 =>
    refine dw_sub (dw_add (dw_v rfl (dw_v rfl (dw_calP C_doubled_root ‹Room _ _› (by decide) (da_cons (dw_v rfl (da_cons (dw_v rfl (da_nil ⟨_, _, rfl, ha, hb, ?_⟩)))))))))
    unfold gapOf at hf
    rw [if_pos (kS_inj (b := .square) h)] at hf
    exact hf
  case h3 =>
    refine dw_abs (BI.abs ‹_›) (da_cons (dw_sub (dw_v rfl (dw_v rfl (da_nil ⟨_, rfl, ?_⟩)))))
    unfold gapOf at hf
    rw [if_neg (fun e => h (by rw [e]; rfl))] at hf
    exact hf
def f_least_beyond : FT := fun ds Φ => ∃ (k : Kd) (a b : Int), ds = [.str (kS k), .int a, .int b] ∧ (0 ≤ a ∧ a ≤ 1000000000) ∧ (0 ≤ b ∧ b ≤ 1000000000) ∧ Φ (.int (leastBeyond k a b))
theorem ok_least_beyond (C_gap_of : Cal P w K mg base 2 "gap_of" p_gap_of (spP K T f_gap_of)) (F : FnT K "least_beyond" s_least_beyond g fd) : FnOk P w K mg base CX0 3 g fd p_least_beyond (spP K T f_least_beyond) := by
  refine fn_okD bdOk0 F sc_least_beyond (fun ds Φ h => ?_) (by decide) (fun cdv A outer s H XE B ds Φ hM hHI hT hr hf => ?_)
  · obtain ⟨x, y, z, rfl, _⟩ := h; rfl
  obtain ⟨k, a, b, rfl, ha, hb, hf⟩ := hf
  subst hT
  unfold leastBeyond at hf
  refine dl_cons (ds_ret (dw_if (dt_gt (dw_v rfl (dw_v rfl (⟨_, rfl, ifB_d (fun h => ?h2) (fun h => dw_int ?h3)⟩))))))
  case h2 =>
    rw [if_pos h] at hf
    exact dw_calP C_gap_of ‹Room _ _› (by decide) (da_cons (dw_v rfl (da_cons (dw_v rfl (da_cons (dw_v rfl (da_nil ⟨_, _, _, rfl, ha, hb, hf⟩)))))))
  case h3 =>
    rw [if_neg h] at hf; exact hf
def f_gap_to : FT := fun ds Φ => ∃ a b c : Int, ds = [.int a, .int b, .int c] ∧ Φ (.int (gapTo a b c))
theorem ok_gap_to (F : FnT K "gap_to" s_gap_to g fd) : FnOk P w K mg base CX0 1 g fd p_gap_to (spP K T f_gap_to) := by
  refine fn_okD bdOk0 F sc_gap_to (fun ds Φ h => ?_) (by decide) (fun cdv A outer s H XE B ds Φ hM hHI hT hr hf => ?_)
  · obtain ⟨a, b, c, rfl, _⟩ := h; rfl
  obtain ⟨a, b, c, rfl, hf⟩ := hf
  unfold gapTo at hf
  refine dl_cons (ds_if (dt_lt (dw_v rfl (dw_v rfl (⟨_, rfl, ifB_d (fun h => ?h1) (fun h => ?h2)⟩)))))
  case h1 =>
    rw [if_pos h] at hf
    exact dl_cons (ds_ret (dw_sub (dw_v rfl (dw_v rfl hf))))
  case h2 =>
    rw [if_neg h] at hf
    refine dl_nil (dl_cons (ds_ret (dw_if (dt_gt (dw_v rfl (dw_v rfl (⟨_, rfl, ifB_d (fun h => ?h5) (fun h => ?h6)⟩)))))))
    case h5 => rw [if_pos h] at hf; exact dw_sub (dw_v rfl (dw_v rfl hf))
    case h6 => rw [if_neg h] at hf; exact dw_int hf
end
end N
set_option Elab.async false
set_option linter.all false
set_option maxRecDepth 100000
set_option maxHeartbeats 1000000
namespace N
open PySem
open PySem.Spec
open PyProof.Rows
open L2
/-! Q2: the walks of regions and sieves. -/
/-- what the head tells of a def -/
structure Hd (K : PySem.W.Frag) (mg : Str → Option Value) (x : Str) (st : Stmt) (ps : List Str) : Prop where
  ex : ∃ (g : Addr) (fd : FuncData), FnT K x st g fd ∧ mg x = some (.ref g) ∧ PySem.W.keepIn K (.ref g) = true ∧ Binds K fd ps []
theorem Hd.cal {P : Program} {w : World} {K : PySem.W.Frag} {mg : Str → Option Value} {base : Heap} {k : Nat} {x : Str} {st : Stmt} {ps : List Str} {sp : Sp} (h : Hd K mg x st ps) (ok : ∀ g fd, FnT K x st g fd → FnOk P w K mg base CX0 k g fd ps sp) : Cal P w K mg base k x ps sp := by
  obtain ⟨g, fd, F, hm, hk, hb⟩ := h.ex
  exact ⟨g, fd, ok g fd F, hm, hk, hb⟩
section
variable {P : Program} {w : World} {K : PySem.W.Frag} {mg : Str → Option Value} {base : Heap} {T : List (Addr × Str)} {g : Addr} {fd : FuncData}
def Rad (i : Int) : Prop := 0 ≤ i ∧ i ≤ 1000000000
def RgOk : Reg → Prop
  | .box lo hi => Sv' lo ∧ Sv' hi
  | .ball c r => Sv' c ∧ Rad r
  | .cell c a b => Sv' c ∧ Rad a ∧ Rad b
theorem partOf_bound (k : Kd) {i : Int} (h : -3000 ≤ i ∧ i ≤ 3000) : 0 ≤ partOf k i ∧ partOf k i ≤ 9000000 := by
  cases k
  case square =>
    simp only [partOf]
    have h1 : 0 ≤ i * i := by
      rcases Int.le_total 0 i with q | q
      · exact Int.mul_nonneg q q
      · exact Int.mul_nonneg_of_nonpos_of_nonpos q q
    refine ⟨h1, ?_⟩
    have h2 : i * i ≤ 3000 * 3000 := by
      rcases Int.le_total 0 i with q | q
      · exact Int.mul_le_mul h.2 h.2 q (by decide)
      · have e : i * i = -i * -i := by rw [Int.neg_mul_neg]
        rw [e]
        exact Int.mul_le_mul (by omega) (by omega) (by omega) (by decide)
    omega
  case unlike =>
    simp only [partOf]
    split <;> omega
  all_goals
    simp only [partOf, iabs]
    split <;> omega
theorem sum_bound {l : List Int} {b : Int} (hb : 0 ≤ b) (h : ∀ x ∈ l, 0 ≤ x ∧ x ≤ b) : 0 ≤ l.sum ∧ l.sum ≤ l.length * b := by
  induction l with
  | nil => simp
  | cons a l ih =>
    have h1 := h a List.mem_cons_self
    have h2 := ih fun x hx => h x (List.mem_cons_of_mem _ hx)
    rw [List.sum_cons, List.length_cons]
    refine ⟨by omega, ?_⟩
    have : ((l.length + 1 : Nat) : Int) * b = l.length * b + b := by rw [Int.natCast_add, Int.add_mul]; simp
    omega
theorem foldl_max_mem : ∀ (t : List Int) (h : Int), t.foldl max h = h ∨ t.foldl max h ∈ t
  | [], h => .inl rfl
  | a :: t, h => by
    rw [List.foldl_cons]
    rcases foldl_max_mem t (max h a) with e | e
    · rw [e]
      rcases Int.le_total h a with q | q
      · rw [Int.max_eq_right q]; exact .inr List.mem_cons_self
      · rw [Int.max_eq_left q]; exact .inl rfl
    · exact .inr (List.mem_cons_of_mem _ e)
theorem joined_bound (k : Kd) {l : List Int} (hl : l.length ≤ 100) (h : ∀ x ∈ l, 0 ≤ x ∧ x ≤ 9000000) : Rad (joined k l) := by
  have hs : Rad l.sum := by
    have := sum_bound (b := 9000000) (by decide) h
    refine ⟨this.1, Int.le_trans this.2 ?_⟩
    have : (l.length : Int) ≤ 100 := by omega
    omega
  cases k <;> first | exact hs | skip
  show Rad (maxD0 l)
  cases l with
  | nil => exact ⟨by decide, by decide⟩
  | cons a t =>
    rcases foldl_max_mem t a with e | e
    · have q := h a List.mem_cons_self
      show Rad (t.foldl max a)
      rw [e]; exact ⟨q.1, by omega⟩
    · have q := h _ (List.mem_cons_of_mem a e)
      exact ⟨q.1, by show t.foldl max a ≤ _; omega⟩
theorem diffs_len (a b : List Int) : (diffs a b).length ≤ a.length := by
  unfold diffs; rw [List.length_zipWith]; omega
theorem dist_bound (k : Kd) {a b : List Int} (ha : Sv' a) (hb : Sv' b) : Rad (dist k a b) := by
  refine joined_bound k (by rw [List.length_map]; exact Nat.le_trans (diffs_len a b) ha.1) fun x hx => ?_
  obtain ⟨i, hi, rfl⟩ := List.mem_map.mp hx
  exact partOf_bound k (diffs_mem ha hb hi)
def f_shell_of : FT := fun ds Φ => ∃ r : Reg, ds = [regD r] ∧ (∀ lo hi, r ≠ .box lo hi) ∧ Φ (.tup [.int (shell r).1, .int (shell r).2])
theorem ok_shell_of (F : FnT K "shell_of" s_shell_of g fd) : FnOk P w K mg base CX0 1 g fd p_shell_of (spP K T f_shell_of) := by
  refine fn_okD bdOk0 F sc_shell_of (fun ds Φ h => ?_) (by decide) (fun cdv A outer s H XE B ds Φ hM hHI hT hr hf => ?_)
  · obtain ⟨x, rfl, _⟩ := h; rfl
  obtain ⟨x, rfl, hx, hf⟩ := hf
  cases x with
  | box lo hi => exact (hx lo hi rfl).elim
  | ball c r => exact dl_cons (ds_ret (dw_if (dt_eq (dw_at (dw_v rfl (dw_int ⟨_, rfl, dw_str ⟨true, rfl, ifB_t (dw_tup (da_cons (dw_int (da_cons (dw_at (dw_v rfl (dw_int ⟨_, rfl, da_nil ⟨szl, hf⟩⟩)))))))⟩⟩))))))
  | cell c a b => exact dl_cons (ds_ret (dw_if (dt_eq (dw_at (dw_v rfl (dw_int ⟨_, rfl, dw_str ⟨false, rfl, ifB_f (dw_tup (da_cons (dw_at (dw_v rfl (dw_int ⟨_, rfl, da_cons (dw_at (dw_v rfl (dw_int ⟨_, rfl, da_nil ⟨szl, hf⟩⟩)))⟩)))))⟩⟩))))))
def f_floor_of_shell : FT := fun ds Φ => ∃ (k : Kd) (a b near far : Int), ds = [.str (kS k), .tup [.int a, .int b], .int near, .int far] ∧ Rad a ∧ Rad b ∧ Rad near ∧ Rad far ∧ Φ (.int (floorShell k (a, b) near far))
theorem ok_floor_of_shell (C_least_beyond : Cal P w K mg base 3 "least_beyond" p_least_beyond (spP K T f_least_beyond)) (C_gap_of : Cal P w K mg base 2 "gap_of" p_gap_of (spP K T f_gap_of)) (F : FnT K "floor_of_shell" s_floor_of_shell g fd) : FnOk P w K mg base CX0 4 g fd p_floor_of_shell (spP K T f_floor_of_shell) := by
  refine fn_okD bdOk0 F sc_floor_of_shell (fun ds Φ h => ?_) (by decide) (fun cdv A outer s H XE B ds Φ hM hHI hT hr hf => ?_)
  · obtain ⟨x, y, z, u, v, rfl, _⟩ := h; rfl
  obtain ⟨k, a, b, near, far, rfl, ha, hb, hn, hfr, hf⟩ := hf
  subst hT
  unfold floorShell at hf
  refine dl_cons (ds_asg (dg_tup (n := 2) rfl (dgs_cons (dg_v sc_floor_of_shell.nd) (dgs_cons (dg_v sc_floor_of_shell.nd) (dgs_nil)))) (dw_v rfl (⟨rfl, rfl, ?h1⟩)))
  refine dl_cons (ds_if (dt_gt (dw_v rfl (dw_v rfl (⟨_, rfl, ifB_d (fun h => ?h2) (fun h => ?h3)⟩)))))
  case h2 =>
    rw [if_pos h] at hf
    exact dl_cons (ds_ret (dw_calP C_least_beyond ‹Room _ _› (by decide) (da_cons (dw_v rfl (da_cons (dw_v rfl (da_cons (dw_v rfl (da_nil ⟨_, _, _, rfl, hn, hb, hf⟩)))))))))
  case h3 =>
    rw [if_neg h] at hf
    refine dl_nil (dl_cons (ds_ret (dw_if (dt_lt (dw_v rfl (dw_v rfl (⟨_, rfl, ifB_d (fun h => ?h8) (fun h => ?h9)⟩)))))))
    case h8 =>
      rw [if_pos h] at hf
      exact dw_calP C_gap_of ‹Room _ _› (by decide) (da_cons (dw_v rfl (da_cons (dw_v rfl (da_cons (dw_v rfl (da_nil ⟨_, _, _, rfl, ha, hfr, hf⟩)))))))
    case h9 =>
      rw [if_neg h] at hf
      exact dw_int hf
theorem gaps3_zip : ∀ (a b c : List Int), ((zip3D (a.map .int) (b.map .int) (c.map .int)).filter fun _ => true).map (fun d => match d with
    | .tup [.int x, .int y, .int z] => Dt.int (gapTo x y z)
    | _ => .non) = (gaps3 a b c).map .int
  | [], b, c => by cases b <;> rfl
  | x :: a, [], c => rfl
  | x :: a, y :: b, [] => rfl
  | x :: a, y :: b, z :: c => by
    have h := gaps3_zip a b c
    rw [filter_tt] at h ⊢
    simp only [List.map_cons, zip3D, gaps3]
    rw [h]
theorem gaps3_mem : ∀ {a b c : List Int}, (∀ x ∈ a, -1000 ≤ x ∧ x ≤ 1000) → (∀ x ∈ b, -1000 ≤ x ∧ x ≤ 1000) → (∀ x ∈ c, -1000 ≤ x ∧ x ≤ 1000) → ∀ i ∈ gaps3 a b c, -3000 ≤ i ∧ i ≤ 3000
  | [], b, c, _, _, _ => fun i h => by cases b <;> cases h
  | x :: a, [], c, _, _, _ => fun i h => by cases h
  | x :: a, y :: b, [], _, _, _ => fun i h => by cases h
  | x :: a, y :: b, z :: c, h1, h2, h3 => fun i h => by
    rcases List.mem_cons.mp h with rfl | h
    · have q1 := h1 x List.mem_cons_self
      have q2 := h2 y List.mem_cons_self
      have q3 := h3 z List.mem_cons_self
      unfold gapTo
      split
      · omega
      · split <;> omega
    · exact gaps3_mem (fun u hu => h1 u (List.mem_cons_of_mem _ hu)) (fun u hu => h2 u (List.mem_cons_of_mem _ hu)) (fun u hu => h3 u (List.mem_cons_of_mem _ hu)) i h
def f_floor_of : FT := fun ds Φ => ∃ (k : Kd) (r : Reg) (v : List Int), ds = [.str (kS k), regD r, vecD v] ∧ RgOk r ∧ Sv' v ∧ Φ (.int (floorOf k r v))
theorem ok_floor_of (bi : BI mg) (C_gap_to : Cal P w K mg base 1 "gap_to" p_gap_to (spP K T f_gap_to)) (C_part_of : Cal P w K mg base 1 "part_of" p_part_of (spP K T f_part_of)) (C_joined_parts : Cal P w K mg base 1 "joined_parts" p_joined_parts (spP K T f_joined_parts))
    (C_distance : Cal P w K mg base 2 "distance" p_distance (spP K T f_distance)) (C_shell_of : Cal P w K mg base 1 "shell_of" p_shell_of (spP K T f_shell_of)) (C_floor_of_shell : Cal P w K mg base 4 "floor_of_shell" p_floor_of_shell (spP K T f_floor_of_shell)) (F : FnT K "floor_of" s_floor_of g fd) : FnOk P w K mg base CX0 5 g fd p_floor_of (spP K T f_floor_of) := by
  refine fn_okD bdOk0 F sc_floor_of (fun ds Φ h => ?_) (by decide) (fun cdv A outer s H XE B ds Φ hM hHI hT hr hf => ?_)
  · obtain ⟨x, y, z, rfl, _⟩ := h; rfl
  obtain ⟨k, r, v, rfl, hR, hv, hf⟩ := hf
  subst hT
  have tail : ∀ (E : Ev) (c : List Int) (a b : Int), E = [.dt (.str (kS k)), .dt (regD r), .dt (vecD v), .un, .un, .un, .un, .un, .un] → (∀ lo hi, r ≠ .box lo hi) → shell r = (a, b) → atI (match regD r with | .tup l => l | _ => []) 1 = some (vecD c) → (∃ l, regD r = .tup l) → Sv' c → Rad a → Rad b → Φ (.int (floorShell k (a, b) (dist k c v) (dist k c v))) →
      DL (cxOf CX0 P w K mg base n_floor_of "floor_of" (defScope s_floor_of) g cdv A outer s H XE).nox B E ((defBody s_floor_of).drop 1) { nx := fun _ => Φ .non, rt := Φ } := by
    intro E c a b hE hne hs hat hl hc ha hb hf
    subst hE
    obtain ⟨l, hl⟩ := hl
    rw [hl] at hat
    have hd := dist_bound k hc hv
    refine dl_cons (ds_s sc_floor_of.nd (dw_calP C_distance ‹Room _ _› (by decide) (da_cons (dw_v rfl (da_cons (dw_at (dw_v rfl (dw_int ?q0))))))))
    rw [hl]
    refine ⟨_, hat, da_cons (dw_v rfl (da_nil ⟨_, _, _, rfl, hc, hv, ?q1⟩))⟩
    refine dl_cons (ds_ret (dw_calP C_floor_of_shell ‹Room _ _› (by decide) (da_cons (dw_v rfl (da_cons (dw_calP C_shell_of ‹Room _ _› (by decide) (da_cons (dw_v rfl (da_nil ⟨r, hl ▸ rfl, hne, ?q2⟩)))))))))
    rw [hs]
    exact da_cons (dw_v rfl (da_cons (dw_v rfl (da_nil ⟨k, a, b, _, _, rfl, ha, hb, hd, hd, hf⟩))))
  cases r with
  | box lo hi =>
    refine dl_cons (ds_if (dt_eq (dw_at (dw_v rfl (dw_int (⟨_, rfl, dw_str (⟨true, rfl, ifB_t ?_⟩)⟩))))))
    refine dl_cons (ds_setLd (ixS n_floor_of "gaps") [("low", 4), ("high", 5), ("part", 6)] sc_floor_of.nd (show BlkOk n_floor_of (defScope s_floor_of) _ _ from ⟨rfl, by decide +kernel, by decide +kernel, by decide +kernel, by decide +kernel⟩) (lcM [("low", 4), ("high", 5), ("part", 6)] (fun _ _ _ _ _ _ _ => dg_tup (n := 3) rfl (dgs_cons (dg_name 4 sc_floor_of.nd) (dgs_cons (dg_name 5 sc_floor_of.nd) (dgs_cons (dg_name 6 sc_floor_of.nd) (dgs_nil))))) (by decide) (di_zip3 (BI.zip ‹_›) (da_cons (dw_at (dw_v rfl (dw_int (⟨_, rfl, da_cons (dw_at (dw_v rfl (dw_int (⟨_, rfl, da_cons (dw_v rfl (da_nil (⟨_, _, _, rfl, ⟨fun _ => true, fun d => (match d with | .tup [.int x, .int y, .int z] => Dt.int (gapTo x y z) | _ => .non), ?t, ?f⟩⟩)))⟩))))⟩))))))))
    case t =>
      intro gl ow d hd
      obtain ⟨i, hj⟩ := List.getElem?_of_mem hd
      obtain ⟨x, y, z, h1, h2, h3, rfl⟩ := zip3D_get _ _ _ _ _ hj
      rw [List.getElem?_map] at h1 h2 h3
      cases e1 : lo[i]? with
      | none => rw [e1] at h1; cases h1
      | some x1 =>
        cases e2 : hi[i]? with
        | none => rw [e2] at h2; cases h2
        | some x2 =>
          cases e3 : v[i]? with
          | none => rw [e3] at h3; cases h3
          | some x3 =>
            rw [e1] at h1; rw [e2] at h2; rw [e3] at h3
            cases h1; cases h2; cases h3
            exact ⟨rfl, rfl, fun s H C cl fp => dq_nil ⟨rfl, fun _ s H C cl fp => dw_calP C_gap_to ‹Room _ _› (by decide) (da_cons (dw_v rfl (da_cons (dw_v rfl (da_cons (dw_v rfl (da_nil ⟨_, _, _, rfl, rfl⟩)))))))⟩⟩
    case f =>
      rw [gaps3_zip]
      refine dl_cons (ds_ret (dw_calP C_joined_parts ‹Room _ _› (by decide) (da_cons (dw_v rfl (da_cons (dw_n (dn_l [("gap", 7)] sc_floor_of.nd (show BlkOk n_floor_of (defScope s_floor_of) _ _ from ⟨rfl, by decide +kernel, by decide +kernel, by decide +kernel, by decide +kernel⟩) (lcM [("gap", 7)] (fun _ _ _ _ _ _ _ => dg_name 7 sc_floor_of.nd) (by decide) (di_lst (dw_v rfl (⟨_, rfl, ⟨fun _ => true, fun d => .int (partOf k (unI d)), ?t, ?f⟩⟩)))))))))))
      case t =>
        intro gl ow d hd
        obtain ⟨i, hi, rfl⟩ := List.mem_map.mp hd
        exact fun s H C cl fp => dq_nil ⟨rfl, fun _ s H C cl fp => dw_calP C_part_of ‹Room _ _› (by decide) (da_cons (dw_v rfl (da_cons (dw_v rfl (da_nil ⟨_, _, rfl, gaps3_mem hR.1.2 hR.2.2 hv.2 i hi, rfl⟩)))))⟩
      case f =>
        refine da_nil ⟨k, (gaps3 lo hi v).map (partOf k), ?_, hf⟩
        rw [filter_tt, List.map_map, List.map_map]
        rfl
  | ball c r =>
    refine dl_cons (ds_if (dt_eq (dw_at (dw_v rfl (dw_int (⟨_, rfl, dw_str (⟨false, rfl, ifB_f (dl_nil ?_)⟩)⟩))))))
    exact tail _ c 0 r rfl (fun _ _ h => by cases h) rfl rfl ⟨_, rfl⟩ hR.1 ⟨by decide, by decide⟩ hR.2 hf
  | cell c a b =>
    refine dl_cons (ds_if (dt_eq (dw_at (dw_v rfl (dw_int (⟨_, rfl, dw_str (⟨false, rfl, ifB_f (dl_nil ?_)⟩)⟩))))))
    exact tail _ c a b rfl (fun _ _ h => by cases h) rfl rfl ⟨_, rfl⟩ hR.1 hR.2.1 hR.2.2 hf
end
end N
set_option Elab.async false
set_option linter.all false
set_option maxRecDepth 100000
set_option maxHeartbeats 1000000
namespace N
open PySem
open PySem.Spec
open PyProof.Rows
open L2
/-! Q3: the walks of labels, sieves, summaries. -/
section
variable {P : Program} {w : World} {K : PySem.W.Frag} {mg : Str → Option Value} {base : Heap} {T : List (Addr × Str)} {g : Addr} {fd : FuncData}
theorem map_get {α β : Type} {f : α → β} {l : List α} {i : Nat} {b : β} (h : (l.map f)[i]? = some b) : ∃ a, l[i]? = some a ∧ b = f a := by
  rw [List.getElem?_map] at h
  cases e : l[i]? with
  | none => rw [e] at h; cases h
  | some a => rw [e] at h; cases h; exact ⟨a, rfl, rfl⟩
theorem drop_get {α : Type} {l : List α} {i : Nat} {a : α} (h : l[i]? = some a) : l.drop i = a :: l.drop (i + 1) := by
  obtain ⟨h1, h2⟩ := List.getElem?_eq_some_iff.mp h
  rw [List.drop_eq_getElem_cons h1, h2]
def f_label_in : FT := fun ds Φ => ∃ (l : List (Str × Int)) (n : Str), ds = [labsD l, .str n] ∧ Φ (optD (labelIn l n))
theorem ok_label_in (F : FnT K "label_in" s_label_in g fd) : FnOk P w K mg base CX0 1 g fd p_label_in (spP K T f_label_in) := by
  refine fn_okD bdOk0 F sc_label_in (fun ds Φ h => ?_) (by decide) (fun cdv A outer s H XE B ds Φ hM hHI hT hr hf => ?_)
  · obtain ⟨x, y, rfl, _⟩ := h; rfl
  obtain ⟨l, n, rfl, hf⟩ := hf
  refine dl_cons (ds_for PassesOwn.never (fun _ _ => dg_tup (n := 2) rfl (dgs_cons (dg_v sc_label_in.nd) (dgs_cons (dg_v sc_label_in.nd) (dgs_nil)))) (di_tup (dw_v rfl (⟨_, rfl, ⟨fun i E' => (∃ s1 s2, E' = [.dt (labsD l), .dt (.str n), s1, s2]) ∧ labelIn (l.drop i) n = labelIn l n, ⟨⟨_, _, rfl⟩, rfl⟩, ?jt, ?je⟩⟩))))
  case jt =>
    intro gl i d E' hd hJ
    obtain ⟨q, hq, rfl⟩ := map_get hd
    obtain ⟨⟨s1, s2, rfl⟩, hl⟩ := hJ
    rw [drop_get hq] at hl
    refine ⟨rfl, rfl, dl_cons (ds_if (dt_eq (dw_v rfl (dw_v rfl (⟨_, rfl, ifB_d (fun h => ?h1) (fun h => ?h2)⟩)))))⟩
    case h1 =>
      refine dl_cons (ds_ret (dw_v rfl ?_))
      rw [← hl, show labelIn (q :: l.drop (i + 1)) n = some q.2 from if_pos h] at hf
      exact hf
    case h2 =>
      refine dl_nil (dl_nil ⟨⟨_, _, rfl⟩, ?_⟩)
      rw [← hl]
      exact (if_neg h).symm
  case je =>
    rintro E' ⟨⟨s1, s2, rfl⟩, hl⟩
    refine dl_cons (ds_ret (dw_non ?_))
    rw [List.length_map, List.drop_length] at hl
    rw [← hl] at hf
    exact hf
def Sie.depth : Sie → Nat
  | .nt s => s.depth + 1
  | .an a b => max a.depth b.depth + 1
  | .orr a b => max a.depth b.depth + 1
  | _ => 0
def f_lets_by (n : Nat) : FT := fun ds Φ => ∃ (s : Sie) (l : List (Str × Int)), ds = [sieD s, labsD l] ∧ s.depth ≤ n ∧ Φ (.bl (lets s l))
theorem ok_lets_by (bi : BI mg) (C_label_in : Cal P w K mg base 1 "label_in" p_label_in (spP K T f_label_in)) (n : Nat) (IH : ∀ m, m + 1 = n → Cal P w K mg base (m + 2) "lets_by" p_lets_by (spP K T (f_lets_by m))) (F : FnT K "lets_by" s_lets_by g fd) : FnOk P w K mg base CX0 (n + 2) g fd p_lets_by (spP K T (f_lets_by n)) := by
  refine fn_okD (k := n + 1) bdOk0 F sc_lets_by (fun ds Φ h => ?_) (by decide) (fun cdv A outer s H XE B ds Φ hM hHI hT hr hf => ?_)
  · obtain ⟨x, y, rfl, _⟩ := h; rfl
  obtain ⟨sv, l, rfl, hn, hf⟩ := hf
  subst hT
  cases sv with
  | all => exact dl_cons (ds_if (dt_eq (dw_at (dw_v rfl (dw_int ⟨_, rfl, dw_str ⟨true, rfl, ifB_t (dl_cons (ds_ret (dw_bl hf)))⟩⟩)))))
  | nt a =>
    refine dl_cons (ds_if (dt_eq (dw_at (dw_v rfl (dw_int ⟨_, rfl, dw_str ⟨false, rfl, ifB_f (dl_nil ?_)⟩⟩)))))
    obtain ⟨m, rfl⟩ : ∃ m, n = m + 1 := ⟨n - 1, by simp only [Sie.depth] at hn; omega⟩
    exact dl_cons (ds_if (dt_eq (dw_at (dw_v rfl (dw_int ⟨_, rfl, dw_str ⟨true, rfl, ifB_t (dl_cons (ds_ret (dw_not (dw_calP (IH m rfl) ‹Room _ _› (by omega) (da_cons (dw_at (dw_v rfl (dw_int ⟨_, rfl, da_cons (dw_v rfl (da_nil ⟨a, l, rfl, by simp only [Sie.depth] at hn; omega, _, rfl, hf⟩))⟩))))))))⟩⟩)))))
  | an a b =>
    refine dl_cons (ds_if (dt_eq (dw_at (dw_v rfl (dw_int ⟨_, rfl, dw_str ⟨false, rfl, ifB_f (dl_nil ?_)⟩⟩)))))
    refine dl_cons (ds_if (dt_eq (dw_at (dw_v rfl (dw_int ⟨_, rfl, dw_str ⟨false, rfl, ifB_f (dl_nil ?_)⟩⟩)))))
    obtain ⟨m, rfl⟩ : ∃ m, n = m + 1 := ⟨n - 1, by simp only [Sie.depth] at hn; omega⟩
    refine dl_cons (ds_if (dt_eq (dw_at (dw_v rfl (dw_int ⟨_, rfl, dw_str ⟨true, rfl, ifB_t (dl_cons (ds_ret (dw_all (BI.all ‹_›) (da_cons (dw_n (dn_l [("part", 2)] sc_lets_by.nd (show BlkOk n_lets_by (defScope s_lets_by) _ _ from ⟨rfl, by decide +kernel, by decide +kernel, by decide +kernel, by decide +kernel⟩) (lcE [("part", 2)] (fun _ _ _ _ _ _ _ => dg_name 2 sc_lets_by.nd) (by decide) (di_tup (dw_slT (dw_v rfl ⟨_, rfl, do_some (dw_int ⟨_, rfl, do_none ⟨_, rfl, [a, b], sieD, fun _ => true, fun s => .bl (lets s l), rfl, ?t, ?f⟩⟩)⟩))))))))))⟩⟩)))))
    case t =>
      intro gl ow x hx
      have hd : x.depth ≤ m := by
        simp only [Sie.depth] at hn
        rcases List.mem_cons.mp hx with rfl | hx
        · omega
        · rw [List.mem_singleton.mp hx]; omega
      exact fun s H C cl fp => dq_nil ⟨rfl, fun _ s H C cl fp => dw_calP (IH m rfl) ‹Room _ _› (by omega) (da_cons (dw_v rfl (da_cons (dw_v rfl (da_nil ⟨x, l, rfl, hd, rfl⟩)))))⟩
    case f =>
      refine da_nil ⟨[lets a l, lets b l], rfl, ?_⟩
      have e : ([lets a l, lets b l].all id) = lets (.an a b) l := by simp [lets]
      rw [e]; exact hf
  | orr a b =>
    refine dl_cons (ds_if (dt_eq (dw_at (dw_v rfl (dw_int ⟨_, rfl, dw_str ⟨false, rfl, ifB_f (dl_nil ?_)⟩⟩)))))
    refine dl_cons (ds_if (dt_eq (dw_at (dw_v rfl (dw_int ⟨_, rfl, dw_str ⟨false, rfl, ifB_f (dl_nil ?_)⟩⟩)))))
    refine dl_cons (ds_if (dt_eq (dw_at (dw_v rfl (dw_int ⟨_, rfl, dw_str ⟨false, rfl, ifB_f (dl_nil ?_)⟩⟩)))))
    obtain ⟨m, rfl⟩ : ∃ m, n = m + 1 := ⟨n - 1, by simp only [Sie.depth] at hn; omega⟩
    refine dl_cons (ds_if (dt_eq (dw_at (dw_v rfl (dw_int ⟨_, rfl, dw_str ⟨true, rfl, ifB_t (dl_cons (ds_ret (dw_any (BI.any ‹_›) (da_cons (dw_n (dn_l [("part", 2)] sc_lets_by.nd (show BlkOk n_lets_by (defScope s_lets_by) _ _ from ⟨rfl, by decide +kernel, by decide +kernel, by decide +kernel, by decide +kernel⟩) (lcE [("part", 2)] (fun _ _ _ _ _ _ _ => dg_name 2 sc_lets_by.nd) (by decide) (di_tup (dw_slT (dw_v rfl ⟨_, rfl, do_some (dw_int ⟨_, rfl, do_none ⟨_, rfl, [a, b], sieD, fun _ => true, fun s => .bl (lets s l), rfl, ?t2, ?f2⟩⟩)⟩))))))))))⟩⟩)))))
    case t2 =>
      intro gl ow x hx
      have hd : x.depth ≤ m := by
        simp only [Sie.depth] at hn
        rcases List.mem_cons.mp hx with rfl | hx
        · omega
        · rw [List.mem_singleton.mp hx]; omega
      exact fun s H C cl fp => dq_nil ⟨rfl, fun _ s H C cl fp => dw_calP (IH m rfl) ‹Room _ _› (by omega) (da_cons (dw_v rfl (da_cons (dw_v rfl (da_nil ⟨x, l, rfl, hd, rfl⟩)))))⟩
    case f2 =>
      refine da_nil ⟨[lets a l, lets b l], rfl, ?_⟩
      have e : ([lets a l, lets b l].any id) = lets (.orr a b) l := by simp [lets]
      rw [e]; exact hf
  | has nm =>
    refine dl_cons (ds_if (dt_eq (dw_at (dw_v rfl (dw_int ⟨_, rfl, dw_str ⟨false, rfl, ifB_f (dl_nil ?_)⟩⟩)))))
    refine dl_cons (ds_if (dt_eq (dw_at (dw_v rfl (dw_int ⟨_, rfl, dw_str ⟨false, rfl, ifB_f (dl_nil ?_)⟩⟩)))))
    refine dl_cons (ds_if (dt_eq (dw_at (dw_v rfl (dw_int ⟨_, rfl, dw_str ⟨false, rfl, ifB_f (dl_nil ?_)⟩⟩)))))
    refine dl_cons (ds_if (dt_eq (dw_at (dw_v rfl (dw_int ⟨_, rfl, dw_str ⟨false, rfl, ifB_f (dl_nil ?_)⟩⟩)))))
    refine dl_cons (ds_s sc_lets_by.nd (dw_calP C_label_in ‹Room _ _› (by omega) (da_cons (dw_v rfl (da_cons (dw_at (dw_v rfl (dw_int ⟨_, rfl, da_nil ⟨l, nm, rfl, ?_⟩⟩))))))))
    unfold lets at hf
    cases hv : labelIn l nm with
    | none =>
      rw [hv] at hf
      exact dl_cons (ds_ret (dw_and (dw_notN (dw_v rfl (dw_non ⟨rfl, rfl, false, rfl, ifB_f hf⟩)))))
    | some v =>
      rw [hv] at hf
      exact dl_cons (ds_ret (dw_and (dw_notN (dw_v rfl (dw_non ⟨rfl, rfl, true, rfl, ifB_t (dw_one (dw_or (dw_eq (dw_at (dw_v rfl (dw_int ⟨_, rfl, dw_str ⟨true, rfl, ifB_t hf⟩⟩))))))⟩)))))
  | rng nm lo hi =>
    refine dl_cons (ds_if (dt_eq (dw_at (dw_v rfl (dw_int ⟨_, rfl, dw_str ⟨false, rfl, ifB_f (dl_nil ?_)⟩⟩)))))
    refine dl_cons (ds_if (dt_eq (dw_at (dw_v rfl (dw_int ⟨_, rfl, dw_str ⟨false, rfl, ifB_f (dl_nil ?_)⟩⟩)))))
    refine dl_cons (ds_if (dt_eq (dw_at (dw_v rfl (dw_int ⟨_, rfl, dw_str ⟨false, rfl, ifB_f (dl_nil ?_)⟩⟩)))))
    refine dl_cons (ds_if (dt_eq (dw_at (dw_v rfl (dw_int ⟨_, rfl, dw_str ⟨false, rfl, ifB_f (dl_nil ?_)⟩⟩)))))
    refine dl_cons (ds_s sc_lets_by.nd (dw_calP C_label_in ‹Room _ _› (by omega) (da_cons (dw_v rfl (da_cons (dw_at (dw_v rfl (dw_int ⟨_, rfl, da_nil ⟨l, nm, rfl, ?_⟩⟩))))))))
    unfold lets at hf
    cases hv : labelIn l nm with
    | none =>
      rw [hv] at hf
      exact dl_cons (ds_ret (dw_and (dw_notN (dw_v rfl (dw_non ⟨rfl, rfl, false, rfl, ifB_f hf⟩)))))
    | some v =>
      rw [hv] at hf
      have hf : Φ (.bl (decide (lo ≤ v ∧ v ≤ hi))) := hf
      refine dl_cons (ds_ret (dw_and (dw_notN (dw_v rfl (dw_non ⟨rfl, rfl, true, rfl, ifB_t (dw_one (dw_or (dw_eq (dw_at (dw_v rfl (dw_int ⟨_, rfl, dw_str ⟨false, rfl, ifB_f (dw_one ?_)⟩⟩))))))⟩)))))
      refine dw_chain op_le (okI0 fun _ _ _ _ => .bl _) op_le (okI0 fun _ _ _ _ => .bl _) (dw_at (dw_v rfl (dw_int ⟨_, rfl, dw_v rfl ⟨_, rfl, ifB_d (fun h => ?_) (fun h => ?_)⟩⟩)))
      · refine dw_at (dw_v rfl (dw_int ⟨_, rfl, ?_⟩))
        have e : decide (lo ≤ v ∧ v ≤ hi) = decide (v ≤ hi) := by simp [h]
        rw [e] at hf; exact hf
      · have e : decide (lo ≤ v ∧ v ≤ hi) = false := by simp [h]
        rw [e] at hf; exact hf
theorem c_lets_by (bi : BI mg) (C_label_in : Cal P w K mg base 1 "label_in" p_label_in (spP K T f_label_in)) (h : Hd K mg "lets_by" s_lets_by p_lets_by) : ∀ n, Cal P w K mg base (n + 2) "lets_by" p_lets_by (spP K T (f_lets_by n))
  | 0 => h.cal fun g fd F => ok_lets_by bi C_label_in 0 (fun m e => by omega) F
  | n + 1 => h.cal fun g fd F => ok_lets_by bi C_label_in (n + 1) (fun m e => by cases e; exact c_lets_by bi C_label_in h n) F
def f_passes (n : Nat) : FT := fun ds Φ => ∃ (s : Sie) (i : Itm), ds = [sieD s, itmD i] ∧ s.depth ≤ n ∧ Φ (.bl (lets s i.labs))
theorem ok_passes (n : Nat) (C_lets_by : Cal P w K mg base (n + 2) "lets_by" p_lets_by (spP K T (f_lets_by n))) (F : FnT K "passes" s_passes g fd) : FnOk P w K mg base CX0 (n + 3) g fd p_passes (spP K T (f_passes n)) := by
  refine fn_okD (k := n + 2) bdOk0 F sc_passes (fun ds Φ h => ?_) (by decide) (fun cdv A outer s H XE B ds Φ hM hHI hT hr hf => ?_)
  · obtain ⟨x, y, rfl, _⟩ := h; rfl
  obtain ⟨sv, i, rfl, hn, hf⟩ := hf
  subst hT
  exact dl_cons (ds_ret (dw_calP C_lets_by ‹Room _ _› (by omega) (da_cons (dw_v rfl (da_cons (dw_at (dw_v rfl (dw_int ⟨_, rfl, da_nil ⟨_, _, rfl, hn, hf⟩⟩))))))))
def f_row_of_name : FT := fun ds Φ => ∃ (t : Smy) (n : Str), ds = [smyD t, .str n] ∧ Φ (match rowOf t.rows n with | none => .non | some r => rowD r)
theorem ok_row_of_name (F : FnT K "row_of_name" s_row_of_name g fd) : FnOk P w K mg base CX0 1 g fd p_row_of_name (spP K T f_row_of_name) := by
  refine fn_okD bdOk0 F sc_row_of_name (fun ds Φ h => ?_) (by decide) (fun cdv A outer s H XE B ds Φ hM hHI hT hr hf => ?_)
  · obtain ⟨x, y, rfl, _⟩ := h; rfl
  obtain ⟨t, n, rfl, hf⟩ := hf
  refine dl_cons (ds_for PassesOwn.never (fun _ _ => dg_v sc_row_of_name.nd) (di_tup (dw_at (dw_v rfl (dw_int ⟨_, rfl, ⟨_, rfl, ⟨fun i E' => (∃ s1, E' = [.dt (smyD t), .dt (.str n), s1]) ∧ rowOf (t.rows.drop i) n = rowOf t.rows n, ⟨⟨_, rfl⟩, rfl⟩, ?jt, ?je⟩⟩⟩)))))
  case jt =>
    intro gl i d E' hd hJ
    obtain ⟨q, hq, rfl⟩ := map_get hd
    obtain ⟨⟨s1, rfl⟩, hl⟩ := hJ
    rw [drop_get hq] at hl
    refine dl_cons (ds_if (dt_eq (dw_at (dw_v rfl (dw_int ⟨_, rfl, dw_v rfl (⟨_, rfl, ifB_d (fun h => ?h1) (fun h => ?h2)⟩)⟩)))))
    case h1 =>
      refine dl_cons (ds_ret (dw_v rfl ?_))
      rw [← hl, show rowOf (q :: t.rows.drop (i + 1)) n = some q from if_pos h] at hf
      exact hf
    case h2 =>
      refine dl_nil (dl_nil ⟨⟨_, rfl⟩, ?_⟩)
      rw [← hl]
      exact (if_neg h).symm
  case je =>
    rintro E' ⟨⟨s1, rfl⟩, hl⟩
    refine dl_cons (ds_ret (dw_non ?_))
    rw [List.length_map, List.drop_length] at hl
    rw [← hl] at hf
    exact hf
end
end N
set_option Elab.async false
set_option linter.all false
set_option maxRecDepth 100000
set_option maxHeartbeats 1000000
namespace N
open PySem
open PySem.Spec
open PyProof.Rows
open L2
/-! Q4: the walks of verdicts. -/
section
variable {P : Program} {w : World} {K : PySem.W.Frag} {mg : Str → Option Value} {base : Heap} {T : List (Addr × Str)} {g : Addr} {fd : FuncData}
theorem dT {p : Prop} [Decidable p] (h : p) : true = decide p := (decide_eq_true h).symm
theorem dF {p : Prop} [Decidable p] (h : ¬ p) : false = decide p := (decide_eq_false h).symm
theorem ifB_z {q : Prop} [d : Decidable q] {z : Bool} {r s : Prop} (hz : z = decide q) (h1 : q → r) (h2 : ¬ q → s) : ifB z r s := hz ▸ ifB_d h1 h2
def f_range_verdict : FT := fun ds Φ => ∃ (nm : Str) (lo hi : Int) (r : Row) (count : Int), ds = [sieD (.rng nm lo hi), rowD r, .int count] ∧ Φ (.str (vdS (rngV lo hi r count)))
theorem ok_range_verdict (F : FnT K "range_verdict" s_range_verdict g fd) : FnOk P w K mg base CX0 1 g fd p_range_verdict (spP K T f_range_verdict) := by
  refine fn_okD bdOk0 F sc_range_verdict (fun ds Φ h => ?_) (by decide) (fun cdv A outer s H XE B ds Φ hM hHI hT hr hf => ?_)
  · obtain ⟨x, y, z, u, v, rfl, _⟩ := h; rfl
  obtain ⟨nm, lo, hi, r, count, rfl, hf⟩ := hf
  subst hT
  unfold rngV at hf
  refine dl_cons (ds_asg (dg_tup (n := 4) rfl (dgs_cons (dg_v sc_range_verdict.nd) (dgs_cons (dg_v sc_range_verdict.nd) (dgs_cons (dg_v sc_range_verdict.nd) (dgs_cons (dg_v sc_range_verdict.nd) (dgs_nil)))))) (dw_v rfl (⟨rfl, rfl, ?_⟩)))
  refine dl_cons (ds_asg (dg_tup (n := 2) rfl (dgs_cons (dg_v sc_range_verdict.nd) (dgs_cons (dg_v sc_range_verdict.nd) (dgs_nil)))) (dw_slT (dw_v rfl (⟨_, rfl, do_some (dw_int (⟨_, rfl, do_none (⟨rfl, rfl, ?_⟩)⟩))⟩))))
  refine dl_cons (ds_if (DT.im (Ψ' := fun z => z = decide (hi < r.least ∨ r.greatest < lo ∨ (r.many ≤ 2 ∧ r.least < lo ∧ hi < r.greatest))) ?t fun z hz => ifB_z hz (fun h => ?a1) (fun h => dl_nil ?b1)))
  case t =>
    refine dt_w (dtw_or (dt_lt (dw_v rfl (dw_v rfl ⟨_, rfl, ifB_d (fun h => dT (by omega)) (fun h => ?_)⟩))))
    refine dtw_or (dt_lt (dw_v rfl (dw_v rfl ⟨_, rfl, ifB_d (fun h2 => dT (by omega)) (fun h2 => ?_)⟩)))
    refine dtw_or1 (dt_w (dtw_and (dt_le (dw_v rfl (dw_int ⟨_, rfl, ifB_d (fun h3 => ?_) (fun h3 => dF (by omega))⟩)))))
    refine dtw_and (dt_lt (dw_v rfl (dw_v rfl ⟨_, rfl, ifB_d (fun h4 => ?_) (fun h4 => dF (by omega))⟩)))
    exact dtw_and1 (dt_lt (dw_v rfl (dw_v rfl ⟨_, rfl, decide_eq_decide.mpr (by omega)⟩)))
  case a1 =>
    rw [if_pos h] at hf
    exact dl_cons (ds_ret (dw_str hf))
  case b1 =>
    rw [if_neg h] at hf
    refine dl_cons (ds_ret (dw_if (DT.im (Ψ' := fun z => z = decide (r.many = count ∧ lo ≤ r.least ∧ r.greatest ≤ hi)) ?t2 fun z hz => ifB_z hz (fun h => dw_str ?a) (fun h => dw_str ?b))))
    case t2 =>
      refine dt_w (dtw_and (dt_eq (dw_v rfl (dw_v rfl ⟨_, rfl, ifB_d (fun h => ?_) (fun h => dF (by omega))⟩))))
      refine dtw_and (dt_le (dw_v rfl (dw_v rfl ⟨_, rfl, ifB_d (fun h2 => ?_) (fun h2 => dF (by omega))⟩)))
      exact dtw_and1 (dt_le (dw_v rfl (dw_v rfl ⟨_, rfl, decide_eq_decide.mpr (by omega)⟩)))
    case a => rw [if_pos h] at hf; exact hf
    case b => rw [if_neg h] at hf; exact hf
theorem vdS_inj : ∀ {a b : Vd}, vdS a = vdS b → a = b := by
  intro a b h
  cases a <;> cases b <;> first | rfl | exact absurd h (by decide)
def f_opposite_verdict : FT := fun ds Φ => ∃ v : Vd, ds = [.str (vdS v)] ∧ Φ (.str (vdS (opp v)))
theorem ok_opposite_verdict (F : FnT K "opposite_verdict" s_opposite_verdict g fd) : FnOk P w K mg base CX0 1 g fd p_opposite_verdict (spP K T f_opposite_verdict) := by
  refine fn_okD bdOk0 F sc_opposite_verdict (fun ds Φ h => ?_) (by decide) (fun cdv A outer s H XE B ds Φ hM hHI hT hr hf => ?_)
  · obtain ⟨x, rfl, _⟩ := h; rfl
  obtain ⟨v, rfl, hf⟩ := hf
  cases v with
  | some => exact dl_cons (ds_if (dt_eq (dw_v rfl (dw_str ⟨true, rfl, ifB_t (dl_cons (ds_ret (dw_str hf)))⟩))))
  | none => exact dl_cons (ds_if (dt_eq (dw_v rfl (dw_str ⟨false, rfl, ifB_f (dl_nil (dl_cons (ds_ret (dw_if (dt_eq (dw_v rfl (dw_str ⟨true, rfl, ifB_t (dw_str hf)⟩)))))))⟩))))
  | all => exact dl_cons (ds_if (dt_eq (dw_v rfl (dw_str ⟨false, rfl, ifB_f (dl_nil (dl_cons (ds_ret (dw_if (dt_eq (dw_v rfl (dw_str ⟨false, rfl, ifB_f (dw_str hf)⟩)))))))⟩))))
theorem mem_vdS (v : Vd) (l : List Vd) : (vdS v ∈ l.map vdS) ↔ v ∈ l := by
  constructor
  · intro h
    obtain ⟨u, hu, e⟩ := List.mem_map.mp h
    rw [← vdS_inj e]; exact hu
  · exact fun h => List.mem_map.mpr ⟨v, h, rfl⟩
def f_verdict_of_all : FT := fun ds Φ => ∃ l : List Vd, ds = [.lst ((l.map vdS).map .str)] ∧ Φ (.str (vdS (vAll l)))
theorem ok_verdict_of_all (F : FnT K "verdict_of_all" s_verdict_of_all g fd) : FnOk P w K mg base CX0 1 g fd p_verdict_of_all (spP K T f_verdict_of_all) := by
  refine fn_okD bdOk0 F sc_verdict_of_all (fun ds Φ h => ?_) (by decide) (fun cdv A outer s H XE B ds Φ hM hHI hT hr hf => ?_)
  · obtain ⟨x, rfl, _⟩ := h; rfl
  obtain ⟨l, rfl, hf⟩ := hf
  unfold vAll at hf
  refine dl_cons (ds_if (dt_inS (dw_str (dw_v rfl ⟨_, _, rfl, .inl rfl, _, rfl, ifB_d (fun h => ?a) (fun h => dl_nil ?b)⟩))))
  case a =>
    rw [if_pos ((mem_vdS .none l).mp h)] at hf
    exact dl_cons (ds_ret (dw_str hf))
  case b =>
    rw [if_neg (fun q => h ((mem_vdS .none l).mpr q))] at hf
    refine dl_cons (ds_ret (dw_if (dt_inS (dw_str (dw_v rfl ⟨_, _, rfl, .inl rfl, _, rfl, ifB_d (fun h => dw_str ?a) (fun h => dw_str ?b)⟩)))))
    case a => rw [if_pos ((mem_vdS .some l).mp h)] at hf; exact hf
    case b => rw [if_neg (fun q => h ((mem_vdS .some l).mpr q))] at hf; exact hf
def f_verdict (n : Nat) : FT := fun ds Φ => ∃ (s : Sie) (t : Smy), ds = [sieD s, smyD t] ∧ s.depth ≤ n ∧ Φ (.str (vdS (verd s t)))
theorem verd0 {s : Sie} {t : Smy} (h : t.many = 0) : verd s t = .none := by unfold verd; rw [if_pos h]
theorem verd1 {s : Sie} {t : Smy} (h : ¬ t.many = 0) : verd s t = (match s with
    | .all => .all
    | .nt a => opp (verd a t)
    | .an a b => vAll [verd a t, verd b t]
    | .orr a b => opp (vAll [opp (verd a t), opp (verd b t)])
    | .has n => match rowOf t.rows n with
      | none => .none
      | some r => if r.many = t.many then .all else .some
    | .rng n lo hi => match rowOf t.rows n with
      | none => .none
      | some r => rngV lo hi r t.many) := by
  cases s <;> (conv => lhs; unfold verd) <;> (rw [if_neg h]) <;> rfl
theorem ok_verdict (C_opposite_verdict : Cal P w K mg base 1 "opposite_verdict" p_opposite_verdict (spP K T f_opposite_verdict)) (C_verdict_of_all : Cal P w K mg base 1 "verdict_of_all" p_verdict_of_all (spP K T f_verdict_of_all)) (C_row_of_name : Cal P w K mg base 1 "row_of_name" p_row_of_name (spP K T f_row_of_name)) (C_range_verdict : Cal P w K mg base 1 "range_verdict" p_range_verdict (spP K T f_range_verdict))
    (n : Nat) (IH : ∀ m, m + 1 = n → Cal P w K mg base (m + 2) "verdict" p_verdict (spP K T (f_verdict m))) (F : FnT K "verdict" s_verdict g fd) : FnOk P w K mg base CX0 (n + 2) g fd p_verdict (spP K T (f_verdict n)) := by
  refine fn_okD (k := n + 1) bdOk0 F sc_verdict (fun ds Φ h => ?_) (by decide) (fun cdv A outer s H XE B ds Φ hM hHI hT hr hf => ?_)
  · obtain ⟨x, y, rfl, _⟩ := h; rfl
  obtain ⟨sv, t, rfl, hn, hf⟩ := hf
  subst hT
  refine dl_cons (ds_if (dt_eq (dw_at (dw_v rfl (dw_int ⟨_, rfl, dw_int ⟨_, rfl, ifB_d (fun h => ?a) (fun h => dl_nil ?b)⟩⟩)))))
  case a =>
    rw [verd0 h] at hf
    exact dl_cons (ds_ret (dw_str hf))
  case b =>
  rw [verd1 h] at hf
  cases sv with
  | all => exact dl_cons (ds_s sc_verdict.nd (dw_at (dw_v rfl (dw_int ⟨_, rfl, dl_cons (ds_if (dt_eq (dw_v rfl (dw_str ⟨true, rfl, ifB_t (dl_cons (ds_ret (dw_str hf)))⟩))))⟩))))
  | nt a =>
    refine dl_cons (ds_s sc_verdict.nd (dw_at (dw_v rfl (dw_int ⟨_, rfl, ?_⟩))))
    refine dl_cons (ds_if (dt_eq (dw_v rfl (dw_str ⟨false, rfl, ifB_f (dl_nil ?_)⟩))))
    obtain ⟨m, rfl⟩ : ∃ m, n = m + 1 := ⟨n - 1, by simp only [Sie.depth] at hn; omega⟩
    refine dl_cons (ds_if (dt_eq (dw_v rfl (dw_str ⟨true, rfl, ifB_t ?_⟩))))
    exact dl_cons (ds_ret (dw_calP C_opposite_verdict ‹Room _ _› (by omega) (da_cons (dw_calP (IH m rfl) ‹Room _ _› (by omega) (da_cons (dw_at (dw_v rfl (dw_int ⟨_, rfl, da_cons (dw_v rfl (da_nil ⟨a, t, rfl, by simp only [Sie.depth] at hn; omega, da_nil ⟨_, rfl, hf⟩⟩))⟩))))))))
  | an a b =>
    refine dl_cons (ds_s sc_verdict.nd (dw_at (dw_v rfl (dw_int ⟨_, rfl, ?_⟩))))
    refine dl_cons (ds_if (dt_eq (dw_v rfl (dw_str ⟨false, rfl, ifB_f (dl_nil ?_)⟩))))
    refine dl_cons (ds_if (dt_eq (dw_v rfl (dw_str ⟨false, rfl, ifB_f (dl_nil ?_)⟩))))
    obtain ⟨m, rfl⟩ : ∃ m, n = m + 1 := ⟨n - 1, by simp only [Sie.depth] at hn; omega⟩
    refine dl_cons (ds_if (dt_eq (dw_v rfl (dw_str ⟨true, rfl, ifB_t ?_⟩))))
    refine dl_cons (ds_ret (dw_calP C_verdict_of_all ‹Room _ _› (by omega) (da_cons (dw_n (dn_l [("part", 3)] sc_verdict.nd (show BlkOk n_verdict (defScope s_verdict) _ _ from ⟨rfl, by decide +kernel, by decide +kernel, by decide +kernel, by decide +kernel⟩) (lcE [("part", 3)] (fun _ _ _ _ _ _ _ => dg_name 3 sc_verdict.nd) (by decide) (di_tup (dw_slT (dw_v rfl ⟨_, rfl, do_some (dw_int ⟨_, rfl, do_none ⟨_, rfl, [a, b], sieD, fun _ => true, fun s => .str (vdS (verd s t)), rfl, ?t, ?f⟩⟩)⟩)))))))))
    case t =>
      intro gl ow x hx
      have hd : x.depth ≤ m := by
        simp only [Sie.depth] at hn
        rcases List.mem_cons.mp hx with rfl | hx
        · omega
        · rw [List.mem_singleton.mp hx]; omega
      exact fun s H C cl fp => dq_nil ⟨rfl, fun _ s H C cl fp => dw_calP (IH m rfl) ‹Room _ _› (by omega) (da_cons (dw_v rfl (da_cons (dw_v rfl (da_nil ⟨x, t, rfl, hd, rfl⟩)))))⟩
    case f => exact da_nil ⟨[verd a t, verd b t], rfl, hf⟩
  | orr a b =>
    refine dl_cons (ds_s sc_verdict.nd (dw_at (dw_v rfl (dw_int ⟨_, rfl, ?_⟩))))
    refine dl_cons (ds_if (dt_eq (dw_v rfl (dw_str ⟨false, rfl, ifB_f (dl_nil ?_)⟩))))
    refine dl_cons (ds_if (dt_eq (dw_v rfl (dw_str ⟨false, rfl, ifB_f (dl_nil ?_)⟩))))
    refine dl_cons (ds_if (dt_eq (dw_v rfl (dw_str ⟨false, rfl, ifB_f (dl_nil ?_)⟩))))
    obtain ⟨m, rfl⟩ : ∃ m, n = m + 1 := ⟨n - 1, by simp only [Sie.depth] at hn; omega⟩
    refine dl_cons (ds_if (dt_eq (dw_v rfl (dw_str ⟨true, rfl, ifB_t ?_⟩))))
    refine dl_cons (ds_ret (dw_calP C_opposite_verdict ‹Room _ _› (by omega) (da_cons (dw_calP C_verdict_of_all ‹Room _ _› (by omega) (da_cons (dw_n (dn_l [("part", 3)] sc_verdict.nd (show BlkOk n_verdict (defScope s_verdict) _ _ from ⟨rfl, by decide +kernel, by decide +kernel, by decide +kernel, by decide +kernel⟩) (lcE [("part", 3)] (fun _ _ _ _ _ _ _ => dg_name 3 sc_verdict.nd) (by decide) (di_tup (dw_slT (dw_v rfl ⟨_, rfl, do_some (dw_int ⟨_, rfl, do_none ⟨_, rfl, [a, b], sieD, fun _ => true, fun s => .str (vdS (opp (verd s t))), rfl, ?t2, ?f2⟩⟩)⟩)))))))))))
    case t2 =>
      intro gl ow x hx
      have hd : x.depth ≤ m := by
        simp only [Sie.depth] at hn
        rcases List.mem_cons.mp hx with rfl | hx
        · omega
        · rw [List.mem_singleton.mp hx]; omega
      exact fun s H C cl fp => dq_nil ⟨rfl, fun _ s H C cl fp => dw_calP C_opposite_verdict ‹Room _ _› (by omega) (da_cons (dw_calP (IH m rfl) ‹Room _ _› (by omega) (da_cons (dw_v rfl (da_cons (dw_v rfl (da_nil ⟨x, t, rfl, hd, da_nil ⟨_, rfl, rfl⟩⟩)))))))⟩
    case f2 => exact da_nil ⟨[opp (verd a t), opp (verd b t)], rfl, da_nil ⟨_, rfl, hf⟩⟩
  | has nm =>
    refine dl_cons (ds_s sc_verdict.nd (dw_at (dw_v rfl (dw_int ⟨_, rfl, ?_⟩))))
    refine dl_cons (ds_if (dt_eq (dw_v rfl (dw_str ⟨false, rfl, ifB_f (dl_nil ?_)⟩))))
    refine dl_cons (ds_if (dt_eq (dw_v rfl (dw_str ⟨false, rfl, ifB_f (dl_nil ?_)⟩))))
    refine dl_cons (ds_if (dt_eq (dw_v rfl (dw_str ⟨false, rfl, ifB_f (dl_nil ?_)⟩))))
    refine dl_cons (ds_if (dt_eq (dw_v rfl (dw_str ⟨false, rfl, ifB_f (dl_nil ?_)⟩))))
    refine dl_cons (ds_s sc_verdict.nd (dw_calP C_row_of_name ‹Room _ _› (by omega) (da_cons (dw_v rfl (da_cons (dw_at (dw_v rfl (dw_int ⟨_, rfl, da_nil ⟨t, nm, rfl, ?_⟩⟩))))))))
    cases hv : rowOf t.rows nm with
    | none =>
      simp only [hv] at hf
      exact dl_cons (ds_if (dt_isN (dw_v rfl (dw_non ⟨rfl, rfl, true, rfl, ifB_t (dl_cons (ds_ret (dw_str hf)))⟩))))
    | some r =>
      simp only [hv] at hf
      refine dl_cons (ds_if (dt_isN (dw_v rfl (dw_non ⟨rfl, rfl, false, rfl, ifB_f (dl_nil ?_)⟩))))
      refine dl_cons (ds_if (dt_eq (dw_v rfl (dw_str ⟨false, rfl, ifB_f (dl_nil ?_)⟩))))
      refine dl_cons (ds_ret (dw_if (dt_eq (dw_at (dw_v rfl (dw_int ⟨_, rfl, dw_at (dw_v rfl (dw_int ⟨_, rfl, _, rfl, ifB_d (fun h => dw_str ?a) (fun h => dw_str ?b)⟩))⟩))))))
      case a => rw [if_pos h] at hf; exact hf
      case b => rw [if_neg h] at hf; exact hf
  | rng nm lo hi =>
    refine dl_cons (ds_s sc_verdict.nd (dw_at (dw_v rfl (dw_int ⟨_, rfl, ?_⟩))))
    refine dl_cons (ds_if (dt_eq (dw_v rfl (dw_str ⟨false, rfl, ifB_f (dl_nil ?_)⟩))))
    refine dl_cons (ds_if (dt_eq (dw_v rfl (dw_str ⟨false, rfl, ifB_f (dl_nil ?_)⟩))))
    refine dl_cons (ds_if (dt_eq (dw_v rfl (dw_str ⟨false, rfl, ifB_f (dl_nil ?_)⟩))))
    refine dl_cons (ds_if (dt_eq (dw_v rfl (dw_str ⟨false, rfl, ifB_f (dl_nil ?_)⟩))))
    refine dl_cons (ds_s sc_verdict.nd (dw_calP C_row_of_name ‹Room _ _› (by omega) (da_cons (dw_v rfl (da_cons (dw_at (dw_v rfl (dw_int ⟨_, rfl, da_nil ⟨t, nm, rfl, ?_⟩⟩))))))))
    cases hv : rowOf t.rows nm with
    | none =>
      simp only [hv] at hf
      exact dl_cons (ds_if (dt_isN (dw_v rfl (dw_non ⟨rfl, rfl, true, rfl, ifB_t (dl_cons (ds_ret (dw_str hf)))⟩))))
    | some r =>
      simp only [hv] at hf
      refine dl_cons (ds_if (dt_isN (dw_v rfl (dw_non ⟨rfl, rfl, false, rfl, ifB_f (dl_nil ?_)⟩))))
      refine dl_cons (ds_if (dt_eq (dw_v rfl (dw_str ⟨true, rfl, ifB_t ?_⟩))))
      exact dl_cons (ds_ret (dw_calP C_range_verdict ‹Room _ _› (by omega) (da_cons (dw_v rfl (da_cons (dw_v rfl (da_cons (dw_at (dw_v rfl (dw_int ⟨_, rfl, da_nil ⟨nm, lo, hi, r, _, rfl, hf⟩⟩))))))))))
theorem c_verdict (C_opposite_verdict : Cal P w K mg base 1 "opposite_verdict" p_opposite_verdict (spP K T f_opposite_verdict)) (C_verdict_of_all : Cal P w K mg base 1 "verdict_of_all" p_verdict_of_all (spP K T f_verdict_of_all)) (C_row_of_name : Cal P w K mg base 1 "row_of_name" p_row_of_name (spP K T f_row_of_name)) (C_range_verdict : Cal P w K mg base 1 "range_verdict" p_range_verdict (spP K T f_range_verdict))
    (h : Hd K mg "verdict" s_verdict p_verdict) : ∀ n, Cal P w K mg base (n + 2) "verdict" p_verdict (spP K T (f_verdict n))
  | 0 => h.cal fun g fd F => ok_verdict C_opposite_verdict C_verdict_of_all C_row_of_name C_range_verdict 0 (fun m e => by omega) F
  | n + 1 => h.cal fun g fd F => ok_verdict C_opposite_verdict C_verdict_of_all C_row_of_name C_range_verdict (n + 1) (fun m e => by cases e; exact c_verdict C_opposite_verdict C_verdict_of_all C_row_of_name C_range_verdict h n) F
def f_may_pass (n : Nat) : FT := fun ds Φ => ∃ (s : Sie) (t : Smy), ds = [sieD s, smyD t] ∧ s.depth ≤ n ∧ Φ (.bl (mayPass s t))
theorem ok_may_pass (n : Nat) (C_verdict : Cal P w K mg base (n + 2) "verdict" p_verdict (spP K T (f_verdict n))) (F : FnT K "may_pass" s_may_pass g fd) : FnOk P w K mg base CX0 (n + 3) g fd p_may_pass (spP K T (f_may_pass n)) := by
  refine fn_okD (k := n + 2) bdOk0 F sc_may_pass (fun ds Φ h => ?_) (by decide) (fun cdv A outer s H XE B ds Φ hM hHI hT hr hf => ?_)
  · obtain ⟨x, y, rfl, _⟩ := h; rfl
  obtain ⟨sv, t, rfl, hn, hf⟩ := hf
  subst hT
  refine dl_cons (ds_ret (dw_ne (dw_calP C_verdict ‹Room _ _› (by omega) (da_cons (dw_v rfl (da_cons (dw_v rfl (da_nil ⟨_, _, rfl, hn, dw_str ?_⟩))))))))
  unfold mayPass at hf
  cases hv : verd sv t <;> rw [hv] at hf <;> exact hf
end
end N
set_option Elab.async false
set_option linter.all false
set_option maxRecDepth 100000
set_option maxHeartbeats 1000000
namespace N
open PySem
open PySem.Spec
open PyProof.Rows
open L2
/-! Q5: the walks of lots, steps, pairs. -/
theorem atI_nat {α : Type} {l : List α} {i : Nat} {a : α} (h : l[i]? = some a) : atI l (i : Int) = some a := by
  obtain ⟨h1, _⟩ := List.getElem?_eq_some_iff.mp h
  unfold atI ixN
  rw [if_pos (by omega), if_pos (by omega)]
  exact h
def stepWs : List Str := ["empty", "barred", "far", "open"]
section
variable {X : Cx} {B : Bd} {E : Ev} {tg it : Expr} {Φ : List Dt → Prop}
/-- a written tuple of texts of the module is walked -/
theorem di_kt (h : DW X B E it fun d => ∃ (a : Addr) (ws : List Str), d = .raw (.ref a) ∧ (∀ H, SqT X.K H a (ws.map V.str)) ∧ ws.length ≤ 1000 ∧ Φ (ws.map .str)) : DI X B E tg it Φ := fun σ G H R S k => fI (pi_tup qE) (h σ G H _ S fun v d G' H' S' x r f => by
  obtain ⟨a, ws, rfl, hs, hz, f⟩ := f
  cases r
  exact ⟨_, rfl, ⟨_, hs H'⟩, k _ G' H' (ws.map .str) S' x (sv_ktup hs (strs_rpa ws)) (by rw [List.length_map]; exact Nat.le_trans hz szl) f⟩)
end
section
variable {P : Program} {w : World} {K : PySem.W.Frag} {mg : Str → Option Value} {base : Heap} {T : List (Addr × Str)} {g : Addr} {fd : FuncData}
theorem lotD_eq (l : Lot) : ∃ z, lotD l = .tup [regD l.reg, smyD l.smy, z] := by
  cases l with
  | items r s ks => exact ⟨_, by rw [lotD]; rfl⟩
  | lots r s ls => exact ⟨_, by rw [lotD]; rfl⟩
def f_lots_in : FT := fun ds Φ => ∃ l : Lot, ds = [lotD l] ∧ Φ (.tup (l.kids.map lotD))
theorem ok_lots_in (F : FnT K "lots_in" s_lots_in g fd) : FnOk P w K mg base CX0 1 g fd p_lots_in (spP K T f_lots_in) := by
  refine fn_okD bdOk0 F sc_lots_in (fun ds Φ h => ?_) (by decide) (fun cdv A outer s H XE B ds Φ hM hHI hT hr hf => ?_)
  · obtain ⟨x, rfl, _⟩ := h; rfl
  obtain ⟨l, rfl, hf⟩ := hf
  cases l with
  | items r s ks =>
    rw [lotD]
    exact dl_cons (ds_ret (dw_if (dt_eq (dw_at (dw_at (dw_v rfl (dw_int ⟨_, rfl, dw_int ⟨_, rfl, dw_str ⟨false, rfl, ifB_f (dw_tup (da_nil ⟨szl, hf⟩))⟩⟩⟩)))))))
  | lots r s ls =>
    rw [lotD]
    refine dl_cons (ds_ret (dw_if (dt_eq (dw_at (dw_at (dw_v rfl (dw_int ⟨_, rfl, dw_int ⟨_, rfl, dw_str ⟨true, rfl, ifB_t (dw_at (dw_at (dw_v rfl (dw_int ⟨_, rfl, dw_int ⟨_, rfl, ?_⟩⟩))))⟩⟩⟩)))))))
    rw [lotsD_map]
    exact hf
def f_own_keys : FT := fun ds Φ => ∃ l : Lot, ds = [lotD l] ∧ Φ (vecD l.keys)
theorem ok_own_keys (F : FnT K "own_keys" s_own_keys g fd) : FnOk P w K mg base CX0 1 g fd p_own_keys (spP K T f_own_keys) := by
  refine fn_okD bdOk0 F sc_own_keys (fun ds Φ h => ?_) (by decide) (fun cdv A outer s H XE B ds Φ hM hHI hT hr hf => ?_)
  · obtain ⟨x, rfl, _⟩ := h; rfl
  obtain ⟨l, rfl, hf⟩ := hf
  cases l with
  | items r s ks =>
    rw [lotD]
    exact dl_cons (ds_ret (dw_if (dt_eq (dw_at (dw_at (dw_v rfl (dw_int ⟨_, rfl, dw_int ⟨_, rfl, dw_str ⟨true, rfl, ifB_t (dw_at (dw_at (dw_v rfl (dw_int ⟨_, rfl, dw_int ⟨_, rfl, hf⟩⟩))))⟩⟩⟩)))))))
  | lots r s ls =>
    rw [lotD]
    exact dl_cons (ds_ret (dw_if (dt_eq (dw_at (dw_at (dw_v rfl (dw_int ⟨_, rfl, dw_int ⟨_, rfl, dw_str ⟨false, rfl, ifB_f (dw_tup (da_nil ⟨szl, hf⟩))⟩⟩⟩)))))))
/-- the module's STEP_WORDS -/
structure SW (K : PySem.W.Frag) (mg : Str → Option Value) : Prop where
  ex : ∃ a, mg "STEP_WORDS" = some (.ref a) ∧ ∀ H, SqT K H a (stepWs.map V.str)
def isStepD : Dt → Kd → List Int → Sie → Option Int → Lot → Bool
  | .str w, k, v, s, reach, l => isStep w k v s reach l
  | _, _, _, _, _, _ => false
def f_is_step (n : Nat) : FT := fun ds Φ => ∃ (d : Dt) (k : Kd) (v : List Int) (s : Sie) (reach : Option Int) (l : Lot), ds = [d, .str (kS k), vecD v, sieD s, optD reach, lotD l] ∧ (tyN d).isSome = true ∧ s.depth ≤ n ∧ RgOk l.reg ∧ Sv' v ∧ Φ (.bl (isStepD d k v s reach l))
theorem ok_is_step (bi : BI mg) (sw : SW K mg) (n : Nat) (C_may_pass : Cal P w K mg base (n + 3) "may_pass" p_may_pass (spP K T (f_may_pass n))) (C_floor_of : Cal P w K mg base 5 "floor_of" p_floor_of (spP K T f_floor_of)) (F : FnT K "is_step" s_is_step g fd) : FnOk P w K mg base CX0 (n + 6) g fd p_is_step (spP K T (f_is_step n)) := by
  refine fn_okD (k := n + 5) bdOk0 F sc_is_step (fun ds Φ h => ?_) (by decide) (fun cdv A outer s H XE B ds Φ hM hHI hT hr hf => ?_)
  · obtain ⟨d, x, y, z, u, v, rfl, _⟩ := h; rfl
  obtain ⟨d, k, v, sv, reach, l, rfl, hd, hn, hR, hv, hf⟩ := hf
  subst hT
  obtain ⟨a, hm, hs⟩ := sw.ex
  have no : isStepD d k v sv reach l = false → Φ (.bl false) := fun e => e ▸ hf
  by_cases hstr : ∃ x, d = .str x
  · obtain ⟨x, rfl⟩ := hstr
    refine dl_cons (ds_if (dt_w (dtw_or (dt_not (dt_val (dw_isi (BI.isinstance ‹_›) (da_cons (dw_v rfl (da_cons (dw_tStr bi (da_nil ⟨_, _, _, _, rfl, rfl, rfl, true, rfl, ifB_f ?_⟩)))))))))))
    refine dtw_or1 (dt_notInW (dw_v rfl (dw_glob (v := .ref a) rfl hm rfl ⟨x, stepWs, a, rfl, rfl, hs, _, rfl, ifB_n (fun h => ?a1) (fun h => ?b1)⟩)))
    case a1 =>
      refine dl_cons (ds_ret (dw_bl (no ?_)))
      show isStep x k v sv reach l = false
      unfold isStep
      rw [if_neg (fun e => h (by rw [e]; decide)), if_neg (fun e => h (by rw [e]; decide)), if_neg (fun e => h (by rw [e]; decide))]
      exact decide_eq_false (fun e => h (by rw [e]; decide))
    case b1 =>
      obtain ⟨z, hz⟩ := lotD_eq l
      rw [hz]
      have hf : Φ (.bl (isStep x k v sv reach l)) := hf
      unfold isStep at hf
      refine dl_nil (dl_cons (ds_asg (dg_tup (n := 2) rfl (dgs_cons (dg_v sc_is_step.nd) (dgs_cons (dg_v sc_is_step.nd) (dgs_nil)))) (dw_slT (dw_v rfl (⟨_, rfl, do_none (do_some (dw_int (⟨_, rfl, ⟨rfl, rfl, ?_⟩⟩)))⟩)))))
      refine dl_cons (ds_if (dt_eq (dw_v rfl (dw_str (⟨_, rfl, ifB_d (fun h => ?h7) (fun h => dl_nil ?h8)⟩)))))
      case h7 =>
        rw [if_pos h] at hf
        exact dl_cons (ds_ret (dw_eq (dw_at (dw_v rfl (dw_int ⟨_, rfl, dw_int hf⟩)))))
      case h8 =>
        rw [if_neg h] at hf
        refine dl_cons (ds_if (dt_eq (dw_v rfl (dw_str (⟨_, rfl, ifB_d (fun h => ?h9) (fun h => dl_nil ?h10)⟩)))))
        case h9 =>
          rw [if_pos h] at hf
          exact dl_cons (ds_ret (dw_not (dw_calP C_may_pass ‹Room _ _› (by omega) (da_cons (dw_v rfl (da_cons (dw_v rfl (da_nil ⟨_, _, rfl, hn, _, rfl, hf⟩))))))))
        case h10 =>
          rw [if_neg h] at hf
          refine dl_cons (ds_if (dt_eq (dw_v rfl (dw_str (⟨_, rfl, ifB_d (fun h => ?h11) (fun h => dl_nil ?h12)⟩)))))
          case h11 =>
            rw [if_pos h] at hf
            cases reach with
            | none => exact dl_cons (ds_ret (dw_and (dw_notN (dw_v rfl (dw_non ⟨rfl, rfl, false, rfl, ifB_f hf⟩)))))
            | some r =>
              have hf : Φ (.bl (decide (l.smy.many > 0) && decide (floorOf k l.reg v > r))) := hf
              refine dl_cons (ds_ret (dw_and (dw_notN (dw_v rfl (dw_non ⟨rfl, rfl, true, rfl, ifB_t ?_⟩)))))
              refine dw_and (dw_gt (dw_at (dw_v rfl (dw_int ⟨_, rfl, dw_int ⟨_, rfl, ifB_d (fun h => ?h13) (fun h => ?h14)⟩⟩))))
              case h13 =>
                refine dw_one (dw_gt (dw_calP C_floor_of ‹Room _ _› (by omega) (da_cons (dw_v rfl (da_cons (dw_v rfl (da_cons (dw_v rfl (da_nil ⟨_, _, _, rfl, hR, hv, dw_v rfl ?_⟩)))))))))
                rw [decide_eq_true (show l.smy.many > 0 from h), Bool.true_and] at hf
                exact hf
              case h14 =>
                rw [decide_eq_false (show ¬ l.smy.many > 0 from h), Bool.false_and] at hf
                exact hf
          case h12 =>
            rw [if_neg h] at hf
            have e : x = "open" := by
              rename_i hin h1 h2
              simp only [stepWs, List.mem_cons, List.not_mem_nil, or_false] at hin
              rcases hin with e | e | e | e
              · exact (h1 e).elim
              · exact (h2 e).elim
              · exact (h e).elim
              · exact e
            rw [decide_eq_true e] at hf
            exact dl_cons (ds_ret (dw_bl hf))
  · have e : isStepD d k v sv reach l = false := by cases d <;> first | rfl | exact (hstr ⟨_, rfl⟩).elim
    cases d <;> first | (cases hd; done) | exact (hstr ⟨_, rfl⟩).elim | skip
    all_goals
      refine dl_cons (ds_if (dt_w (dtw_or (dt_not (dt_val (dw_isi (BI.isinstance ‹_›) (da_cons (dw_v rfl (da_cons (dw_tStr bi (da_nil ⟨_, _, _, _, rfl, rfl, rfl, false, rfl, ifB_t (ifB_t ?_)⟩)))))))))))
      exact dl_cons (ds_ret (dw_bl (no e)))
def closeW (k : Kd) (v : List Int) (s : Sie) (reach : Option Int) (l : Lot) : Str := (stepWs.filter fun w => isStep w k v s reach l).headD "open"
theorem closeW_get (k : Kd) (v : List Int) (s : Sie) (reach : Option Int) (l : Lot) : (stepWs.filter fun w => isStep w k v s reach l)[0]? = some (closeW k v s reach l) := by
  have h : ("open" : Str) ∈ stepWs.filter fun w => isStep w k v s reach l := by
    refine List.mem_filter.mpr ⟨by decide, ?_⟩
    unfold isStep
    rw [if_neg (by decide), if_neg (by decide), if_neg (by decide)]
    exact decide_eq_true rfl
  unfold closeW
  cases e : stepWs.filter fun w => isStep w k v s reach l with
  | nil => rw [e] at h; cases h
  | cons a r => rfl
def f_closing_word (n : Nat) : FT := fun ds Φ => ∃ (k : Kd) (v : List Int) (s : Sie) (reach : Option Int) (l : Lot), ds = [.str (kS k), vecD v, sieD s, optD reach, lotD l] ∧ s.depth ≤ n ∧ RgOk l.reg ∧ Sv' v ∧ Φ (.str (closeW k v s reach l))
theorem ok_closing_word (sw : SW K mg) (n : Nat) (C_is_step : Cal P w K mg base (n + 6) "is_step" p_is_step (spP K T (f_is_step n))) (F : FnT K "closing_word" s_closing_word g fd) : FnOk P w K mg base CX0 (n + 7) g fd p_closing_word (spP K T (f_closing_word n)) := by
  refine fn_okD (k := n + 6) bdOk0 F sc_closing_word (fun ds Φ h => ?_) (by decide) (fun cdv A outer s H XE B ds Φ hM hHI hT hr hf => ?_)
  · obtain ⟨x, y, z, u, v, rfl, _⟩ := h; rfl
  obtain ⟨k, v, sv, reach, l, rfl, hn, hR, hv, hf⟩ := hf
  subst hT
  obtain ⟨a, hm, hs⟩ := sw.ex
  refine dl_cons (ds_ret (dw_at (dw_n (dn_l [("word", 5)] sc_closing_word.nd (show BlkOk n_closing_word (defScope s_closing_word) _ _ from ⟨rfl, by decide +kernel, by decide +kernel, by decide +kernel, by decide +kernel⟩) (lcE [("word", 5)] (fun _ _ _ _ _ _ _ => dg_name 5 sc_closing_word.nd) (by decide) (di_kt (dw_glob (v := .ref a) rfl hm rfl ⟨a, stepWs, rfl, hs, by decide, stepWs, .str, fun w => isStep w k v sv reach l, .str, rfl, ?t, ?f⟩)))))))
  case t =>
    intro gl ow x hx
    exact fun s H C cl fp => dq_one (dt_val (dw_calP C_is_step ‹Room _ _› (by omega) (da_cons (dw_v rfl (da_cons (dw_v rfl (da_cons (dw_v rfl (da_cons (dw_v rfl (da_cons (dw_v rfl (da_cons (dw_v rfl (da_nil ⟨.str x, k, v, sv, reach, l, rfl, rfl, hn, hR, hv, _, rfl, rfl, fun _ s H C cl fp => dw_v rfl rfl⟩)))))))))))))))
  case f =>
    refine dw_int ⟨.str (closeW k v sv reach l), ?_, hf⟩
    have h := closeW_get k v sv reach l
    cases e : stepWs.filter fun w => isStep w k v sv reach l with
    | nil => rw [e] at h; cases h
    | cons b r =>
      rw [e] at h
      cases h
      exact atI_nat (i := 0) rfl
def look : List (Int × Itm) → Int → Option Itm
  | [], _ => none
  | (j, d) :: r, i => if j = i then some d else look r i
theorem look_st : ∀ (st : List (Int × Itm)) (i : Int), lookD (st.map fun q => (q.1, itmD q.2)) i = (look st i).map itmD
  | [], i => rfl
  | (j, d) :: r, i => by
    show (if j = i then some (itmD d) else lookD (r.map fun q => (q.1, itmD q.2)) i) = (if j = i then some d else look r i).map itmD
    split
    · rfl
    · exact look_st r i
def getI (st : List (Int × Itm)) (i : Int) : Itm := (look st i).getD ⟨i, [], []⟩
def pairsOf (st : List (Int × Itm)) (k : Kd) (v : List Int) (s : Sie) (ks : List Int) : List (Int × Int) := ((ks.map (getI st)).filter fun i => lets s i.labs).map fun i => (dist k v i.vec, i.key)
/-- the state holds the keys, and what it holds is in bounds -/
def StOk (st : List (Int × Itm)) : Prop := st.length ≤ 100 ∧ ∀ q ∈ st, Sv' q.2.vec
theorem look_mem : ∀ {st : List (Int × Itm)} {i : Int} {d : Itm}, look st i = some d → (i, d) ∈ st
  | [], i, d, h => by cases h
  | (j, e) :: r, i, d, h => by
    have h : (if j = i then some e else look r i) = some d := h
    by_cases q : j = i
    · rw [if_pos q] at h; cases h; subst q; exact List.mem_cons_self
    · rw [if_neg q] at h; exact List.mem_cons_of_mem _ (look_mem h)
def f_pairs_of (n : Nat) : FT := fun ds Φ => ∃ (st : List (Int × Itm)) (k : Kd) (v : List Int) (s : Sie) (ks : List Int), ds = [stD st, .str (kS k), vecD v, sieD s, vecD ks] ∧ s.depth ≤ n ∧ StOk st ∧ (∀ i ∈ ks, ∃ d, look st i = some d) ∧ Sv' v ∧ Φ (.lst (prsD (pairsOf st k v s ks)))
theorem ok_pairs_of (n : Nat) (C_passes : Cal P w K mg base (n + 3) "passes" p_passes (spP K T (f_passes n))) (C_distance : Cal P w K mg base 2 "distance" p_distance (spP K T f_distance)) (F : FnT K "pairs_of" s_pairs_of g fd) : FnOk P w K mg base CX0 (n + 4) g fd p_pairs_of (spP K T (f_pairs_of n)) := by
  refine fn_okD (k := n + 3) bdOk0 F sc_pairs_of (fun ds Φ h => ?_) (by decide) (fun cdv A outer s H XE B ds Φ hM hHI hT hr hf => ?_)
  · obtain ⟨x, y, z, u, v, rfl, _⟩ := h; rfl
  obtain ⟨st, k, v, sv, ks, rfl, hn, hst, hks, hv, hf⟩ := hf
  subst hT
  refine dl_cons (ds_setLd (ixS n_pairs_of "some") [("key", 6)] sc_pairs_of.nd (show BlkOk n_pairs_of (defScope s_pairs_of) _ _ from ⟨rfl, by decide +kernel, by decide +kernel, by decide +kernel, by decide +kernel⟩) (lcE [("key", 6)] (fun _ _ _ _ _ _ _ => dg_name 6 sc_pairs_of.nd) (by decide) (di_tup (dw_v rfl ⟨_, rfl, ks, .int, fun _ => true, fun i => itmD (getI st i), rfl, ?t, ?f⟩))))
  case t =>
    intro gl ow x hx
    obtain ⟨d, hd⟩ := hks x hx
    refine fun s H C cl fp => dq_nil ⟨rfl, fun _ s H C cl fp => dw_dget (by have := hr.units; show A.units + 3 + 1 < _; have : A.units + 3 + 64 < cLine := hr.units; omega) (dw_v rfl (dw_v rfl ⟨_, _, itmD d, rfl, rfl, ?_, ?_⟩))⟩
    · rw [look_st, hd]; rfl
    · show itmD d = itmD (getI st x)
      unfold getI; rw [hd]; rfl
  case f =>
    refine dl_cons (ds_ret (dw_n (dn_l [("item", 7)] sc_pairs_of.nd (show BlkOk n_pairs_of (defScope s_pairs_of) _ _ from ⟨rfl, by decide +kernel, by decide +kernel, by decide +kernel, by decide +kernel⟩) (lcE [("item", 7)] (fun _ _ _ _ _ _ _ => dg_name 7 sc_pairs_of.nd) (by decide) (di_lst (dw_v rfl ⟨_, rfl, ks.map (getI st), itmD, fun i => lets sv i.labs, fun i => prT (dist k v i.vec, i.key), ?e, ?t2, ?f2⟩))))))
    case e => rw [filter_tt, List.map_map]; rfl
    case t2 =>
      intro gl ow x hx
      obtain ⟨i, hi, rfl⟩ := List.mem_map.mp hx
      obtain ⟨d, hd⟩ := hks i hi
      have hg : getI st i = d := by unfold getI; rw [hd]; rfl
      have hvd : Sv' (getI st i).vec := by rw [hg]; exact hst.2 _ (look_mem hd)
      refine fun s H C cl fp => dq_one (dt_val (dw_calP C_passes ‹Room _ _› (by omega) (da_cons (dw_v rfl (da_cons (dw_v rfl (da_nil ⟨sv, _, rfl, hn, _, rfl, rfl, fun _ s H C cl fp => ?_⟩)))))))
      exact dw_tup (da_cons (dw_calP C_distance ‹Room _ _› (by omega) (da_cons (dw_v rfl (da_cons (dw_v rfl (da_cons (dw_at (dw_v rfl (dw_int ⟨_, rfl, da_nil ⟨k, v, _, rfl, hv, hvd, da_cons (dw_at (dw_v rfl (dw_int ⟨_, rfl, da_nil ⟨szl, rfl⟩⟩)))⟩⟩))))))))))
    case f2 =>
      have e : List.map (fun i => prT (dist k v i.vec, i.key)) (List.filter (fun i => lets sv i.labs) (List.map (getI st) ks)) = prsD (pairsOf st k v sv ks) := by
        show _ = List.map prT (List.map _ _)
        rw [List.map_map]; rfl
      rw [e]; exact hf
end
end N
set_option Elab.async false
set_option linter.all false
set_option maxRecDepth 100000
set_option maxHeartbeats 2000000
/-! DV: a lambda with parameters that captures names, handed to a def that calls it. -/
namespace N
open PySem
open PySem.Spec
open PyProof.Rows
open L2
open NdefX (NF NScope CellsAt startF envF ncx Caps cells_of inv_startN slotAt slotAt_of codeO_at)
open LamX (CodeO Tabs TabB ExtN)
theorem stt_start {K : PySem.W.Frag} {M : Addr → Prop} {HI : Hp → Prop} {T : List (Addr × Str)} {G H : Hp} {vs : List V} {ds : List Dt} (N : List Str) (bok : BdOk M HI) (cl : Cln G H) (gm : ∀ b, M b → G b = none) (tb : Tabs T H) (hi : HI H) (r : RpA K G vs ds) : Stt K ⟨M, HI, T, G, H, G, []⟩ (st0 N ds) (L2.start N vs) G H := by
  refine ⟨bok, Ext.rf H G, cl, tb, hi, gm, ?_, fun i s h => ?_, fun i j s u l hi hj hs hu => ?_, GLe.rfl' G, fun p hp => (nomatch hp), fun p hp => (nomatch hp), List.nodup_nil⟩
  · unfold L2.start st0
    rw [List.length_append, List.length_append, List.length_map, List.length_map, List.length_replicate, List.length_replicate, r.len]
  · rcases rpa_at r N i s h with ⟨d, rfl, v, hv, rv⟩ | rfl
    · exact ⟨v, hv, rv⟩
    · trivial
  · rcases rpa_at r N i s hi with ⟨d, rfl, _⟩ | rfl <;> cases hs
theorem startF_eq (N : List Str) (vs ws : List V) : startF N vs (ws.map some) = L2.start N (vs ++ ws) := by
  unfold startF L2.start
  rw [List.map_append, List.append_assoc, List.length_append, List.length_map, Nat.sub_sub]
theorem cells_un {cl : List (Str × Addr)} {fr : List Str} {ws : List (Option V)} {h h' : Heap} {H H' : Hp} {fs : List Addr} (C : CellsAt cl fr ws h H) (un : Un fs [] H H' h h') : CellsAt cl fr ws h' H' := by
  have mv : ∀ c v, H c = none → h.IsCell c v → h'.IsCell c v := fun c v n ⟨o, ho, hd⟩ => by
    obtain ⟨sl, q⟩ := un.any ho n (by simp)
    exact ⟨_, q, hd⟩
  refine ⟨C.len, fun y c e => ?_, C.inj, fun i y e => ?_⟩
  · obtain ⟨n, v, z⟩ := C.all y c e
    refine ⟨?_, v, mv c v n z⟩
    obtain ⟨o, ho, _⟩ := z
    exact un.free c o ho n (by simp)
  · obtain ⟨c, hc, hv⟩ := C.has i y e
    refine ⟨c, hc, fun v ev => ?_⟩
    obtain ⟨u, ru, z⟩ := hv v ev
    exact ⟨u, ru, mv c _ (C.all y c hc).1 z⟩
/-- the lambda's code runs -/
theorem lam_code {P : Program} {w : World} {K : PySem.W.Frag} {mg : Str → Option Value} {base : Heap} {N ps fr : List Str} {F : NF} {f : Addr} {A : Around} {outer : List Env} {s : Shared} {H : Hp} {us : List Value} {vs : List V} {ws : List (Option V)} {k : Nat} {Q : VK} {lb : Expr} {pm ctv : Value} {params : Arguments}
    (S : NScope N ps fr F.scope) (hr : Room (k + 1) A) (e0 : Env0 P w K mg base A outer s H) (of1 : s.heap.get? f = some (PySem.W.kla_obj "<lambda>" F.qual params lb F.scope F.cl pm F.c ctv)) (hc : H F.c = some (CodeO F.c F.qual)) (C : CellsAt F.cl fr ws s.heap H) (r : Vals vs us) (hl : vs.length = ps.length)
    (hb : bindArgs (PySem.W.kla_fn "<lambda>" F.qual params lb F.scope F.cl pm (.ref F.c) ctv) ⟨us, []⟩ = pure (ps.zip us)) (hbody : Room k (A.deeper (envF F f s.heap.objs.size)) → semE (ncx CX0 P w K mg base N F f A outer s H E0).nox lb (startF N vs ws) H Q) :
    codeAny (model P w) A (.call (.ref f) ⟨us, []⟩) (CR CX0 outer P w H s Q E0) s := by
  have lim : s.heap.NoLimit := e0.mod.nolimit.keeps fun b o e => (e0.bs b o e).1
  refine PySem.W.kla_callFunE hr.depth of1 rfl S.co S.gen rfl (codeO_at e0.hok hc) ?_
  rw [hb]
  refine wpAny_pure (wpAny_newFunctionEnv S.nocell (fun ⟨n, _⟩ hy => S.par n (List.of_mem_zip hy).1) (fun h₁ hns hsb => ⟨lim.fresh _ hsb, ?_⟩) S.kind)
  show codeAny _ _ (.expr lb (envF F f s.heap.objs.size)) _ _
  have kp : ∀ b o, s.heap.get? b = some o → h₁.get? b = some o := fun b o e => hsb.extBut b o (Nat.ne_of_lt (Heap.lt_size e)) (Heap.get?_push_of_some _ e)
  have I := inv_startN (CX := CX0) (E := E0) (f := f) (tk := s.toks + (ps.zip us).length) S hr.hd e0 hl r C hns kp
  have pe : PE (ncx CX0 P w K mg base N F f A outer s H E0) lb (semE (ncx CX0 P w K mg base N F f A outer s H E0).nox lb) := (qE : PE (ncx CX0 P w K mg base N F f A outer s H E0).nox lb _).nox
  refine PySem.W.kla_codeExpr (wpAny_mono (pe.run [] _ _ H Q I (hbody (hr.deeper _))) (fun v s' hq => ?_) fun e s' hq => hq)
  obtain ⟨w', H', J', rv, q⟩ := hq
  exact ⟨w', H', J'.os, J'.bare, J'.base, J'.hok, rv, q⟩
/-- what is known of a lambda f in the def Z that got it -/
structure LamOk (Z : Cx) (B : Bd) (F : NF) (f : Addr) (lb : Expr) (N' ps fr : List Str) (cds : List Dt) (k : Nat) (LB : FT) : Prop where
  ex : Z.ex = []
  S : NScope N' ps fr F.scope
  of0 : ∃ params pm ctv, Z.s_0.heap.get? f = some (PySem.W.kla_obj "<lambda>" F.qual params lb F.scope F.cl pm F.c ctv) ∧ ∀ us : List Value, us.length = ps.length → bindArgs (PySem.W.kla_fn "<lambda>" F.qual params lb F.scope F.cl pm (.ref F.c) ctv) ⟨us, []⟩ = pure (ps.zip us)
  hfn : Z.H_0 f = none
  hfr : f ∉ Z.fs
  hc0 : Z.H_0 F.c = some (CodeO F.c F.qual)
  H0 : B.H0 = Z.H_0
  M : B.M = noM
  HI : B.HI = noHI
  cells : ∃ vs : List V, CellsAt F.cl fr (vs.map some) Z.s_0.heap Z.H_0 ∧ RpA Z.K B.G0 vs cds
  body : ∀ (A : Around) (outer : List Env) (s : Shared) (H : Hp) (B2 : Bd) (ds : List Dt) (Φ : Dt → Prop), B2.M = noM → B2.HI = noHI → B2.T = B.T → Room k (A.deeper (envF F f s.heap.objs.size)) → LB ds Φ → DW (ncx CX0 Z.prog Z.w Z.K Z.mg Z.base N' F f A outer s H E0).nox B2 (st0 N' (ds ++ cds)) lb Φ
  len : ∀ ds Φ, LB ds Φ → ds.length = ps.length
section
variable {Z : Cx} {B : Bd} {E : Ev} {Φ : Dt → Prop} {F : NF} {f : Addr} {lb e : Expr} {es : List Expr} {N' ps fr : List Str} {cds : List Dt} {k n : Nat} {LB : FT} {x : Str} {p pos : Pos}
theorem LamOk.own (L : LamOk Z B F f lb N' ps fr cds k LB) (o : List (Addr × List Dt)) (g : Hp) : LamOk Z (B.v g o) F f lb N' ps fr cds k LB := ⟨L.ex, L.S, L.of0, L.hfn, L.hfr, L.hc0, L.H0, L.M, L.HI, L.cells, L.body, L.len⟩
/-- the lambda is called by a name that holds it -/
theorem dw_lam (L : LamOk Z B F f lb N' ps fr cds k LB) (i : Nat) (hE : E[i]? = some (.dt (.raw (.ref f)))) (hr : Room n Z.A) (hk : k + 1 ≤ n) (h : DA Z B E (e :: es) fun ds => LB ds Φ) (hN : Z.N[i]? = some x := by rfl) (hv : Vis Z.env.scope x := by first | exact Or.inl rfl | exact Or.inr (Or.inl rfl) | exact Or.inr (Or.inr rfl))
    (hd : (x == ("__debug__" : Str)) = false := by decide) (hcd : (x == ("__classdict__" : Str)) = false := by decide) (he : starEach (e :: es) Z.env = (false, eval e Z.env) :: starEach es Z.env := by rfl) (hpl : (backTo pos (starEach es Z.env)).any (·.1) = false := by rfl) :
    DW Z B E (.Call (.Name x p) (e :: es) [] pos) Φ := fun σ G H Q S q => by
  refine ⟨fun pins s I => ?_⟩
  obtain ⟨params, pm, ctv, of0, hb⟩ := L.of0
  have at_ : ∀ {pins : List (Addr × Obj)} {s : Shared} {σ : L2.St} {H : Hp}, Inv Z pins σ H s → s.heap.get? f = some (PySem.W.kla_obj "<lambda>" F.qual params lb F.scope F.cl pm F.c ctv) := fun I => I.base.keep f _ of0 L.hfn L.hfr (by rw [L.ex]; simp)
  obtain ⟨v0, hs, r0⟩ := S.sl i _ hE
  cases r0
  refine wpAny_Call_Name_kw (thn ((pe_var (pos := p) (i := i) hN hv hd hcd).run pins s σ H (fun v H1 => v = .ref f ∧ H1 = H) I ⟨.ref f, hs, rfl, rfl⟩) fun u s1 ⟨v, H1, I1, r1, q1⟩ => ?_)
  obtain ⟨ev, eH⟩ := q1
  subst ev
  rw [eH] at I1
  obtain rfl : u = Value.ref f := r1
  have hA := h σ G H (fun vs H2 => ∃ G2 ds, Stt Z.K B E σ G2 H2 ∧ Ext B.M H G H2 G2 ∧ RpA Z.K G2 vs ds ∧ LB ds Φ) S fun vs ds G2 H2 S2 x2 r2 f2 => ⟨G2, ds, S2, x2, r2, f2⟩
  refine PySem.W.callWith_F (first := []) ⟨_, _, _, _, at_ I1⟩ (thn (hA.run pos pins s1 I1) fun us s2 ⟨vs, H2, I2, r, G2, ds, S2, x2, r2, f2⟩ => ⟨⟨_, _, _, _, at_ I2⟩, ?_⟩) he hpl
  show wpAny _ _ (call (.ref f) us) _ _ _
  obtain ⟨cvs, C0, rc⟩ := L.cells
  have un : Un Z.fs [] Z.H_0 H2 Z.s_0.heap s2.heap := by
    have := I2.base
    rw [L.ex] at this
    exact this
  have C2 := cells_un C0 un
  have hc2 : H2 F.c = some (CodeO F.c F.qual) := S2.ext.keep F.c _ (by rw [L.H0]; exact L.hc0) LamX.codeO_ne (by rw [L.M]; exact id)
  have hl : vs.length = ps.length := by rw [r2.len]; exact L.len ds Φ f2
  refine wpAny_call (codeAny_mono (lam_code (k := k) (Q := Q) L.S (hr.mono hk) I2.env0 (at_ I2) hc2 C2 r hl (hb us (by rw [← r.length]; exact hl)) fun hr' => ?_) fun r s' hq => ?_)
  · rw [startF_eq]
    have bok : BdOk noM noHI := bdOk0
    have rr : RpA Z.K G2 (vs ++ cvs) (ds ++ cds) := r2.app (RpA.le S2.ext.gg rc)
    refine L.body Z.A Z.stack s2 H2 ⟨noM, noHI, B.T, G2, H2, G2, []⟩ ds Φ rfl rfl rfl hr' f2 _ G2 H2 Q (stt_start N' bok S2.cln (fun _ h => h.elim) S2.tab trivial rr) ?_
    intro v d G3 H3 S3 x3 r3 f3
    have x3' : Ext B.M H2 G2 H3 G3 := Ext.wk x3
    exact q v d G3 H3 (S2.step x3' S3.cln S3.tab (by rw [L.HI]; trivial)) (x2.tr x3') r3 f3
  · cases r with
    | error e => exact (show False from hq).elim
    | ok fl =>
      cases fl with
      | ret u => exact I2.after hq
      | next => exact False.elim hq
      | brk => exact False.elim hq
      | cont => exact False.elim hq
/-! ### the lambda is made and handed on -/
theorem lam_makeN {X : Cx} {pins : List (Addr × Obj)} {σ : L2.St} {H : Hp} {s : Shared} {T : List (Addr × Str)} {c P : Addr} {params : Arguments} {body : Expr} {scope : Scope} {pos : Pos} {E : Value → Shared → Prop} {Q : Value → Shared → Prop} (I : Inv X pins σ H s) (TB : TabB X.base X.mg c P) (hcode : X.env.code = .ref c)
    (hm : (P, X.env.qual ++ "<lambda>") ∈ T) (hu : ∀ p ∈ T, p.1 = P → p.2 = X.env.qual ++ "<lambda>") (hT : Tabs T H) (hdef : defaultsOf params X.env = ([], [])) (hfree : ∀ y ∈ scope.names, y.2 = .free → ∃ c, X.env.cells.lookup y.1 = some c)
    (h : ∀ (f c' : Addr) (pm ctv : Value) (H1 : Hp) (s' : Shared), Inv X pins σ H1 s' → ExtN H H1 → (∀ b, H1 b = none → H b = none) → Tabs T H1 →
      s'.heap.get? f = some (PySem.W.kla_obj "<lambda>" (X.env.qual ++ "<lambda>") params body scope (cloFrom X.env.cells scope.names []) pm c' ctv) → H1 f = none → f ∉ frs X.stack → H1 c' = some (CodeO c' (X.env.qual ++ "<lambda>")) → Q (.ref f) s') :
    wpAny (model X.prog X.w) X.A (eval (.Lambda params body scope pos) X.env) Q E s := by
  obtain ⟨ps, hP, ht, ha⟩ := hT _ hm
  refine PySem.W.kla_eval hdef ?_
  have bP : s.heap.BuiltinsAt X.mg P := TB.bm.keeps I.bk
  have hP' : s.heap.get? P = some { cls := .none, data := .fields ps } := I.hok P _ hP
  have nofr : ∀ f, s.heap.objs.size ≤ f → f ∉ frs X.stack := fun f hf z => by
    rcases List.mem_cons.mp (I.stkSub _ z) with e | e
    · have h1 := I.lt
      rw [← e] at h1
      exact Nat.lt_irrefl _ (Nat.lt_of_lt_of_le h1 hf)
    · exact I.nofs hf e
  cases hc : codeAmong pos ps.toList with
  | none =>
    refine PySem.W.kla_makeFunction (mg := X.mg) (c := c) (P := P) (ps := ps) (closure_ok hfree) I.ok.glob (I.mod.glob.keeps I.bk) hcode (TB.code.keeps I.bk) hP' ht hc TB.gP bP fun c' ctv h' tk hx hge hlt hrec htb => ?_
    obtain ⟨c2, oc, vs, t, e2, hoc, hd, hv⟩ := hrec
    cases e2
    have hsz : s.heap.objs.size ≤ h'.objs.size := Nat.le_trans hge (Nat.le_of_lt hlt)
    have nC : H c' = none := I.hok.fresh hge
    have I1 := LamX.inv_table (t' := tk) (more := #[rawInt pos.line, rawInt pos.col, .ref c']) (h' := h'.push (PySem.W.kla_obj "<lambda>" (X.env.qual ++ "<lambda>") params body scope (cloFrom X.env.cells scope.names []) ((X.mg "__name__").getD .none) c' ctv)) I hP
      (fun b o hb e => Heap.get?_push_of_some _ (hx b o hb e)) (Heap.get?_push_of_some _ htb) hge ⟨oc, vs, t, Heap.get?_push_of_some _ hoc, hd, hv⟩
    have hE : ExtN H (upd (upd H P (.tbl (ps ++ #[rawInt pos.line, rawInt pos.col, .ref c']))) c' (CodeO c' (X.env.qual ++ "<lambda>"))) := fun b o e n => by
      rw [upd_ne (ne_of_none e nC), upd_ne (fun z => n ps (Option.some.inj (e.symm.trans (by rw [z]; exact hP))))]
      exact e
    have eL : (ps ++ #[rawInt pos.line, rawInt pos.col, .ref c']).toList = ps.toList ++ [rawInt pos.line, rawInt pos.col, .ref c'] := by simp
    refine h h'.objs.size c' ((X.mg "__name__").getD .none) ctv _ _ I1 hE (fun b e => NdefX.upd_none (NdefX.upd_none e)) (fun p hp => ?_) (Heap.get?_push_size _ rfl) ?_ (nofr _ hsz) upd_same
    · by_cases hb : p.1 = P
      · rw [hu p hp hb, hb]
        refine ⟨_, by rw [upd_ne (ne_of_none hP nC), upd_same], by rw [eL]; exact PySem.TriplesOk_snoc _ _ _ _ ht, fun p' cv hcv => ?_⟩
        rw [eL] at hcv
        rcases LamX.among_app _ ht hcv with z | z
        · obtain ⟨c0, e1, e2⟩ := ha p' cv z
          exact ⟨c0, e1, hE _ _ e2 LamX.codeO_ne⟩
        · exact ⟨c', z, upd_same⟩
      · obtain ⟨ps', a1, a2, a3⟩ := hT p hp
        refine ⟨ps', by rw [upd_ne (ne_of_none a1 nC), upd_ne hb]; exact a1, a2, fun p' cv hcv => ?_⟩
        obtain ⟨c0, e1, e2⟩ := a3 p' cv hcv
        exact ⟨c0, e1, hE _ _ e2 LamX.codeO_ne⟩
    · have n1 : h'.objs.size ≠ c' := Nat.ne_of_gt hlt
      have n2 : h'.objs.size ≠ P := Nat.ne_of_gt (Nat.lt_of_lt_of_le (Heap.lt_size hP') hsz)
      rw [upd_ne n1, upd_ne n2]
      exact I.hok.fresh hsz
  | some cv =>
    obtain ⟨c', e, hco⟩ := ha pos cv hc
    subst e
    refine PySem.W.kla_makeFunctionHit (mg := X.mg) (c := c) (P := P) (ps := ps) (closure_ok hfree) I.ok.glob (I.mod.glob.keeps I.bk) hcode (TB.code.keeps I.bk) hP' ht hc bP fun ctv h' tk hx hsz => ?_
    have I1 : Inv X pins σ H { s with heap := h'.push (PySem.W.kla_obj "<lambda>" (X.env.qual ++ "<lambda>") params body scope (cloFrom X.env.cells scope.names []) ((X.mg "__name__").getD .none) c' ctv), toks := tk } := I.kept fun b o e => Heap.get?_push_of_some _ (hx b o e)
    exact h h'.objs.size c' ((X.mg "__name__").getD .none) ctv H _ I1 (LamX.ExtN.refl H) (fun b e => e) hT (Heap.get?_push_size _ rfl) (I.hok.fresh hsz) (nofr _ hsz) hco
theorem caps_vals {K : PySem.W.Frag} {B : Bd} {E : Ev} {σ : L2.St} {G H : Hp} (S : Stt K B E σ G H) : ∀ {js : List Nat} {cds : List Dt}, js.map (fun j => E[j]?) = cds.map (fun d => some (Sl.dt d)) → ∃ vs : List V, js.map (slotAt σ) = vs.map some ∧ RpA K G vs cds
  | [], [], _ => ⟨[], rfl, .nil⟩
  | [], _ :: _, h => by cases h
  | _ :: _, [], h => by cases h
  | j :: js, d :: cds, h => by
    rw [List.map_cons, List.map_cons] at h
    injection h with h1 h2
    obtain ⟨v, hv, rv⟩ := S.sl j _ h1
    obtain ⟨vs, e, r⟩ := caps_vals S h2
    exact ⟨v :: vs, by rw [List.map_cons, List.map_cons, e, slotAt_of hv], .cons rv r⟩
section
variable {X : Cx} {B : Bd} {E : Ev} {Φ : Dt → Prop} {lb e1 e2 : Expr} {N' ps fr Ng psG : List Str} {cds : List Dt} {k kk : Nat} {LB : FT} {x : Str} {p pos lpos : Pos} {params pg : Arguments} {scope sg : Scope} {bg : List Stmt} {c P : Addr} {js : List Nat}
/-- g(e1, e2, lambda ..: ..) -/
theorem dw_give (HG : ∃ (g : Addr) (fd : FuncData), FunD X.K x x pg bg sg [] [] g fd ∧ X.mg x = some (.ref g) ∧ PySem.W.keepIn X.K (.ref g) = true ∧ Binds X.K fd psG []) (Sg : FnScope Ng psG sg) (hps : psG.length = 3) (TB : TabB X.base X.mg c P) (hcode : X.env.code = .ref c)
    (hmT : (P, X.env.qual ++ "<lambda>") ∈ B.T) (hu : ∀ p ∈ B.T, p.1 = P → p.2 = X.env.qual ++ "<lambda>") (hM : B.M = noM) (hHI : B.HI = noHI) (hr : Room (kk + 1) X.A) (SLm : NScope N' ps fr scope) (nd : NdefX.ndefB X.env.scope scope fr = true) (hdef : defaultsOf params X.env = ([], []))
    (hbind : ∀ (q : Str) (cl : List (Str × Addr)) (pm cv ctv : Value) (us : List Value), us.length = ps.length → bindArgs (PySem.W.kla_fn "<lambda>" q params lb scope cl pm cv ctv) ⟨us, []⟩ = pure (ps.zip us)) (hjs : js.map (fun j => X.N[j]?) = fr.map some) (hcd : js.map (fun j => E[j]?) = cds.map (fun d => some (Sl.dt d)))
    (len : ∀ ds Φ, LB ds Φ → ds.length = ps.length)
    (hbody : ∀ (F : NF) (f : Addr) (A : Around) (outer : List Env) (s : Shared) (H : Hp) (B2 : Bd) (ds : List Dt) (Φ : Dt → Prop), F.scope = scope → B2.M = noM → B2.HI = noHI → B2.T = B.T → Room k (A.deeper (envF F f s.heap.objs.size)) → LB ds Φ → DW (ncx CX0 X.prog X.w X.K X.mg X.base N' F f A outer s H E0).nox B2 (st0 N' (ds ++ cds)) lb Φ)
    (h : DW X B E e1 fun d1 => DW X B E e2 fun d2 => ∀ (f g : Addr) (F : NF) (cdv : Value) (s' : Shared) (H1 : Hp) (B' : Bd), B'.M = noM → B'.HI = noHI → B'.T = B.T → Room kk (X.A.deeper (envOfC x sg s'.heap.objs.size g cdv)) → LamOk (cxOf CX0 X.prog X.w X.K X.mg X.base Ng x sg g cdv X.A X.stack s' H1 E0).nox B' F f lb N' ps fr cds k LB →
      DL (cxOf CX0 X.prog X.w X.K X.mg X.base Ng x sg g cdv X.A X.stack s' H1 E0).nox B' (st0 Ng [d1, d2, .raw (.ref f)]) bg { nx := fun _ => Φ .non, rt := Φ })
    (hg : Gl X x := by rfl) (hdb : (x == ("__debug__" : Str)) = false := by decide) (he : starEach [e1, e2, .Lambda params lb scope lpos] X.env = (false, eval e1 X.env) :: starEach [e2, .Lambda params lb scope lpos] X.env := by rfl)
    (hpl : (backTo pos (starEach [e2, .Lambda params lb scope lpos] X.env)).any (·.1) = false := by rfl) (hsp : backTo pos (starEach [e1, e2, .Lambda params lb scope lpos] X.env) = (false, eval e1 X.env) :: (false, eval e2 X.env) :: (false, eval (.Lambda params lb scope lpos) X.env) :: [] := by rfl) :
    DW X B E (.Call (.Name x p) [e1, e2, .Lambda params lb scope lpos] [] pos) Φ := fun σ G H Q S q => by
  refine ⟨fun pins s I => ?_⟩
  obtain ⟨g, fd, F, hm, hk, hb⟩ := HG
  obtain ⟨oc, od, dV, kV, doc, pm, an, cdv, ct, osl, rfl, lk, hcdv, _, _⟩ := F.ex
  refine wpAny_Call_Name_kw (ld_glob I hg hm ?_ hdb)
  refine PySem.W.callWith_K (h₀ := X.base) I.ok.mod.kin hk ?_ he hpl
  rw [hsp]
  have hA := h σ G H (fun v H2 => ∃ d1 G2, Stt X.K B E σ G2 H2 ∧ Ext B.M H G H2 G2 ∧ Rp X.K G2 v d1 ∧ DW X B E e2 fun d2 => _) S fun v d1 G2 H2 S2 x2 r2 f2 => ⟨d1, G2, S2, x2, r2, f2⟩
  refine Calls.spliced_cons (thn (hA.run pins s I) fun u1 s1 ⟨v1, H2, I2, ru1, d1, G2, S2, x2, r2, f2⟩ => ?_)
  have hB := f2 σ G2 H2 (fun v H3 => ∃ d2 G3, Stt X.K B E σ G3 H3 ∧ Ext B.M H2 G2 H3 G3 ∧ Rp X.K G3 v d2 ∧ _) S2 fun v d2 G3 H3 S3 x3 r3 f3 => ⟨d2, G3, S3, x3, r3, f3⟩
  refine Calls.spliced_cons (thn (hB.run pins s1 I2) fun u2 s2 ⟨v2, H3, I3, ru2, d2, G3, S3, x3, r3, f3⟩ => ?_)
  have hf := NdefX.ndef_free nd
  have hfree : ∀ y ∈ scope.names, y.2 = .free → ∃ c, X.env.cells.lookup y.1 = some c := fun y hy e => (hf y hy e).elim (fun z => I3.ok.has _ (.inl z)) fun z => I3.ok.has _ (.inr z)
  refine Calls.spliced_cons (lam_makeN I3 TB hcode hmT hu S3.tab hdef hfree fun f c' pm' ctv' H4 s' I4 eN nn T4 hfo hfn hfr hco => ?_)
  refine Calls.spliced_nil ⟨I4.kIn, ?_⟩
  have x4 : Ext noM H3 G3 H4 G3 := ⟨fun _ _ h => h, fun b o e n _ => eN b o e n, fun b o e => by
    cases z : H4 b with
    | none => rw [nn b z] at e; cases e
    | some o' => exact ⟨o', rfl⟩, fun _ _ h => .inl h⟩
  have c4 : Cln G3 H4 := ⟨fun b o e => eN b o (S3.cln.sub b o e) (fun ps z => S3.cln.ntb b ps (by rw [e, z])), S3.cln.ntb⟩
  have S4 : Stt X.K B E σ G3 H4 := S3.pure x4 c4 T4
  obtain ⟨cvs, ew, rc⟩ := caps_vals S4 hcd
  have C4 := cells_of I4 (Caps.made I4.ok hf (NdefX.ndef_fr nd) hjs)
  rw [ew] at C4
  have rr : RpA X.K G3 [v1, v2, .ref f] [d1, d2, .raw (.ref f)] := .cons (r2.le x3.gg) (.cons r3 (.cons (.raw _) .nil))
  have rc4 : codeAny (model X.prog X.w) X.A (.call (.ref g) ⟨[u1, u2, .ref f], []⟩) (CR CX0 X.stack X.prog X.w H4 s' Q E0) s' := by
    refine LamX.run_ofS (N := Ng) (ps := psG) (us := [u1, u2, .ref f]) (vs := [v1, v2, .ref f]) lk hcdv Sg hr I4.env0 (hb s' [u1, u2, .ref f] I4.kIn (by rw [hps]; rfl)) (.cons ru1 (.cons ru2 (.cons rfl .nil))) (by rw [hps]; rfl) fun hr' => ?_
    refine ⟨semL (cxOf CX0 X.prog X.w X.K X.mg X.base Ng x sg g cdv X.A X.stack s' H4 E0).nox bg, (qL : PSs (cxOf CX0 X.prog X.w X.K X.mg X.base Ng x sg g cdv X.A X.stack s' H4 E0).nox bg _).nox, ?_⟩
    refine f3 f g ⟨"<lambda>", X.env.qual ++ "<lambda>", params, [], scope, cloFrom X.env.cells scope.names [], c'⟩ cdv s' H4 ⟨noM, noHI, B.T, G3, H4, G3, []⟩ rfl rfl rfl hr' ⟨rfl, SLm, ⟨params, pm', ctv', hfo, fun us hl => hbind _ _ _ _ _ us hl⟩, hfn, hfr, hco, rfl, rfl, rfl, ⟨cvs, C4, rc⟩, fun A outer s H B2 ds Φ h1 h2 h3 h4 h5 => hbody _ f A outer s H B2 ds Φ rfl h1 h2 h3 h4 h5, len⟩ _ G3 H4 _ (stt_start Ng bdOk0 c4 (fun _ h => h.elim) T4 trivial rr) ?_
    have fin : ∀ (v : V) (d : Dt) (G5 H5 : Hp), Fin ⟨noM, noHI, B.T, G3, H4, G3, []⟩ G5 H5 → Rp X.K G5 v d → Φ d → Q v H5 := fun v d G5 H5 Fi r5 f5 => by
      have x5 : Ext B.M H4 G3 H5 G5 := Ext.wk Fi.ext
      exact q v d G5 H5 (S4.step x5 Fi.cln Fi.tab (by rw [hHI]; trivial)) (((x2.tr x3).tr (Ext.wk x4)).tr x5) r5 f5
    exact ⟨fun E5 σ5 G5 H5 S5 f5 => fin .non .non G5 H5 S5.fin .non f5, fun v d G5 H5 Fi r5 f5 => fin v d G5 H5 Fi r5 f5, fun _ _ _ _ _ f => f.elim, fun _ _ _ _ _ f => f.elim⟩
  refine wpAny_call (codeAny_mono rc4 fun r s2 hq => ?_)
  cases r with
  | error e => exact (show False from hq).elim
  | ok fl =>
    cases fl with
    | ret u => exact I4.after hq
    | next => exact False.elim hq
    | brk => exact False.elim hq
    | cont => exact False.elim hq
end
end
end N
set_option Elab.async false
set_option linter.all false
set_option maxRecDepth 100000
set_option maxHeartbeats 2000000
/-! DR: two new lists at once, own lists joined. -/
namespace N
open PySem
open PySem.Spec
open PyProof.Rows
open L2
section
variable {X : Cx} {B : Bd} {E : Ev} {Φ : Dt → Prop} {Ψ : Ed} {e a b c : Expr} {es : List Expr} {pos p p1 p2 p3 : Pos} {x y : Str}
/-- a list that stands in the heap and is nobody's becomes slot i's own -/
theorem Stt.takeOwn {K : PySem.W.Frag} {σ : L2.St} {G H : Hp} (S : Stt K B E σ G H) (i : Nat) {p : Addr} {xs : List V} {ds : List Dt} (hp : H p = some (.lst xs)) (gp : G p = none) (h0 : B.H0 p = none) (mp : ¬ B.M p) (old : ∀ (j : Nat) (s : Sl), E[j]? = some s → s.adr ≠ some p) (og : ∀ q ∈ B.ow, q.1 ≠ p)
    (r : RpA K G xs ds) (z : ds.length ≤ sizeLine) : Stt K B (E.set i (.own p ds)) (σ.set i (some (.ref p))) G H := by
  refine ⟨S.bok, S.ext, S.cln, S.tab, S.hi, S.gm, by rw [List.length_set, List.length_set]; exact S.len, fun j s h => ?_, fun a b s u l' ha hb sa ub => ?_, S.low, S.gho, fun q hq j s h => ?_, S.gnd⟩
  · by_cases e : i = j
    · subst e
      have hlt : i < E.length := by have q := (List.getElem?_eq_some_iff.mp h).1; rwa [List.length_set] at q
      rw [List.getElem?_set_self hlt] at h
      cases h
      exact ⟨by rw [List.getElem?_set_self (by rw [S.len]; exact hlt)], gp, h0, mp, xs, hp, r, z⟩
    · rw [List.getElem?_set_ne e] at h ⊢
      exact S.sl j s h
  · by_cases ea : i = a
    · by_cases eb : i = b
      · rw [← ea, ← eb]
      · subst ea
        rw [List.getElem?_set_self (by have q := (List.getElem?_eq_some_iff.mp ha).1; rwa [List.length_set] at q)] at ha
        rw [List.getElem?_set_ne eb] at hb
        cases ha; cases sa
        exact (old b u hb ub).elim
    · rw [List.getElem?_set_ne ea] at ha
      by_cases eb : i = b
      · subst eb
        rw [List.getElem?_set_self (by have q := (List.getElem?_eq_some_iff.mp hb).1; rwa [List.length_set] at q)] at hb
        cases hb; cases ub
        exact (old a s ha sa).elim
      · rw [List.getElem?_set_ne eb] at hb
        exact S.dis a b s u l' ha hb sa ub
  · by_cases e : i = j
    · subst e
      rw [List.getElem?_set_self (by have q := (List.getElem?_eq_some_iff.mp h).1; rwa [List.length_set] at q)] at h
      cases h
      exact fun z => og q hq (Option.some.inj z).symm
    · rw [List.getElem?_set_ne e] at h
      exact S.gdis q hq j s h
theorem Stt.fresh {K : PySem.W.Frag} {σ : L2.St} {G H : Hp} (S : Stt K B E σ G H) {p : Addr} (hp : H p = none) : G p = none ∧ B.H0 p = none ∧ ¬ B.M p ∧ (∀ (j : Nat) (s : Sl), E[j]? = some s → s.adr ≠ some p) ∧ ∀ q ∈ B.ow, q.1 ≠ p := by
  refine ⟨?_, ?_, fun m => ?_, fun j s h q => ?_, fun q hq e => ?_⟩
  · cases e : G p with
    | none => rfl
    | some u => rw [S.cln.sub p u e] at hp; cases hp
  · cases e : B.H0 p with
    | none => rfl
    | some u =>
      obtain ⟨o', h'⟩ := S.ext.live p u e
      rw [hp] at h'; cases h'
  · obtain ⟨ys, h'⟩ := S.bok.mem H p S.hi m
    rw [hp] at h'; cases h'
  · have w := S.sl j s h
    cases s with
    | un => cases q
    | dt d => cases q
    | own l ds => cases q; obtain ⟨_, _, _, _, ys, hl, _⟩ := w; rw [hp] at hl; cases hl
    | ownD l ds => cases q; obtain ⟨_, _, _, _, ys, hl, _⟩ := w; rw [hp] at hl; cases hl
  · obtain ⟨_, _, _, ys, hl, _⟩ := S.gho q hq
    rw [e, hp] at hl; cases hl
/-- a new list is kept while more is worked out -/
theorem Ext.kept1 {M : Addr → Prop} {H G H' G' : Hp} {p : Addr} {xs : List V} (x : Ext M (upd H p (.lst xs)) G H' G') (gp : G p = none) (mp : ¬ M p) : H' p = some (.lst xs) ∧ G' p = none := by
  refine ⟨x.keep p _ upd_same (fun ps e => by cases e) mp, ?_⟩
  cases e : G' p with
  | none => rfl
  | some o =>
    rcases x.new p o e with h | h
    · rw [gp] at h; cases h
    · rw [upd_same] at h; cases h
/-- x, y = [..], [..]: both own -/
theorem ds_parO {px py pt : Pos} {kt k2 : Nat} {pt2 : Pos} (i j : Nat) (h : DN X B E a fun d1 => DN X B E b fun d2 => ∀ l m, Ψ.nx ((E.set i (.own l d1)).set j (.own m d2))) (hN : X.N.Nodup) (hij : i ≠ j := by decide) (hc : X.calm = true := by rfl)
    (hi : X.N[i]? = some x := by rfl) (hj : X.N[j]? = some y := by rfl) (hx : X.env.scope.names.lookup x = some .local := by rfl) (hy : X.env.scope.names.lookup y = some .local := by rfl)
    (hw : swappedStores [.Tuple [.Name x px, .Name y py] kt pt] (.Tuple [a, b] k2 pt2) X.env = pure (some [x, y]) := by rfl)
    (hs : swapsWithSole [.Tuple [.Name x px, .Name y py] kt pt] (.Tuple [a, b] k2 pt2) pos.line X.env = pure false := by rfl) (ha : starEach [a, b] X.env = (false, eval a X.env) :: starEach [b] X.env := by rfl) (hb : starEach [b] X.env = (false, eval b X.env) :: starEach [] X.env := by rfl) :
    DS X B E (.Assign [.Tuple [.Name x px, .Name y py] kt pt] (.Tuple [a, b] k2 pt2) pos) Ψ := fun σ G H D S k =>
  fS (L2.ps_par hc hN hi hj hij hx hy (pa_cons qE (pa_cons qE pa_nil hb) ha) hw hs) (h σ G H _ S fun p xs d1 G1 H1 S1 x1 hp r1 z1 f1 => by
    obtain ⟨gp, h0, mp, old, og⟩ := S1.fresh hp
    have S1' := S1.grow (Grow.dirt (G := G1) (o := .lst xs) S1.cln hp)
    refine f1 σ G1 _ _ S1' fun q ys d2 G2 H2 S2 x2 hq r2 z2 f2 => ?_
    obtain ⟨hp2, gp2⟩ := x2.kept1 gp mp
    have npq : p ≠ q := fun e => by rw [e, hq] at hp2; cases hp2
    refine ⟨.ref p, .ref q, rfl, ?_⟩
    have Sp := S2.takeOwn i hp2 gp2 h0 mp old og (r1.le x2.gg) z1
    exact k.nx _ _ G2 _ (Sp.setOwn j hq r2 z2) (f2 p q))
/-- x + e, x an own list -/
theorem dn_catO {Θ : List Dt → Prop} (i : Nat) {l : Addr} {ds : List Dt} (hE : E[i]? = some (.own l ds)) (h : DW X B E b fun d => ∃ m, d = .lst m ∧ ds.length + m.length ≤ sizeLine ∧ Θ (ds ++ m)) (hN : X.N[i]? = some x := by rfl)
    (hv : Vis X.env.scope x := by first | exact Or.inl rfl | exact Or.inr (Or.inl rfl) | exact Or.inr (Or.inr rfl)) (hd : (x == ("__debug__" : Str)) = false := by decide) (hcd : (x == ("__classdict__" : Str)) = false := by decide) :
    DN X B E (.BinOp (.Name x p1) .Add b pos) Θ := fun σ G H Q S q =>
  fE (pe_op op_cat (pe_var (i := i) hN hv hd hcd) qE) (by
    obtain ⟨hv, _⟩ := S.sl i _ hE
    refine ⟨_, hv, ?_⟩
    refine h σ G H _ S ?_
    intro v d G1 H1 S1 g1 r1 f1
    obtain ⟨m, rfl, z, f⟩ := f1
    obtain ⟨_, gl, _, _, xs, hl, r, _⟩ := S1.sl i _ hE
    cases r1 with
    | lst h1 z1 r1 =>
      refine ⟨_, _, xs, _, rfl, rfl, hl, S1.cln.sub _ _ h1, by rw [r.len, r1.len]; exact z, fun p hp => ?_⟩
      exact q p _ _ G1 H1 S1 g1 hp (r.app r1) (by rw [List.length_append]; exact z) f)
end
end N
set_option Elab.async false
set_option linter.all false
set_option maxRecDepth 100000
set_option maxHeartbeats 2000000
/-! DX: defs that raise InvalidPaper; try .. except InvalidPaper as error. -/
namespace N
open PySem
open PySem.Spec
open PyProof.Rows
open L2
/-- InvalidPaper(e): what is known of its making -/
def IPok (P : Program) (w : World) (K : PySem.W.Frag) (mg : Str → Option Value) (base : Heap) (C : Addr) (k : Nat) : Prop := ∀ (X : Cx) (e : Expr) (p pos : Pos), X.prog = P → X.w = w → X.K = K → X.mg = mg → X.base = base → Room k X.A → Gl X "InvalidPaper" →
  starEach [e] X.env = (false, eval e X.env) :: starEach [] X.env → (backTo pos (starEach [] X.env)).any (·.1) = false →
  PMk X (.Call (.Name "InvalidPaper" p) [e] [] pos) (fun σ H Q => semE X e σ H fun v H1 => ∀ d H2, H1 d = none → H2 d = some (.xd [("at", v)]) → (∀ b, b ≠ d → H2 b = H1 b) → Q (.ref C) (some d) H2)
/-- what such a def promises: Φ of its answer, Ξ of the exception's at -/
abbrev FX := List Dt → (Dt → Prop) → (Dt → Prop) → Prop
def spX (K : PySem.W.Frag) (C : Addr) (T : List (Addr × Str)) (f : FX) : Sp := fun vs H Q E => ∃ G ds Φ Ξ, Cln G H ∧ LamX.Tabs T H ∧ RpA K G vs ds ∧ f ds Φ Ξ ∧
  (∀ v d G' H', Ext noM H G H' G' → Cln G' H' → LamX.Tabs T H' → Rp K G' v d → Φ d → Q v H') ∧
  (∀ v d xd G' H', Ext noM H G H' G' → Cln G' H' → LamX.Tabs T H' → H' xd = some (.xd [("at", v)]) → Rp K G' v d → Ξ d → E (.ref C) (some xd) H')
section
variable {P : Program} {w : World} {K : PySem.W.Frag} {mg : Str → Option Value} {base : Heap} {T : List (Addr × Str)} {C : Addr}
theorem fn_okDX {x qual : Str} {params : Arguments} {body : List Stmt} {scope : Scope} {g : Addr} {fd : FuncData} {N ps : List Str} {k : Nat} {f : FX} (IP : IPok P w K mg base C k) (F : FunD K x qual params body scope [] [] g fd) (S : FnScope N ps scope) (len : ∀ ds Φ Ξ, f ds Φ Ξ → ds.length = ps.length)
    (hle : ps.length ≤ N.length) (hb : ∀ (cdv : Value) (A : Around) (outer : List Env) (s : Shared) (H : Hp) (E : XK) (B : Bd) (ds : List Dt) (Φ Ξ : Dt → Prop), B.M = noM → B.HI = noHI → B.T = T → fd.code = cdv → Room k (A.deeper (envOfC qual scope s.heap.objs.size g cdv)) → f ds Φ Ξ →
      (∀ (E' : Ev) (e : Expr) (Ψ : Ed) (p pos pos2 : Pos), Gl (cxOf (L2.CX P w) P w K mg base N qual scope g cdv A outer s H E) "InvalidPaper" → starEach [e] (envOfC qual scope s.heap.objs.size g cdv) = (false, eval e (envOfC qual scope s.heap.objs.size g cdv)) :: starEach [] (envOfC qual scope s.heap.objs.size g cdv) → (backTo pos (starEach [] (envOfC qual scope s.heap.objs.size g cdv))).any (·.1) = false →
        DW (cxOf (L2.CX P w) P w K mg base N qual scope g cdv A outer s H E) B E' e Ξ → DS (cxOf (L2.CX P w) P w K mg base N qual scope g cdv A outer s H E) B E' (.Raise (some (.Call (.Name "InvalidPaper" p) [e] [] pos)) none pos2) Ψ) →
      DL (cxOf (L2.CX P w) P w K mg base N qual scope g cdv A outer s H E) B (st0 N ds) body { nx := fun _ => Φ .non, rt := Φ }) : FnOk P w K mg base (L2.CX P w) (k + 1) g fd ps (spX K C T f) := by
  obtain ⟨oc, od, dV, kV, doc, pm, an, cdv, ct, osl, hfd, lk, hcd, _, _⟩ := F.ex
  have hcode : fd.code = cdv := by rw [hfd]
  subst hfd
  refine fn_of lk hcd S (fun vs H Q E h => ?_) (fun A outer s H vs Q E hr h => ?_)
  · obtain ⟨G, ds, Φ, Ξ, _, _, r, hf, _⟩ := h
    rw [r.len]
    exact len ds Φ Ξ hf
  · obtain ⟨G, ds, Φ, Ξ, cl, tb, r, hf, q, qx⟩ := h
    have hl : ds.length = ps.length := len ds Φ Ξ hf
    refine ⟨semL (cxOf (L2.CX P w) P w K mg base N qual scope g cdv A outer s H E) body, qL, ?_⟩
    refine hb cdv A outer s H E ⟨noM, noHI, T, G, H, G, []⟩ ds Φ Ξ rfl rfl rfl hcode hr hf ?_ (L2.start N vs) G H _ (stt_start N bdOk0 cl (fun _ h => h.elim) tb trivial r) ?_
    · intro E' e Ψ p pos pos2 hg hst hp h σ G1 H1 D S1 kk
      have tk : Takes (cxOf (L2.CX P w) P w K mg base N qual scope g cdv A outer s H E) (fun cls d _ H => E cls d H) := takes_of rfl rfl rfl rfl
      refine fS (ps_raise rfl tk (IP _ e p pos rfl rfl rfl rfl rfl hr hg hst hp)) ?_
      refine h σ G1 H1 _ S1 ?_
      intro v d G2 H2 S2 x2 r2 f2 xd H3 hn hx ho
      have gn : G2 xd = none := by
        cases z : G2 xd with
        | none => rfl
        | some u => rw [S2.cln.sub xd u z] at hn; cases hn
      have h0n : ∀ b u, H2 b = some u → b ≠ xd := fun b u e z => by rw [z, hn] at e; cases e
      have x3 : Ext noM H2 G2 H3 G2 := ⟨fun _ _ h => h, fun b o e _ _ => by rw [ho b (h0n b o e)]; exact e, fun b o e => ⟨o, by rw [ho b (h0n b o e)]; exact e⟩, fun _ _ h => .inl h⟩
      refine qx v d xd G2 H3 (S2.ext.tr x3) ⟨fun b o e => ?_, S2.cln.ntb⟩ ?_ hx r2 f2
      · have e2 := S2.cln.sub b o e
        rw [ho b (h0n b o e2)]; exact e2
      · exact S2.tab.ext fun b o e => by rw [ho b (h0n b o e)]; exact e
    · exact ⟨fun E σ G' H' S' f => q .non .non G' H' S'.ext S'.cln S'.tab .non f, fun v d G' H' F r f => q v d G' H' F.ext F.cln F.tab r f, fun _ _ _ _ _ f => f.elim, fun _ _ _ _ _ f => f.elim⟩
/-- .. where nothing is raised -/
theorem fnok_drop {k : Nat} {g : Addr} {fd : FuncData} {ps : List Str} {f : FX} (F : FnOk P w K mg base (L2.CX P w) k g fd ps (spX K C T f)) : FnOk P w K mg base CX0 k g fd ps (spP K T fun ds Φ => f ds Φ fun _ => False) := by
  have imp : ∀ vs H Q E, spP K T (fun ds Φ => f ds Φ fun _ => False) vs H Q E → spX K C T f vs H Q (fun _ _ _ => False) := fun vs H Q E h => by
    obtain ⟨G, ds, Φ, cl, gm, tb, hi, r, hf, q⟩ := h
    exact ⟨G, ds, Φ, _, cl, tb, r, hf, fun v d G' H' x c t r f => q v d G' H' x c t trivial r f, fun v d xd G' H' x c t hx r f => f⟩
  refine ⟨fun vs H Q E h => F.len vs H Q _ (imp vs H Q E h), fun A outer s H args us vs Q E hr e0 hb r h => ?_⟩
  refine codeAny_mono (F.run A outer s H args us vs Q _ hr e0 hb r (imp vs H Q E h)) fun r s' hq => ?_
  cases r with
  | error e =>
    obtain ⟨_, _, _, _, _, _, _, _, _, _, _, _, z⟩ := hq
    exact z.elim
  | ok fl => cases fl <;> exact hq
end
end N
set_option Elab.async false
set_option linter.all false
set_option maxRecDepth 100000
set_option maxHeartbeats 2000000
/-! DY: try: found = g(..) except InvalidPaper as error: return (.., error.at). -/
namespace N
open PySem
open PySem.Spec
open PyProof.Rows
open L2
theorem szl' {n : Nat} (h : Nat.ble n sizeLine = true := by rfl) : n ≤ sizeLine := Nat.le_of_ble_eq_true h
theorem pe_callX {X : Cx} {W : WX} {k : Nat} {g : Addr} {fd : FuncData} {ps : List Str} {sp : Sp} {x : Str} {e : Expr} {es : List Expr} {p pos : Pos} {t : TA} (tk : Takes X W) (F : FnOk X.prog X.w X.K X.mg X.base (L2.CX X.prog X.w) k g fd ps sp) (hr : Room k X.A) (hg : Gl X x) (hm : X.mg x = some (.ref g)) (hk : PySem.W.keepIn X.K (.ref g) = true) (hb : Binds X.K fd ps [])
    (ha : PA X (e :: es) t) (hdb : (x == ("__debug__" : Str)) = false := by decide) (he : starEach (e :: es) X.env = (false, eval e X.env) :: starEach es X.env := by rfl) (hpl : (backTo pos (starEach es X.env)).any (·.1) = false := by rfl) :
    PE X (.Call (.Name x p) (e :: es) [] pos) (fun σ H Q => t σ H fun vs H1 => ∃ E : XK, sp vs H1 Q E ∧ ∀ cls d H2, E cls d H2 → W cls d σ H2) := by
  refine ⟨fun pins s σ H Q I h => ?_⟩
  refine wpAny_Call_Name_kw (ld_glob I hg hm ?_ hdb)
  refine PySem.W.callWith_K (h₀ := X.base) I.ok.mod.kin hk (thn (ha.run pos pins s σ H _ I h) fun us s1 ⟨vs, H1, I1, r, E, q, hW⟩ => ⟨I1.kIn, ?_⟩) he hpl
  have hl : (us ++ ([] : List Value)).length = ps.length := by rw [List.append_nil, ← r.length]; exact F.len _ _ _ _ q
  refine wpAny_call (codeAny_mono (F.run X.A X.stack s1 H1 ⟨us, []⟩ (us ++ []) vs Q E hr I1.env0 (hb s1 us I1.kIn hl) (by rw [List.append_nil]; exact r) q) fun rr s' hq => ?_)
  cases rr with
  | error e => exact tk e s' (XE.of_call I1 (fun cls d H' h => hW cls d H' h) hq)
  | ok fl =>
    cases fl with
    | ret u => exact I1.after hq
    | next => exact False.elim hq
    | brk => exact False.elim hq
    | cont => exact False.elim hq
section
variable {X : Cx} {B : Bd} {E : Ev} {Ψ : Ed} {e : Expr} {es : List Expr} {x y er fn : Str} {p pos p1 p2 p3 p4 p5 p6 p7 p8 p9 p10 : Pos} {C g : Addr} {fd : FuncData} {ps : List Str} {k j0 j1 : Nat} {f : FX} {wd : Str}
theorem ds_try (F : FnOk X.prog X.w X.K X.mg X.base (L2.CX X.prog X.w) k g fd ps (spX X.K C B.T f)) (hr : Room k X.A) (hm : X.mg fn = some (.ref g)) (hk : PySem.W.keepIn X.K (.ref g) = true) (hb : Binds X.K fd ps []) (hM : B.M = noM) (hHI : B.HI = noHI) (T : XfC X.K C) (hno : PySem.W.findIn X.K (.ref C) "at" = some none)
    (hmC : X.mg "InvalidPaper" = some (.ref C)) (hex : PySem.W.exmOne X.K (.ref C) (.ref C) = some true) (i j : Nat) (hN : X.N.Nodup) (hun : ∃ s, E[j]? = some s)
    (h : ∀ pn xe, DA (X.tr pn xe) B E (e :: es) fun ds => f ds (fun d => Ψ.nx (E.set i (.dt d))) (fun d => Ψ.rt (.tup [.str wd, d])))
    (hi : X.N[i]? = some y := by rfl) (hj : X.N[j]? = some er := by rfl) (hxe : X.xe = fun _ _ => False := by rfl) (hs : X.stack = X.env :: X.outer := by rfl) (hf : X.env.frame = some X.env.locals := by rfl) (hln : X.env.kindOf er = some .local := by rfl) (hv : Vis X.env.scope er := by exact Or.inl rfl) (hg : Gl X fn := by rfl) (hgC : Gl X "InvalidPaper" := by rfl)
    (hx : Loc X.env.scope y := by exact Or.inl rfl) (hdb : (fn == ("__debug__" : Str)) = false := by decide) (hde : (er == ("__debug__" : Str)) = false := by decide) (hce : (er == ("__classdict__" : Str)) = false := by decide) (he : starEach (e :: es) X.env = (false, eval e X.env) :: starEach es X.env := by rfl) (hpl : (backTo pos (starEach es X.env)).any (·.1) = false := by rfl)
    (hsw : swapsWith (.Call (.Name fn p) (e :: es) [] pos) (some (.Name y p1)) p2.line X.env = pure false := by rfl) (hff : X.env.scope.names.lookup y = some .local := by rfl) (hab : attributeBase (.Name er p3) "at" X.env (eval (.Name er p3) X.env) = eval (.Name er p3) X.env := by rfl)
    (hst : starEach [.Constant (.str wd) j0 p4, .Attribute (.Name er p3) "at" p5] X.env = (false, eval (.Constant (.str wd) j0 p4) X.env) :: starEach [.Attribute (.Name er p3) "at" p5] X.env := by rfl) (hst2 : starEach [.Attribute (.Name er p3) "at" p5] X.env = (false, eval (.Attribute (.Name er p3) "at" p5) X.env) :: starEach [] X.env := by rfl) :
    DS X B E (.Try [.Assign [.Name y p1] (.Call (.Name fn p) (e :: es) [] pos) p2] [.ExceptHandler (some (.Name "InvalidPaper" p6)) (some er) [.Return (some (.Tuple [.Constant (.str wd) j0 p4, .Attribute (.Name er p3) "at" p5] j1 p7)) p8] p9] [] [] p10) Ψ := fun σ G H D S kk => by
  have hjl : j < σ.length := by
    obtain ⟨s0, hs0⟩ := hun
    rw [S.len]; exact (List.getElem?_eq_some_iff.mp hs0).1
  refine fS (ps_try_as (X := X) (i := j) (n := er) (c := .ref C) (suite := []) (Wout := fun _ _ _ _ => False) hs hf hN hj hln ⟨hgC, by decide, .inl hmC⟩ LamX.takes0
    (tb := fun W D σ H => ∀ pn xe, semA (X.tr pn xe) (e :: es) σ H fun vs H1 => ∃ EX : XK, spX X.K C B.T f vs H1 (fun v H2 => D.nx (σ.set i (some v)) H2) EX ∧ ∀ cls d H2, EX cls d H2 → W cls d σ H2)
    (fun W pn xe tk hpo => ?hb) (fun a oe cls d pn hz hfv => pss_one (ps_ret (pe_tup (pa_cons pe_str (pa_cons (pe_xf T hno hz hfv (pe_var (X := X.suite a ((a, oe) :: pn)) (i := j) hj hv hde hce) hab) pa_nil hst2) hst))))) ?main
  case hb =>
    have pa : PA (X.tr pn xe) (e :: es) (fun σ H Q => ∀ pn xe, semA (X.tr pn xe) (e :: es) σ H Q) := ⟨fun pos pins s σ H Q I hh => (hh pn xe).run pos pins s I⟩
    exact pss_one (ps_set (X := X.tr pn xe) hN hi hx (pe_callX (X := X.tr pn xe) tk F hr hg hm hk hb pa hdb he hpl) hsw (.inr hff))
  case main =>
    intro pn xe
    refine h pn xe σ G H _ S ?_
    intro vs ds G1 H1 S1 x1 r1 f1
    have S1 : Stt X.K B E σ G1 H1 := S1
    refine ⟨fun cls d H2 => cls = .ref C ∧ ∃ xd v dd G2, d = some xd ∧ Ext noM H1 G1 H2 G2 ∧ Cln G2 H2 ∧ LamX.Tabs B.T H2 ∧ H2 xd = some (.xd [("at", v)]) ∧ Rp X.K G2 v dd ∧ Ψ.rt (.tup [.str wd, dd]), ⟨G1, ds, _, _, S1.cln, S1.tab, r1, f1, fun v d G' H' x c t r f => ?_, fun v d xd G' H' x c t hx r f => ⟨rfl, xd, v, d, G', rfl, x, c, t, hx, r, f⟩⟩, ?_⟩
    · have S2 := S1.step (Ext.wk x : Ext B.M H1 G1 H' G') c t (by rw [hHI]; trivial)
      exact kk.nx _ _ G' H' (S2.set i r) f
    · rintro cls d H2 ⟨rfl, xd, v, dd, G2, rfl, x2, c2, t2, hx2, r2, f2⟩
      refine ⟨true, hex, fun _ a ha => ?_, fun z => nomatch z⟩
      refine ⟨_, List.getElem?_set_self hjl, rfl, rfl, xd, _, v, rfl, hx2, rfl, szl', fun p hp => ?_⟩
      have g := Grow.one (G := G2) (o := .tup [.str wd, v]) c2 hp (fun ps e => by cases e)
      refine kk.rt _ _ (upd G2 p (.tup [.str wd, v])) _ ⟨(S1.ext.tr (Ext.wk x2)).tr g.ext, g.cln, t2.ext g.hh, by rw [hHI]; trivial⟩ (.tup upd_same szl' (.cons (.str wd) (.cons (r2.le g.gg) .nil))) f2
end
end N
set_option Elab.async false
set_option linter.all false
set_option maxRecDepth 100000
set_option maxHeartbeats 1000000
namespace N
open PySem
open PySem.Spec
open PyProof.Rows
open L2
open NdefX (NF NScope)
/-! Q6: the walk through lots. -/
inductive LotOk (st : List (Int × Itm)) : Lot → Prop
  | items {r : Reg} {s : Smy} {ks : List Int} : RgOk r → (∀ i ∈ ks, ∃ d, look st i = some d) → ks.length ≤ 100 → LotOk st (.items r s ks)
  | lots {r : Reg} {s : Smy} {ls : List Lot} : RgOk r → (∀ l ∈ ls, LotOk st l) → LotOk st (.lots r s ls)
theorem LotOk.reg {st : List (Int × Itm)} {l : Lot} (h : LotOk st l) : RgOk l.reg := by cases h <;> assumption
theorem LotOk.kids {st : List (Int × Itm)} {l : Lot} (h : LotOk st l) : ∀ m ∈ l.kids, LotOk st m := by
  cases h with
  | items _ _ _ => exact fun m hm => by cases hm
  | lots _ hk => exact hk
theorem LotOk.keys {st : List (Int × Itm)} {l : Lot} (h : LotOk st l) : ∀ i ∈ l.keys, ∃ d, look st i = some d := by
  cases h with
  | items _ hk _ => exact hk
  | lots _ _ => exact fun m hm => by cases hm
theorem LotOk.klen {st : List (Int × Itm)} {l : Lot} (h : LotOk st l) : l.keys.length ≤ 100 := by
  cases h with
  | items _ _ hk => exact hk
  | lots _ _ => exact Nat.zero_le _
mutual
def Lot.cnt : Lot → Nat
  | .items _ _ _ => 1
  | .lots _ _ ls => cntL ls + 1
def cntL : List Lot → Nat
  | [] => 0
  | l :: ls => l.cnt + cntL ls
end
theorem cnt_kids (l : Lot) : l.cnt = cntL l.kids + 1 := by
  cases l <;> (rw [Lot.cnt]; rfl)
theorem cntL_app : ∀ a b : List Lot, cntL (a ++ b) = cntL a + cntL b
  | [], b => by rw [List.nil_append, cntL, Nat.zero_add]
  | l :: a, b => by rw [List.cons_append, cntL, cntL, cntL_app a b, Nat.add_assoc]
theorem cntL_len : ∀ a : List Lot, a.length ≤ cntL a
  | [] => Nat.zero_le _
  | l :: a => by
    have h := cntL_len a
    have h2 := cnt_kids l
    rw [cntL, List.length_cons]
    omega
def isOpen : Dt → Bool
  | .str x => decide (x = "open")
  | _ => false
/-- the walk: J tells of a step, top of the stack first -/
def walk (J : Dt → Lot → Bool) : Nat → List Dt → List Lot → List Lot → List Lot × Option Int
  | at_, [], st, op => (op, if st.isEmpty then none else some at_)
  | at_, _ :: _, [], op => (op, some at_)
  | at_, w :: ws, l :: r, op => if J w l then (if isOpen w then walk J (at_ + 1) ws (l.kids ++ r) (op ++ [l]) else walk J (at_ + 1) ws r op) else (op, some at_)
theorem walk_cons (J : Dt → Lot → Bool) (i : Nat) (w : Dt) (ws : List Dt) (l : Lot) (r op : List Lot) : walk J i (w :: ws) (l :: r) op = if J w l then (if isOpen w then walk J (i + 1) ws (l.kids ++ r) (op ++ [l]) else walk J (i + 1) ws r op) else (op, some ((i : Nat) : Int)) := rfl
def LBj (k : Kd) (v : List Int) (s : Sie) (reach : Option Int) : FT := fun ds Φ => ∃ (d : Dt) (l : Lot), ds = [d, lotD l] ∧ (tyN d).isSome = true ∧ RgOk l.reg ∧ Φ (.bl (isStepD d k v s reach l))
theorem atI_last {α : Type} (xs : List α) (a : α) : atI (xs ++ [a]) (-1) = some a := by
  unfold atI ixN
  rw [if_neg (by decide), if_pos (by rw [List.length_append]; simp only [List.length_cons, List.length_nil]; omega)]
  have e : (-1 + ((xs ++ [a]).length : Int)).toNat = xs.length := by rw [List.length_append]; simp only [List.length_cons, List.length_nil]; omega
  show (xs ++ [a])[(-1 + ((xs ++ [a]).length : Int)).toNat]? = some a
  rw [e]
  simp
section
variable {P : Program} {w : World} {K : PySem.W.Frag} {mg : Str → Option Value} {base : Heap} {T : List (Addr × Str)}
def wres (r : List Lot × Option Int) : Dt := .tup [.lst (r.1.map lotD), optD r.2]
theorem walk_body {k0 kk : Nat} {cds : List Dt} {N' ps fr : List Str} {lb : Expr} {F : NF} {f g : Addr} {cdv : Value} {A : Around} {outer : List Env} {s : Shared} {H : Hp} {B : Bd} {Ψ : Ed} (bi : BI mg) (C_lots_in : Cal P w K mg base 1 "lots_in" p_lots_in (spP K B.T f_lots_in)) (ci : Cls K (He.ga K "Index")) (cn : NoAttr K (He.ga K "Index") "lot")
    (k k1 : Kd) (v : List Int) (sv : Sie) (reach : Option Int) (st : List (Int × Itm)) (form : Str) (lot : Lot) (room : Int) (steps : List Dt) (hlot : LotOk st lot) (hc : lot.cnt ≤ 1000) (hsl : steps.length ≤ 1000) (hst : ∀ d ∈ steps, (tyN d).isSome = true)
    (hr : Room kk (A.deeper (envOfC "walk_of" (defScope s_walk_of) s.heap.objs.size g cdv))) (hk : k0 + 1 ≤ kk) (hkk : 1 ≤ kk) (L : LamOk (cxOf CX0 P w K mg base n_walk_of "walk_of" (defScope s_walk_of) g cdv A outer s H E0).nox B F f lb N' ps fr cds k0 (LBj k v sv reach))
    (hf : Ψ.rt (wres (walk (fun d l => isStepD d k v sv reach l) 0 steps [lot] []))) :
    DL (cxOf CX0 P w K mg base n_walk_of "walk_of" (defScope s_walk_of) g cdv A outer s H E0).nox B (st0 n_walk_of [ixD k1 form lot room, .tup steps, .raw (.ref f)]) (defBody s_walk_of) Ψ := by
  have hu : (A.deeper (envOfC "walk_of" (defScope s_walk_of) s.heap.objs.size g cdv)).units < cLine := hr.units0
  have sz : ∀ n : Nat, n ≤ 2000 → n ≤ sizeLine := fun n h => Nat.le_trans h szl
  refine dl_cons (ds_parO (ixS n_walk_of "todo") (ixS n_walk_of "opened") (dn_lst (da_cons (dw_fld (ds := []) ci cn (dw_v rfl ⟨_, lotD lot, rfl, rfl, da_nil ⟨szl, dn_lst (da_nil ⟨szl, fun l m => ?_⟩)⟩⟩))) ) sc_walk_of.nd)
  refine dl_cons (ds_for PassesOwn.never (fun _ _ => dg_tup (n := 2) rfl (dgs_cons (dg_v sc_walk_of.nd) (dgs_cons (dg_v sc_walk_of.nd) (dgs_nil)))) (di_enum bi.enumerate (da_cons (dw_v rfl (da_nil ⟨_, rfl, fun i E' => ∃ (st' op : List Lot) (s5 s6 s7 : Sl), E' = [.dt (ixD k1 form lot room), .dt (.tup steps), .dt (.raw (.ref f)), .own l (st'.reverse.map lotD), .own m (op.map lotD), s5, s6, s7] ∧ (∀ l ∈ st', LotOk st l) ∧ cntL st' + op.length ≤ 1000 ∧ walk (fun d l => isStepD d k v sv reach l) i (steps.drop i) st' op = walk (fun d l => isStepD d k v sv reach l) 0 steps [lot] [], ?j0, ?jt, ?je⟩)))))
  case j0 =>
    refine ⟨[lot], [], .un, .un, .un, rfl, fun l h => ?_, ?_, rfl⟩
    · rw [List.mem_singleton.mp h]; exact hlot
    · rw [cntL, cntL]; exact hc
  case jt =>
    intro gl i d E' hd hJ
    obtain ⟨x, hx, rfl⟩ := enumD_get hd
    obtain ⟨st', op, s5, s6, s7, rfl, hso, hcn, hw⟩ := hJ
    have hil : i < steps.length := (List.getElem?_eq_some_iff.mp hx).1
    rw [drop_get hx] at hw
    cases st' with
    | nil =>
      refine ⟨rfl, rfl, dl_cons (ds_if (dt_w (dtw_or (dt_ownNil 3 hu rfl (ifB_t (ifB_t ?_)))))) ⟩
      refine dl_freeze 4 rfl (dl_cons (ds_ret (dw_tup (da_cons (dw_v rfl (da_cons (dw_v rfl (da_nil ⟨szl, ?_⟩))))))))
      rw [← hw] at hf
      exact hf
    | cons a r =>
      have hE3 : (a :: r).reverse.map lotD = r.reverse.map lotD ++ [lotD a] := by rw [List.reverse_cons, List.map_append]; rfl
      have hne : ((a :: r).reverse.map lotD).isEmpty = false := by rw [hE3]; simp
      have ha := hso a List.mem_cons_self
      have hxt := hst x (List.mem_of_getElem? hx)
      have hca := cnt_kids a
      rw [cntL] at hcn
      have hrl := cntL_len r
      have hkl := cntL_len a.kids
      refine ⟨rfl, rfl, dl_cons (ds_if (dt_w (dtw_or (dt_ownNil 3 hu rfl ?_)))) ⟩
      rw [hne, hE3]
      refine ifB_f (dtw_or1 (dt_not (dt_val (dw_lam (L.own _ _) 2 rfl hr hk (da_cons (dw_v rfl (da_cons (dw_ownIx 3 rfl (dw_neg (dw_int ⟨_, rfl, _, lotD a, rfl, atI_last _ _, da_nil ⟨x, a, rfl, hxt, ha.reg, _, rfl, ?_⟩⟩))))))))))
      rw [walk_cons] at hw
      cases hj : isStepD x k v sv reach a with
      | false =>
        rw [hj, if_neg (by decide)] at hw
        refine ifB_t (dl_freeze 4 rfl (dl_cons (ds_ret (dw_tup (da_cons (dw_v rfl (da_cons (dw_v rfl (da_nil ⟨szl, ?_⟩)))))))))
        rw [← hw] at hf
        exact hf
      | true =>
        rw [hj, if_pos rfl] at hw
        obtain ⟨y, rfl⟩ : ∃ y, x = .str y := by
          cases x <;> first | exact ⟨_, rfl⟩ | cases hj
        refine ifB_f (dl_nil (dl_cons (ds_setPop 7 3 rfl ?_ sc_walk_of.nd)))
        refine dl_cons (ds_if (dt_eq (dw_v rfl (dw_str ⟨_, rfl, ifB_d (fun h => ?a) (fun h => dl_nil (dl_nil ?b))⟩))))
        case b =>
          rw [show isOpen (.str y) = false from decide_eq_false h, if_neg (by decide)] at hw
          exact ⟨r, op, _, _, _, rfl, fun l hl => hso l (List.mem_cons_of_mem _ hl), by omega, hw⟩
        case a =>
          rw [show isOpen (.str y) = true from decide_eq_true h, if_pos rfl] at hw
          refine dl_cons (ds_append 4 rfl (dw_v rfl ⟨?s1, ?_⟩))
          case s1 => rw [List.length_map]; exact Nat.lt_of_lt_of_le (Nat.lt_succ_self _) (sz _ (by omega))
          refine dl_cons (ds_extend 3 rfl (dw_revT (dw_calP C_lots_in hr (by omega) (da_cons (dw_v rfl (da_nil ⟨a, rfl, _, rfl, _, .inr rfl, ?s2, dl_nil (dl_nil ?_)⟩))))))
          case s2 => rw [List.length_map, List.length_reverse, List.length_reverse, List.length_map]; exact sz _ (by omega)
          refine ⟨a.kids ++ r, op ++ [a], .dt (.int (i : Nat)), .dt (.str y), .dt (lotD a), ?e, fun l hl => ?_, ?_, hw⟩
          case e =>
            have e1 : (a.kids ++ r).reverse.map lotD = r.reverse.map lotD ++ (a.kids.map lotD).reverse := by rw [List.reverse_append, List.map_append, List.map_reverse, List.map_reverse]
            have e2 : (op ++ [a]).map lotD = op.map lotD ++ [lotD a] := by rw [List.map_append]; rfl
            rw [e1, e2]
            rfl
          · rcases List.mem_append.mp hl with h | h
            · exact ha.kids l h
            · exact hso l (List.mem_cons_of_mem _ h)
          · rw [cntL_app, List.length_append, List.length_singleton]
            omega
  case je =>
    rintro E' ⟨st', op, s5, s6, s7, rfl, hso, hcn, hw⟩
    rw [enumD_len, List.drop_length] at hw
    rw [← hw] at hf
    refine dl_freeze 4 rfl (dl_cons (ds_ret (dw_tup (da_cons (dw_v rfl (da_cons (dw_if (dt_ownNil 3 hu rfl ?_)) ))))))
    cases st' with
    | nil => exact ifB_t (dw_non (da_nil ⟨szl, hf⟩))
    | cons a r =>
      have hne : ((a :: r).reverse.map lotD).isEmpty = false := by simp
      rw [hne]
      exact ifB_f (dw_len bi.len (da_cons (dw_v rfl (da_nil (.inr (.inl ⟨_, rfl, da_nil ⟨szl, hf⟩⟩))))))
end
end N
set_option Elab.async false
set_option linter.all false
set_option maxRecDepth 100000
set_option maxHeartbeats 1000000
namespace N
open PySem
open PySem.Spec
open PyProof.Rows
open L2
open NdefX (NF NScope)
/-! Q7: looked. -/
theorem walk_ok {st : List (Int × Itm)} (J : Dt → Lot → Bool) : ∀ (ws : List Dt) (i : Nat) (s op : List Lot), (∀ l ∈ s, LotOk st l) → (∀ l ∈ op, LotOk st l) → (∀ l ∈ (walk J i ws s op).1, LotOk st l) ∧ (walk J i ws s op).1.length ≤ op.length + cntL s
  | [], i, s, op, hs, ho => by
    rw [walk]
    exact ⟨ho, Nat.le_add_right _ _⟩
  | w :: ws, i, [], op, hs, ho => by
    rw [walk]
    exact ⟨ho, Nat.le_add_right _ _⟩
  | w :: ws, i, l :: r, op, hs, ho => by
    rw [walk_cons]
    have hl := hs l List.mem_cons_self
    have hr : ∀ m ∈ r, LotOk st m := fun m hm => hs m (List.mem_cons_of_mem _ hm)
    have hc := cnt_kids l
    rw [cntL]
    split
    · split
      · obtain ⟨h1, h2⟩ := walk_ok J ws (i + 1) (l.kids ++ r) (op ++ [l]) (fun m hm => (List.mem_append.mp hm).elim (hl.kids m) (hr m)) (fun m hm => (List.mem_append.mp hm).elim (ho m) (fun h => by rw [List.mem_singleton.mp h]; exact hl))
        refine ⟨h1, Nat.le_trans h2 ?_⟩
        rw [cntL_app, List.length_append, List.length_singleton]
        omega
      · obtain ⟨h1, h2⟩ := walk_ok J ws (i + 1) r op hr ho
        exact ⟨h1, by omega⟩
    · exact ⟨ho, Nat.le_add_right _ _⟩
def lamQ : Str := (envOfC "looked" (defScope s_looked) 0 0 .none).qual ++ "<lambda>"
/-- what the head tells of looked's code -/
structure LookT (mg : Str → Option Value) (base : Heap) (T : List (Addr × Str)) (fd : FuncData) : Prop where
  ex : ∃ c P, fd.code = .ref c ∧ LamX.TabB base mg c P ∧ (P, lamQ) ∈ T ∧ ∀ p ∈ T, p.1 = P → p.2 = lamQ
def isTup : Dt → Bool
  | .tup _ => true
  | _ => false
def foundOf (st : List (Int × Itm)) (k : Kd) (v : List Int) (s : Sie) (op : List Lot) : List (Int × Int) := op.flatMap fun l => pairsOf st k v s l.keys
theorem pairsOf_len (st : List (Int × Itm)) (k : Kd) (v : List Int) (s : Sie) (ks : List Int) : (pairsOf st k v s ks).length ≤ ks.length := by
  unfold pairsOf
  rw [List.length_map]
  exact Nat.le_trans (List.length_filter_le _ _) (by rw [List.length_map]; exact Nat.le_refl _)
theorem found_len {st : List (Int × Itm)} (k : Kd) (v : List Int) (s : Sie) : ∀ op : List Lot, (∀ l ∈ op, LotOk st l) → (foundOf st k v s op).length ≤ 100 * op.length
  | [], _ => Nat.zero_le _
  | l :: op, h => by
    have h1 := found_len k v s op fun m hm => h m (List.mem_cons_of_mem _ hm)
    have h2 := pairsOf_len st k v s l.keys
    have h3 := (h l List.mem_cons_self).klen
    unfold foundOf at h1 ⊢
    rw [List.flatMap_cons, List.length_append, List.length_cons]
    omega
def f_looked (n : Nat) : FX := fun ds Φ Ξ => ∃ (k0 : Kd) (form : Str) (lot : Lot) (room : Int) (st : List (Int × Itm)) (k : Kd) (v : List Int) (sv : Sie) (reach : Option Int) (steps : Dt), ds = [ixD k0 form lot room, stD st, .str (kS k), vecD v, sieD sv, optD reach, steps] ∧
  LotOk st lot ∧ lot.cnt ≤ 1000 ∧ StOk st ∧ Sv' v ∧ sv.depth ≤ n ∧ (tyN steps).isSome = true ∧ (isTup steps = false → Ξ (.int (-1))) ∧ ∀ l, steps = .tup l → l.length ≤ 1000 ∧ (∀ d ∈ l, (tyN d).isSome = true) ∧
    match walk (fun d l => isStepD d k v sv reach l) 0 l [lot] [] with
    | (_, some i) => Ξ (.int i)
    | (op, none) => ∀ qs : List (Int × Int), qs.Perm (foundOf st k v sv op) → qs.Pairwise leP → Φ (.tup (prsD qs))
section
variable {P : Program} {w : World} {K : PySem.W.Frag} {mg : Str → Option Value} {base : Heap} {T : List (Addr × Str)} {g C : Addr} {fd : FuncData}
theorem ok_looked (bi : BI mg) (n : Nat) (IP : IPok P w K mg base C (n + 8)) (LT : LookT mg base T fd) (hw : Hd K mg "walk_of" s_walk_of p_walk_of) (C_lots_in : Cal P w K mg base 1 "lots_in" p_lots_in (spP K T f_lots_in)) (C_own_keys : Cal P w K mg base 1 "own_keys" p_own_keys (spP K T f_own_keys)) (ci : Cls K (He.ga K "Index")) (cn : NoAttr K (He.ga K "Index") "lot")
    (C_is_step : Cal P w K mg base (n + 6) "is_step" p_is_step (spP K T (f_is_step n))) (C_pairs_of : Cal P w K mg base (n + 4) "pairs_of" p_pairs_of (spP K T (f_pairs_of n))) (F : FnT K "looked" s_looked g fd) : FnOk P w K mg base (L2.CX P w) (n + 9) g fd p_looked (spX K C T (f_looked n)) := by
  refine fn_okDX (k := n + 8) IP F sc_looked (fun ds Φ Ξ h => ?_) (by decide) (fun cdv A outer s H XE B ds Φ Ξ hM hHI hT hcode hr hf rs => ?_)
  · obtain ⟨_, _, _, _, _, _, _, _, _, _, rfl, _⟩ := h; rfl
  obtain ⟨k0, form, lot, room, st, k, v, sv, reach, steps, rfl, hlot, hcnt, hst, hv, hn, hty, hno, hyes⟩ := hf
  obtain ⟨c, Pt, hc, TB, hmT, hu⟩ := LT.ex
  have hcd : cdv = .ref c := hcode.symm.trans hc
  subst hcd
  subst hT
  by_cases ht : isTup steps = true
  · obtain ⟨l, rfl⟩ : ∃ l, steps = .tup l := by cases steps <;> first | exact ⟨_, rfl⟩ | cases ht
    obtain ⟨hl, hty, hres⟩ := hyes l rfl
    have hwk := walk_ok (st := st) (fun d l => isStepD d k v sv reach l) l 0 [lot] [] (fun m hm => by rw [List.mem_singleton.mp hm]; exact hlot) (fun m hm => by cases hm)
    refine dl_cons (ds_if (dt_not (dt_val (dw_isi (BI.isinstance ‹_›) (da_cons (dw_v rfl (da_cons (dw_tTuple bi (da_nil ⟨_, _, _, _, rfl, rfl, rfl, true, rfl, ifB_f (dl_nil ?_)⟩)))))))))
    refine dl_cons (ds_asg (dg_tup (n := 2) rfl (dgs_cons (dg_v sc_looked.nd) (dgs_cons (dg_v sc_looked.nd) (dgs_nil)))) (dw_give (k := n + 6) (kk := n + 7) (Ng := n_walk_of) (psG := p_walk_of) (N' := ["word", "lot", "kind", "vector", "sieve", "reach"]) (ps := ["word", "lot"]) (fr := ["kind", "vector", "sieve", "reach"]) (js := [2, 3, 4, 5]) (cds := [.str (kS k), vecD v, sieD sv, optD reach]) (LB := LBj k v sv reach) hw.ex sc_walk_of rfl TB rfl hmT hu hM hHI hr (NdefX.nscope_by (by decide +kernel)) (show NdefX.ndefB (defScope s_looked) _ _ = true from by decide +kernel) rfl ?hb rfl rfl ?len ?body (dw_v rfl (dw_v rfl ?main))))
    case hb =>
      intro q cl pm cv ctv us hl
      obtain ⟨a, b, rfl⟩ : ∃ a b, us = [a, b] := by
        match us, hl with
        | [a, b], _ => exact ⟨a, b, rfl⟩
      rfl
    case len =>
      rintro ds Φ ⟨d, l, rfl, _⟩
      rfl
    case body =>
      rintro ⟨nm, ql, pr, bd, sc, cl, cc⟩ f A outer s H B2 ds Φ hsc h1 h2 h3 hr2 ⟨d, l, rfl, h4, h5, h6⟩
      have hsc : sc = _ := hsc
      subst hsc
      rw [← h3] at C_is_step
      exact dw_calP C_is_step hr2 (Nat.le_refl _) (da_cons (dw_v rfl (da_cons (dw_v rfl (da_cons (dw_v rfl (da_cons (dw_v rfl (da_cons (dw_v rfl (da_cons (dw_v rfl (da_nil ⟨d, k, v, sv, reach, l, rfl, h4, hn, h5, hv, h6⟩)))))))))))))
    case main =>
      intro f g' F' cdv' s' H1 B' h1 h2 h3 hr3 L
      have C_l' := C_lots_in
      rw [← h3] at C_l'
      refine walk_body (K := K) bi C_l' ci cn k k0 v sv reach st form lot room l hlot hcnt hl hty hr3 (Nat.le_refl _) (by omega) L ?_
      cases hwe : walk (fun d l => isStepD d k v sv reach l) 0 l [lot] [] with
      | mk op fl =>
        rw [hwe] at hres hwk
        cases fl with
        | some i =>
          refine ⟨rfl, rfl, dl_cons (ds_if (dt_notN (dw_v rfl (dw_non ⟨rfl, rfl, true, rfl, ifB_t (dl_cons (rs _ _ _ _ _ _ rfl rfl rfl (dw_v rfl hres)))⟩))))⟩
        | none =>
          refine ⟨rfl, rfl, dl_cons (ds_if (dt_notN (dw_v rfl (dw_non ⟨rfl, rfl, false, rfl, ifB_f (dl_nil ?_)⟩))))⟩
          refine dl_cons (ds_setN 9 (dn_lst (da_nil ⟨szl, fun m => ?_⟩)) sc_looked.nd)
          refine dl_cons (ds_for (PassesOwn.leaving) (fun _ _ => dg_v sc_looked.nd) (di_lst (dw_v rfl ⟨_, rfl, fun i E' => ∃ s10, E' = [.dt (ixD k0 form lot room), .dt (stD st), .dt (.str (kS k)), .dt (vecD v), .dt (sieD sv), .dt (optD reach), .dt (.tup l), .dt (.lst (op.map lotD)), .dt .non, .own m (prsD (foundOf st k v sv (op.take i))), s10], ⟨_, rfl⟩, ?jt, ?je⟩)))
          case jt =>
            intro gl i d E' hd hJ
            obtain ⟨x, hx, rfl⟩ := map_get hd
            obtain ⟨s10, rfl⟩ := hJ
            have hxo := hwk.1 x (List.mem_of_getElem? hx)
            have htk : op.take (i + 1) = op.take i ++ [x] := by rw [List.take_add_one, hx]; rfl
            have e : foundOf st k v sv (op.take (i + 1)) = foundOf st k v sv (op.take i) ++ pairsOf st k v sv x.keys := by
              rw [htk]; unfold foundOf; rw [List.flatMap_append]; simp
            have h1 := found_len k v sv (op.take i) fun m hm => hwk.1 m (List.mem_of_mem_take hm)
            have h2 := pairsOf_len st k v sv x.keys
            have h3 := hxo.klen
            have h4 : op.length ≤ 1000 := Nat.le_trans hwk.2 (by rw [cntL, cntL]; simp only [List.length_nil]; omega)
            have h5 : (op.take i).length ≤ 1000 := by rw [List.length_take]; omega
            refine dl_cons (ds_extend 9 rfl (dw_calP C_pairs_of ‹Room _ _› (by omega) (da_cons (dw_v rfl (da_cons (dw_v rfl (da_cons (dw_v rfl (da_cons (dw_v rfl (da_cons (dw_calP C_own_keys ‹Room _ _› (by omega) (da_cons (dw_v rfl (da_nil ⟨x, rfl, da_nil ⟨st, k, v, sv, x.keys, rfl, hn, hst, hxo.keys, hv, _, .inl rfl, ?sz, dl_nil ?nx⟩⟩)))))))))))))))
            case sz =>
              rw [List.length_map, List.length_map]
              exact Nat.le_trans (show _ ≤ 200000 by omega) szl
            case nx =>
              refine ⟨.dt (lotD x), ?_⟩
              rw [e, show prsD (foundOf st k v sv (op.take i) ++ pairsOf st k v sv x.keys) = prsD (foundOf st k v sv (op.take i)) ++ prsD (pairsOf st k v sv x.keys) from List.map_append]
              rfl
          case je =>
            rintro E' ⟨s10, rfl⟩
            rw [List.length_map, List.take_length]
            exact dl_freeze 9 rfl (dl_cons (ds_ret (dw_tuple bi.tuple (da_cons (dw_n (dn_sortP bi.sorted (da_cons (dw_v rfl (da_nil ⟨_, rfl, fun qs hp hs => da_nil (.inl ⟨_, rfl, hres qs hp hs⟩)⟩)))))))))
  · have ht : isTup steps = false := by cases e : isTup steps <;> first | rfl | exact (ht e).elim
    have hx := hno ht
    cases steps <;> first | (cases hty; done) | (cases ht; done) | skip
    all_goals
      refine dl_cons (ds_if (dt_not (dt_val (dw_isi (BI.isinstance ‹_›) (da_cons (dw_v rfl (da_cons (dw_tTuple bi (da_nil ⟨_, _, _, _, rfl, rfl, rfl, false, rfl, ifB_t ?_⟩)))))))))
      exact dl_cons (rs _ _ _ _ _ _ rfl rfl rfl (dw_neg (dw_int ⟨_, rfl, hx⟩)))
end
end N
set_option Elab.async false
set_option linter.all false
set_option maxRecDepth 100000
set_option maxHeartbeats 1000000
namespace N
open PySem
open PySem.Spec
open PyProof.Rows
open L2
/-! Q8: least_steps. -/
def least (W : Lot → Str) : Nat → List Lot → List Str
  | 0, _ => []
  | _ + 1, [] => []
  | n + 1, l :: r => W l :: least W n (if W l = "open" then l.kids ++ r else r)
def leastS (k : Kd) (v : List Int) (s : Sie) (reach : Option Int) (l : Lot) : List Str := least (closeW k v s reach) 1000 [l]
theorem least_nil (W : Lot → Str) (n : Nat) : least W n [] = [] := by cases n <;> rfl
section
variable {P : Program} {w : World} {K : PySem.W.Frag} {mg : Str → Option Value} {base : Heap} {T : List (Addr × Str)} {g : Addr} {fd : FuncData}
def f_least_steps (n : Nat) : FT := fun ds Φ => ∃ (k0 : Kd) (form : Str) (lot : Lot) (room : Int) (st : List (Int × Itm)) (k : Kd) (v : List Int) (sv : Sie) (reach : Option Int), ds = [ixD k0 form lot room, .str (kS k), vecD v, sieD sv, optD reach] ∧
  LotOk st lot ∧ lot.cnt ≤ 1000 ∧ Sv' v ∧ sv.depth ≤ n ∧ Φ (wdsD (leastS k v sv reach lot))
theorem ok_least_steps (bi : BI mg) (n : Nat) (C_lots_in : Cal P w K mg base 1 "lots_in" p_lots_in (spP K T f_lots_in)) (C_closing_word : Cal P w K mg base (n + 7) "closing_word" p_closing_word (spP K T (f_closing_word n))) (ci : Cls K (He.ga K "Index")) (cn : NoAttr K (He.ga K "Index") "lot") (F : FnT K "least_steps" s_least_steps g fd) : FnOk P w K mg base CX0 (n + 8) g fd p_least_steps (spP K T (f_least_steps n)) := by
  refine fn_okD (k := n + 7) bdOk0 F sc_least_steps (fun ds Φ h => ?_) (by decide) (fun cdv A outer s H XE B ds Φ hM hHI hT hr hf => ?_)
  · obtain ⟨_, _, _, _, _, _, _, _, _, rfl, _⟩ := h; rfl
  obtain ⟨k0, form, lot, room, st, k, v, sv, reach, rfl, hlot, hcnt, hv, hn, hf⟩ := hf
  subst hT
  have hu := hr.units0
  refine dl_cons (ds_parO (ixS n_least_steps "todo") (ixS n_least_steps "steps") (dn_lst (da_cons (dw_fld (ds := []) ci cn (dw_v rfl ⟨_, lotD lot, rfl, rfl, da_nil ⟨szl, dn_lst (da_nil ⟨szl, fun l m => ?_⟩)⟩⟩))) ) sc_least_steps.nd)
  refine dl_cons (ds_while PassesOwn.never (fun j E' => ∃ (st' : List Lot) (ws : List Str) (s7 : Sl), E' = [.dt (ixD k0 form lot room), .dt (.str (kS k)), .dt (vecD v), .dt (sieD sv), .dt (optD reach), .own l (st'.reverse.map lotD), .own m (ws.map .str), s7] ∧ (∀ l ∈ st', LotOk st l) ∧ cntL st' ≤ j ∧ j + ws.length ≤ 1000 ∧ ws ++ least (closeW k v sv reach) j st' = leastS k v sv reach lot) 1000 ?j0 ?jt)
  case j0 => exact ⟨[lot], [], .un, rfl, fun l h => by rw [List.mem_singleton.mp h]; exact hlot, by rw [cntL, cntL]; exact hcnt, Nat.le_refl _, rfl⟩
  case jt =>
    rintro j E' ⟨st', ws, s7, rfl, hso, hcn, hjw, hw⟩
    cases st' with
    | nil =>
      refine dt_ownNNil 5 hu rfl (ifB_f ?_)
      rw [least_nil, List.append_nil] at hw
      refine dl_freeze 6 rfl (dl_cons (ds_ret (dw_tuple bi.tuple (da_cons (dw_v rfl (da_nil (.inl ⟨_, rfl, ?_⟩)))))))
      rw [hw]; exact hf
    | cons a r =>
      have hE3 : (a :: r).reverse.map lotD = r.reverse.map lotD ++ [lotD a] := by rw [List.reverse_cons, List.map_append]; rfl
      have hne : ((a :: r).reverse.map lotD).isEmpty = false := by rw [hE3]; simp
      have ha := hso a List.mem_cons_self
      have hca := cnt_kids a
      rw [cntL] at hcn
      have hrl := cntL_len r
      have hkl := cntL_len a.kids
      obtain ⟨j', rfl⟩ : ∃ j', j = j' + 1 := ⟨j - 1, by omega⟩
      refine dt_ownNNil 5 hu rfl ?_
      rw [hne, hE3]
      refine ifB_t (dl_cons (ds_setPop 7 5 rfl ?_ sc_least_steps.nd))
      refine dl_cons (ds_append 6 rfl (dw_calP C_closing_word ‹Room _ _› (by omega) (da_cons (dw_v rfl (da_cons (dw_v rfl (da_cons (dw_v rfl (da_cons (dw_v rfl (da_cons (dw_v rfl (da_nil ⟨k, v, sv, reach, a, rfl, hn, ha.reg, hv, ?s1, ?_⟩)))))))))))))
      case s1 => rw [List.length_map]; exact Nat.lt_of_lt_of_le (Nat.lt_succ_self _) (Nat.le_trans (show _ ≤ 2000 by omega) szl)
      have hlw : ws.map Dt.str ++ [.str (closeW k v sv reach a)] = (ws ++ [closeW k v sv reach a]).map .str := by rw [List.map_append]; rfl
      have hst : least (closeW k v sv reach) (j' + 1) (a :: r) = closeW k v sv reach a :: least (closeW k v sv reach) j' (if closeW k v sv reach a = "open" then a.kids ++ r else r) := rfl
      rw [hst] at hw
      refine dl_cons (ds_if (dt_eq (dw_ownIx 6 rfl (dw_neg (dw_int ⟨_, rfl, _, .str (closeW k v sv reach a), rfl, atI_last _ _, dw_str ⟨_, rfl, ifB_d (fun h => ?a) (fun h => dl_nil (dl_nil ?b))⟩⟩)))))
      case b =>
        rw [if_neg h] at hw
        refine ⟨j', Nat.lt_succ_self _, r, ws ++ [closeW k v sv reach a], .dt (lotD a), ?_, fun l hl => hso l (List.mem_cons_of_mem _ hl), by omega, by rw [List.length_append, List.length_singleton]; omega, by rw [List.append_assoc]; exact hw⟩
        rw [← hlw]; rfl
      case a =>
        rw [if_pos h] at hw
        refine dl_cons (ds_extend 5 rfl (dw_revT (dw_calP C_lots_in ‹Room _ _› (by omega) (da_cons (dw_v rfl (da_nil ⟨a, rfl, _, rfl, _, .inr rfl, ?s2, dl_nil (dl_nil ?_)⟩))))))
        case s2 => rw [List.length_map, List.length_reverse, List.length_reverse, List.length_map]; exact Nat.le_trans (show _ ≤ 2000 by omega) szl
        refine ⟨j', Nat.lt_succ_self _, a.kids ++ r, ws ++ [closeW k v sv reach a], .dt (lotD a), ?_, fun l hl => (List.mem_append.mp hl).elim (ha.kids l) fun h => hso l (List.mem_cons_of_mem _ h), by rw [cntL_app]; omega, by rw [List.length_append, List.length_singleton]; omega, by rw [List.append_assoc]; exact hw⟩
        have e1 : (a.kids ++ r).reverse.map lotD = r.reverse.map lotD ++ (a.kids.map lotD).reverse := by rw [List.reverse_append, List.map_append, List.map_reverse, List.map_reverse]
        rw [← hlw, e1]; rfl
end
end N
set_option Elab.async false
set_option linter.all false
set_option maxRecDepth 100000
set_option maxHeartbeats 1000000
namespace N
open PySem
open PySem.Spec
open PyProof.Rows
open L2
/-! Q9: making a Paper, an Index; within_paper, fewer. -/
theorem upd_two {H : Hp} {a : Addr} {o u : HO} : upd (upd H a o) a u = upd H a u := by
  funext b
  by_cases e : b = a
  · rw [e, upd_same, upd_same]
  · rw [upd_ne e, upd_ne e, upd_ne e]
theorem Grow.ins {G H : Hp} {x dx C : Addr} {fs : List (Str × V)} (c : Cln G H) (hx : H x = none) (hd : H dx = none) (ne : dx ≠ x) : Grow G H (upd G x (.ins C dx fs)) (upd (upd H dx (.own x)) x (.ins C dx fs)) := by
  have a := Grow.dirt (G := G) (H := H) (o := .own x) c hd
  have b := Grow.one (G := G) (H := upd H dx (.own x)) (p := x) (o := .ins C dx fs) a.cln (by rw [upd_ne ne.symm]; exact hx) (fun ps e => by cases e)
  exact a.tr b
/-- what an __init__ that stores its parameters promises -/
def spIni (C : Addr) (fs : List V → List (Str × V)) (n : Nat) : Sp := fun vs H Q _ => ∃ x dx rest, vs = .ref x :: rest ∧ rest.length = n ∧ H x = some (.ins C dx []) ∧ Q .non (upd H x (.ins C dx (fs rest)))
/-- a class to make instances of -/
structure MkC (P : Program) (w : World) (K : PySem.W.Frag) (mg : Str → Option Value) (base : Heap) (k : Nat) (nm : Str) (n : Nat) (fs : List V → List (Str × V)) : Prop where
  ex : ∃ (f : Addr) (fd : FuncData) (ps : List Str), Mk K (He.ga K nm) f ∧ FnOk P w K mg base CX0 k f fd ps (spIni (He.ga K nm) fs n) ∧ Binds K fd ps [] ∧ mg nm = some (.ref (He.ga K nm))
section
variable {X : Cx} {B : Bd} {E : Ev} {Φ : Dt → Prop} {e : Expr} {es : List Expr} {pos p : Pos} {nm : Str} {k n m : Nat} {fs : List V → List (Str × V)}
theorem dw_mk {fd : List Dt → List (Str × Dt)} (M : MkC X.prog X.w X.K X.mg X.base k nm n fs) (hfs : ∀ (G : Hp) vs ds, RpA X.K G vs ds → ds.length = n → RpF X.K G (fs vs) (fd ds)) (hr : Room m X.A) (hk : k + 1 ≤ m) (h : DA X B E (e :: es) fun ds => ds.length = n ∧ Φ (.obj nm (fd ds))) (hg : Gl X nm := by rfl)
    (hdb : (nm == ("__debug__" : Str)) = false := by decide) (he : starEach (e :: es) X.env = (false, eval e X.env) :: starEach es X.env := by rfl) (hpl : (backTo pos (starEach es X.env)).any (·.1) = false := by rfl) : DW X B E (.Call (.Name nm p) (e :: es) [] pos) Φ := fun σ G H Q S q => by
  obtain ⟨f, fdt, ps, Mk0, F, hb, hm⟩ := M.ex
  refine fE (pe_make Mk0 F (hr.mono hk) hg hm hb .nil pass0 qA hdb he hpl) ?_
  refine h σ G H _ S ?_
  intro vs ds G1 H1 S1 x1 r1 f1 x dx hx hd ne
  refine ⟨x, dx, vs, by rw [List.append_nil], by rw [r1.len]; exact f1.1, upd_same, rfl, ?_⟩
  rw [upd_two]
  have g := Grow.ins (C := He.ga X.K nm) (fs := fs vs) S1.cln hx hd ne
  exact q _ _ _ _ (S1.grow g) (x1.tr g.ext) (.obj upd_same (RpF.le g.gg (hfs G1 vs ds r1 f1.1))) f1.2
end
section
variable {P : Program} {w : World} {K : PySem.W.Frag} {mg : Str → Option Value} {base : Heap} {T : List (Addr × Str)} {g : Addr} {fd : FuncData}
def fsPap : List V → List (Str × V)
  | [a, b] => [("answer", a), ("steps", b)]
  | _ => []
def fdPap : List Dt → List (Str × Dt)
  | [a, b] => [("answer", a), ("steps", b)]
  | _ => []
theorem fs_pap (G : Hp) (vs : List V) (ds : List Dt) (r : RpA K G vs ds) (h : ds.length = 2) : RpF K G (fsPap vs) (fdPap ds) := by
  match ds, h with
  | [a, b], _ =>
    cases r with
    | cons ra r => cases r with
      | cons rb r => cases r; exact .cons ra (.cons rb .nil)
theorem ok_Paper_init {C : Addr} {q : Str} (hc : Cls K C) (h1 : NoAttr K C "answer") (h2 : NoAttr K C "steps") (F : FunD K "__init__" q (defArgs s_Paper_init) (defBody s_Paper_init) (defScope s_Paper_init) [] [] g fd) : FnOk P w K mg base CX0 1 g fd p_Paper_init (spIni C fsPap 2) := by
  refine F.ok (k := 0) sc_Paper_init (fun vs H Q E h => ?_) (fun cdv A outer s H vs Q E hr h => ?_)
  · obtain ⟨x, dx, rest, rfl, hl, _⟩ := h
    rw [List.length_cons, hl]; rfl
  · obtain ⟨x, dx, rest, rfl, hl, hx, q⟩ := h
    match rest, hl with
    | [a, b], _ =>
      refine ⟨_, pss_cons (ps_fld (pe_var (i := 0) rfl (Or.inl rfl)) (pe_var (i := 1) rfl (Or.inl rfl)) rfl) (pss_one (ps_fld (pe_var (i := 0) rfl (Or.inl rfl)) (pe_var (i := 2) rfl (Or.inl rfl)) rfl)), ?_⟩
      refine ⟨a, rfl, .ref x, rfl, x, C, dx, [], rfl, hx, hc, h1, Nat.le_of_ble_eq_true rfl, ?_⟩
      refine ⟨b, rfl, .ref x, rfl, x, C, dx, _, rfl, upd_same, hc, h2, Nat.le_of_ble_eq_true rfl, ?_⟩
      rw [upd_two]
      exact q
def fsIx : List V → List (Str × V)
  | [a, b, c, d] => [("kind", a), ("form", b), ("lot", c), ("room", d)]
  | _ => []
def fdIx : List Dt → List (Str × Dt)
  | [a, b, c, d] => [("kind", a), ("form", b), ("lot", c), ("room", d)]
  | _ => []
theorem fs_ix (G : Hp) (vs : List V) (ds : List Dt) (r : RpA K G vs ds) (h : ds.length = 4) : RpF K G (fsIx vs) (fdIx ds) := by
  match ds, h with
  | [a, b, c, d], _ =>
    cases r with
    | cons ra r => cases r with
      | cons rb r => cases r with
        | cons rc r => cases r with
          | cons rd r => cases r; exact .cons ra (.cons rb (.cons rc (.cons rd .nil)))
theorem ok_Index_init {C : Addr} {q : Str} (hc : Cls K C) (h1 : NoAttr K C "kind") (h2 : NoAttr K C "form") (h3 : NoAttr K C "lot") (h4 : NoAttr K C "room") (F : FunD K "__init__" q (defArgs s_Index_init) (defBody s_Index_init) (defScope s_Index_init) [] [] g fd) : FnOk P w K mg base CX0 1 g fd p_Index_init (spIni C fsIx 4) := by
  refine F.ok (k := 0) sc_Index_init (fun vs H Q E h => ?_) (fun cdv A outer s H vs Q E hr h => ?_)
  · obtain ⟨x, dx, rest, rfl, hl, _⟩ := h
    rw [List.length_cons, hl]; rfl
  · obtain ⟨x, dx, rest, rfl, hl, hx, q⟩ := h
    match rest, hl with
    | [a, b, c, d], _ =>
      refine ⟨_, pss_cons (ps_fld (pe_var (i := 0) rfl (Or.inl rfl)) (pe_var (i := 1) rfl (Or.inl rfl)) rfl) (pss_cons (ps_fld (pe_var (i := 0) rfl (Or.inl rfl)) (pe_var (i := 2) rfl (Or.inl rfl)) rfl) (pss_cons (ps_fld (pe_var (i := 0) rfl (Or.inl rfl)) (pe_var (i := 3) rfl (Or.inl rfl)) rfl) (pss_one (ps_fld (pe_var (i := 0) rfl (Or.inl rfl)) (pe_var (i := 4) rfl (Or.inl rfl)) rfl)))), ?_⟩
      refine ⟨a, rfl, .ref x, rfl, x, C, dx, [], rfl, hx, hc, h1, Nat.le_of_ble_eq_true rfl, ?_⟩
      refine ⟨b, rfl, .ref x, rfl, x, C, dx, _, rfl, upd_same, hc, h2, Nat.le_of_ble_eq_true rfl, ?_⟩
      refine ⟨c, rfl, .ref x, rfl, x, C, dx, _, rfl, upd_same, hc, h3, Nat.le_of_ble_eq_true rfl, ?_⟩
      refine ⟨d, rfl, .ref x, rfl, x, C, dx, _, rfl, upd_same, hc, h4, Nat.le_of_ble_eq_true rfl, ?_⟩
      rw [upd_two, upd_two, upd_two]
      exact q
theorem closeW_step (k : Kd) (v : List Int) (s : Sie) (reach : Option Int) (l : Lot) : isStep (closeW k v s reach l) k v s reach l = true := by
  have h := closeW_get k v s reach l
  exact (List.mem_filter.mp (List.mem_of_getElem? h)).2
def openL (W : Lot → Str) : Nat → List Lot → List Lot
  | 0, _ => []
  | _ + 1, [] => []
  | n + 1, l :: r => if W l = "open" then l :: openL W n (l.kids ++ r) else openL W n r
theorem walk_least (k : Kd) (v : List Int) (sv : Sie) (reach : Option Int) : ∀ (n i : Nat) (s op : List Lot), cntL s ≤ n → walk (fun d l => isStepD d k v sv reach l) i ((least (closeW k v sv reach) n s).map .str) s op = (op ++ openL (closeW k v sv reach) n s, none)
  | 0, i, s, op, h => by
    cases s with
    | nil => rw [least, openL, List.append_nil]; rfl
    | cons l r => rw [cntL] at h; have := cnt_kids l; omega
  | n + 1, i, [], op, h => by rw [least, openL, List.append_nil]; rfl
  | n + 1, i, l :: r, op, h => by
    rw [cntL] at h
    have hc := cnt_kids l
    rw [least, openL, List.map_cons, walk_cons]
    have e : isStepD (.str (closeW k v sv reach l)) k v sv reach l = true := closeW_step k v sv reach l
    rw [if_pos e]
    by_cases ho : closeW k v sv reach l = "open"
    · rw [show isOpen (.str (closeW k v sv reach l)) = true from decide_eq_true ho, if_pos rfl, if_pos ho, if_pos ho, walk_least k v sv reach n (i + 1) (l.kids ++ r) (op ++ [l]) (by rw [cntL_app]; omega), List.append_assoc]
      rfl
    · rw [show isOpen (.str (closeW k v sv reach l)) = false from decide_eq_false ho, if_neg (by decide), if_neg ho, if_neg ho, walk_least k v sv reach n (i + 1) r op (by omega)]
def openS (k : Kd) (v : List Int) (s : Sie) (reach : Option Int) (l : Lot) : List Lot := openL (closeW k v s reach) 1000 [l]
theorem walk_leastS (k : Kd) (v : List Int) (sv : Sie) (reach : Option Int) (l : Lot) (h : l.cnt ≤ 1000) : walk (fun d l => isStepD d k v sv reach l) 0 ((leastS k v sv reach l).map .str) [l] [] = (openS k v sv reach l, none) :=
  walk_least k v sv reach 1000 0 [l] [] (by rw [cntL, cntL]; exact h)
theorem least_len (W : Lot → Str) : ∀ (n : Nat) (s : List Lot), (least W n s).length ≤ n
  | 0, _ => Nat.le_refl _
  | n + 1, [] => Nat.zero_le _
  | n + 1, l :: r => by rw [least, List.length_cons]; exact Nat.succ_le_succ (least_len W n _)
def f_within_paper (n : Nat) : FT := fun ds Φ => ∃ (k0 : Kd) (form : Str) (lot : Lot) (room : Int) (st : List (Int × Itm)) (k : Kd) (v : List Int) (reach : Int) (sv : Sie), ds = [ixD k0 form lot room, stD st, .str (kS k), vecD v, .int reach, sieD sv] ∧
  LotOk st lot ∧ lot.cnt ≤ 1000 ∧ StOk st ∧ Sv' v ∧ sv.depth ≤ n ∧ ∀ qs : List (Int × Int), qs.Perm (foundOf st k v sv (openS k v sv (some reach) lot)) → qs.Pairwise leP → Φ (papD (.tup (prsD (qs.filter fun q => decide (q.1 ≤ reach)))) (wdsD (leastS k v sv (some reach) lot)))
theorem ok_within_paper (bi : BI mg) (n : Nat) (C_least_steps : Cal P w K mg base (n + 8) "least_steps" p_least_steps (spP K T (f_least_steps n))) (C_looked : Cal P w K mg base (n + 9) "looked" p_looked (spP K T fun ds Φ => f_looked n ds Φ fun _ => False)) (mp : MkC P w K mg base 1 "Paper" 2 fsPap) (F : FnT K "within_paper" s_within_paper g fd) : FnOk P w K mg base CX0 (n + 10) g fd p_within_paper (spP K T (f_within_paper n)) := by
  refine fn_okD (k := n + 9) bdOk0 F sc_within_paper (fun ds Φ h => ?_) (by decide) (fun cdv A outer s H XE B ds Φ hM hHI hT hr hf => ?_)
  · obtain ⟨_, _, _, _, _, _, _, _, _, rfl, _⟩ := h; rfl
  obtain ⟨k0, form, lot, room, st, k, v, reach, sv, rfl, hlot, hcnt, hst, hv, hn, hf⟩ := hf
  subst hT
  refine dl_cons (ds_s sc_within_paper.nd (dw_calP C_least_steps ‹Room _ _› (by omega) (da_cons (dw_v rfl (da_cons (dw_v rfl (da_cons (dw_v rfl (da_cons (dw_v rfl (da_cons (dw_v rfl (da_nil ⟨k0, form, lot, room, st, k, v, sv, some reach, rfl, hlot, hcnt, hv, hn, ?_⟩)))))))))))))
  have hlw : (leastS k v sv (some reach) lot).length ≤ 1000 := least_len _ _ _
  refine dl_cons (ds_s sc_within_paper.nd (dw_calP C_looked ‹Room _ _› (by omega) (da_cons (dw_v rfl (da_cons (dw_v rfl (da_cons (dw_v rfl (da_cons (dw_v rfl (da_cons (dw_v rfl (da_cons (dw_v rfl (da_cons (dw_v rfl (da_nil ⟨k0, form, lot, room, st, k, v, sv, some reach, _, rfl, hlot, hcnt, hst, hv, hn, rfl, (fun h => by cases h), ?_⟩)))))))))))))))))
  intro l hl
  cases hl
  refine ⟨by rw [List.length_map]; exact hlw, fun d hd => by obtain ⟨x, _, rfl⟩ := List.mem_map.mp hd; rfl, ?_⟩
  rw [walk_leastS k v sv (some reach) lot hcnt]
  intro qs hp hs
  refine dl_cons (ds_ret (dw_mk mp fs_pap ‹Room _ _› (by omega) (da_cons (dw_tuple bi.tuple (da_cons (dw_n (dn_l [("pair", 8)] sc_within_paper.nd (show BlkOk n_within_paper (defScope s_within_paper) _ _ from ⟨rfl, by decide +kernel, by decide +kernel, by decide +kernel, by decide +kernel⟩) (lcE [("pair", 8)] (fun _ _ _ _ _ _ _ => dg_name 8 sc_within_paper.nd) (by decide) (di_tup (dw_v rfl ⟨_, rfl, qs, prT, fun q => decide (q.1 ≤ reach), prT, rfl, ?t, ?f⟩))))))))))
  case t =>
    intro gl ow x hx
    exact fun s H C cl fp => dq_one (dt_le (dw_at (dw_v rfl (dw_int ⟨_, rfl, dw_v rfl ⟨_, rfl, rfl, fun _ s H C cl fp => dw_v rfl rfl⟩⟩))))
  case f => exact da_nil (.inl ⟨_, rfl, da_cons (dw_v rfl (da_nil ⟨rfl, hf qs hp hs⟩))⟩)
def f_fewer : FT := fun ds Φ => ∃ (a : List Dt) (s : Dt) (m : Int), ds = [papD (.tup a) s, .int m] ∧ Φ (papD (.tup (cutD a none (some m))) s)
theorem ok_fewer (cp : Cls K (He.ga K "Paper")) (h1 : NoAttr K (He.ga K "Paper") "answer") (h2 : NoAttr K (He.ga K "Paper") "steps") (mp : MkC P w K mg base 1 "Paper" 2 fsPap) (F : FnT K "fewer" s_fewer g fd) : FnOk P w K mg base CX0 3 g fd p_fewer (spP K T f_fewer) := by
  refine fn_okD (k := 2) bdOk0 F sc_fewer (fun ds Φ h => ?_) (by decide) (fun cdv A outer s H XE B ds Φ hM hHI hT hr hf => ?_)
  · obtain ⟨_, _, _, rfl, _⟩ := h; rfl
  obtain ⟨a, st, m, rfl, hf⟩ := hf
  subst hT
  exact dl_cons (ds_ret (dw_mk mp fs_pap ‹Room _ _› (by omega) (da_cons (dw_slT (dw_fld (ds := []) cp h1 (dw_v rfl ⟨_, _, rfl, rfl, _, rfl, do_none (do_some (dw_v rfl ⟨_, rfl, da_cons (dw_fld (ds := []) cp h2 (dw_v rfl ⟨_, _, rfl, rfl, da_nil ⟨rfl, hf⟩⟩))⟩))⟩))))))
end
end N
set_option Elab.async false
set_option linter.all false
set_option maxRecDepth 100000
set_option maxHeartbeats 1000000
namespace N
open PySem
open PySem.Spec
open PyProof.Rows
open L2
/-! Q10: is_answer_form. -/
def numP (x : Int × Int) : Bool := decide (0 ≤ x.1) && decide (0 ≤ x.2)
def okAt (ps : List (Int × Int)) (i : Nat) : Bool := match ps[i]? with
  | none => true
  | some x => numP x && (decide (i = 0) || match ps[i - 1]? with
    | none => true
    | some y => HT.lexLt [y.1, y.2] [x.1, x.2])
def formB (ps : List (Int × Int)) : Bool := (List.range ps.length).all (okAt ps)
def manyOk (ps : List (Int × Int)) : Option Int → Bool
  | none => true
  | some m => decide ((ps.length : Int) ≤ m)
def formA : Option (List (Int × Int)) → Option Int → Bool
  | none, _ => false
  | some ps, many => manyOk ps many && formB ps
def ansD : Option (List (Int × Int)) → Dt
  | none => .non
  | some ps => .tup (prsD ps)
theorem formB_f {ps : List (Int × Int)} {i : Nat} (hi : i < ps.length) (h : okAt ps i = false) : formB ps = false := by
  unfold formB
  cases e : (List.range ps.length).all (okAt ps) with
  | false => rfl
  | true =>
    rw [List.all_eq_true] at e
    rw [e i (List.mem_range.mpr hi)] at h
    cases h
theorem formB_t {ps : List (Int × Int)} (h : ∀ i < ps.length, okAt ps i = true) : formB ps = true := List.all_eq_true.mpr fun i hi => h i (List.mem_range.mp hi)
section
variable {P : Program} {w : World} {K : PySem.W.Frag} {mg : Str → Option Value} {base : Heap} {T : List (Addr × Str)} {g : Addr} {fd : FuncData}
def f_is_answer_form : FT := fun ds Φ => ∃ (v : Option (List (Int × Int))) (many : Option Int), ds = [ansD v, optD many] ∧ Φ (.bl (formA v many))
theorem ok_is_answer_form (bi : BI mg) (C_is_number : Cal P w K mg base 2 "is_number" p_is_number (spP K T f_is_number)) (F : FnT K "is_answer_form" s_is_answer_form g fd) : FnOk P w K mg base CX0 3 g fd p_is_answer_form (spP K T f_is_answer_form) := by
  refine fn_okD (k := 2) bdOk0 F sc_is_answer_form (fun ds Φ h => ?_) (by decide) (fun cdv A outer s H XE B ds Φ hM hHI hT hr hf => ?_)
  · obtain ⟨_, _, rfl, _⟩ := h; rfl
  obtain ⟨v, many, rfl, hf⟩ := hf
  subst hT
  have hu := hr.units0
  cases v with
  | none => exact dl_cons (ds_if (dt_w (dtw_or (dt_not (dt_val (dw_isi (BI.isinstance ‹_›) (da_cons (dw_v rfl (da_cons (dw_tTuple bi (da_nil ⟨_, _, _, _, rfl, rfl, rfl, false, rfl, ifB_t (ifB_t (dl_cons (ds_ret (dw_bl hf))))⟩)))))))))))
  | some ps =>
    refine dl_cons (ds_if (dt_w (dtw_or (dt_not (dt_val (dw_isi (BI.isinstance ‹_›) (da_cons (dw_v rfl (da_cons (dw_tTuple bi (da_nil ⟨_, _, _, _, rfl, rfl, rfl, true, rfl, ifB_f (dtw_or1 ?_)⟩)))))))))))
    refine DT.im (Ψ' := fun z => z = !manyOk ps many) ?t fun z hz => ?_
    case t =>
      cases many with
      | none => exact dt_w (dtw_and (dt_notN (dw_v rfl (dw_non ⟨rfl, rfl, false, rfl, ifB_f rfl⟩))))
      | some m =>
        refine dt_w (dtw_and (dt_notN (dw_v rfl (dw_non ⟨rfl, rfl, true, rfl, ifB_t (dtw_and1 (dt_gt (dw_len bi.len (da_cons (dw_v rfl (da_nil (.inr (.inl ⟨_, rfl, dw_v rfl ⟨_, rfl, ?_⟩⟩))))))))⟩))))
        unfold manyOk
        rw [List.length_map, ← decide_not]
        exact decide_eq_decide.mpr (by omega)
    subst hz
    have hf : Φ (.bl (manyOk ps many && formB ps)) := hf
    cases hm : manyOk ps many with
    | false => rw [hm, Bool.false_and] at hf; exact ifB_t (dl_cons (ds_ret (dw_bl hf)))
    | true =>
      rw [hm, Bool.true_and] at hf
      refine ifB_f (dl_nil ?_)
      refine dl_cons (ds_for PassesOwn.never (fun _ _ => dg_tup (n := 2) rfl (dgs_cons (dg_v sc_is_answer_form.nd) (dgs_cons (dg_v sc_is_answer_form.nd) (dgs_nil)))) (di_enum (BI.enumerate ‹_›) (da_cons (dw_v rfl (da_nil (⟨_, rfl, fun i E' => (∃ s2 s3 s4, E' = [.dt (.tup (prsD ps)), .dt (optD many), s2, s3, s4]) ∧ ∀ j < i, okAt ps j = true, ⟨⟨_, _, _, rfl⟩, fun j hj => absurd hj (Nat.not_lt_zero j)⟩, ?jt, ?je⟩))))))
      case jt =>
        intro gl i d E' hd hJ
        obtain ⟨y, hy, rfl⟩ := enumD_get hd
        obtain ⟨x, hx, rfl⟩ := map_get hy
        obtain ⟨⟨s2, s3, s4, rfl⟩, hok⟩ := hJ
        have hil := (List.getElem?_eq_some_iff.mp hx).1
        refine ⟨rfl, rfl, dl_cons (ds_if (dt_w (dtw_or (dt_not (dt_val (dw_isi (BI.isinstance ‹_›) (da_cons (dw_v rfl (da_cons (dw_tTuple bi (da_nil ⟨_, _, _, _, rfl, rfl, rfl, true, rfl, ifB_f ?_⟩)))))))))))⟩
        refine dtw_or (dt_ne (dw_len bi.len (da_cons (dw_v rfl (da_nil (.inr (.inl ⟨_, rfl, dw_int ⟨false, rfl, ifB_f (dtw_or1 ?_)⟩⟩)))))))
        refine dt_not (dt_val (dw_all bi.all (da_cons (dw_n (dn_l [("part", 4)] sc_is_answer_form.nd (show BlkOk n_is_answer_form (defScope s_is_answer_form) _ _ from ⟨rfl, by decide +kernel, by decide +kernel, by decide +kernel, by decide +kernel⟩) (lcE [("part", 4)] (fun _ _ _ _ _ _ _ => dg_name 4 sc_is_answer_form.nd) (by decide) (di_tup (dw_v rfl ⟨_, rfl, [x.1, x.2], .int, fun _ => true, fun i => .bl (decide (0 ≤ i)), rfl, ?t, ?f⟩))))))))
        case t =>
          intro gl ow z hz
          exact fun s H C cl fp => dq_nil ⟨rfl, fun _ s H C cl fp => dw_calP C_is_number ‹Room _ _› (by omega) (da_cons (dw_v rfl (da_nil ⟨.int z, rfl, rfl, rfl⟩)))⟩
        case f =>
          refine da_nil ⟨[decide (0 ≤ x.1), decide (0 ≤ x.2)], rfl, _, rfl, ?_⟩
          have en : [decide (0 ≤ x.1), decide (0 ≤ x.2)].all id = numP x := by simp [numP]
          rw [en]
          have eo : okAt ps i = (numP x && (decide (i = 0) || match ps[i - 1]? with
            | none => true
            | some y => HT.lexLt [y.1, y.2] [x.1, x.2])) := by unfold okAt; rw [hx]
          cases hnx : numP x with
          | false =>
            rw [hnx, Bool.false_and] at eo
            rw [formB_f hil eo] at hf
            exact ifB_t (dl_cons (ds_ret (dw_bl hf)))
          | true =>
            rw [hnx, Bool.true_and] at eo
            refine ifB_f (dl_nil ?_)
            have nxt : okAt ps i = true → ∀ j < i + 1, okAt ps j = true := fun h j hj => by
              by_cases e : j = i
              · rw [e]; exact h
              · exact hok j (by omega)
            refine dl_cons (ds_if (dt_w (dtw_and (dt_gt (dw_v rfl (dw_int ⟨_, rfl, ifB_d (fun h => ?a) (fun h => ifB_f (dl_nil (dl_nil ⟨⟨_, _, _, rfl⟩, nxt ?b⟩)))⟩))))))
            case b =>
              rw [eo, decide_eq_true (show i = 0 by omega), Bool.true_or]
            case a =>
              have h1 : i - 1 < ps.length := by omega
              obtain ⟨y, hy⟩ : ∃ y, ps[i - 1]? = some y := ⟨_, List.getElem?_eq_getElem h1⟩
              have hat : atI (prsD ps) ((i : Nat) - 1) = some (prT y) := by
                have e : ((i : Nat) : Int) - 1 = ((i - 1 : Nat) : Int) := by omega
                rw [e]
                exact atI_nat (by rw [List.getElem?_map, hy]; rfl)
              rw [hy, decide_eq_false (show ¬ i = 0 by omega), Bool.false_or] at eo
              have eo : okAt ps i = HT.lexLt [y.1, y.2] [x.1, x.2] := eo
              refine dtw_and1 (dt_not (dt_ltT hu (dw_at (dw_v rfl (dw_sub (dw_v rfl (dw_int ⟨_, hat, dw_v rfl ⟨[y.1, y.2], [x.1, x.2], rfl, rfl, _, rfl, ?_⟩⟩)))))))
              rw [← eo]
              cases ho : okAt ps i with
              | true => exact ifB_f (dl_nil (dl_nil ⟨⟨_, _, _, rfl⟩, nxt ho⟩))
              | false =>
                rw [formB_f hil ho] at hf
                exact ifB_t (dl_cons (ds_ret (dw_bl hf)))
      case je =>
        rintro E' ⟨⟨s2, s3, s4, rfl⟩, hok⟩
        rw [enumD_len, List.length_map] at hok
        rw [formB_t hok] at hf
        exact dl_cons (ds_ret (dw_bl hf))
end
end N
set_option Elab.async false
set_option linter.all false
set_option maxRecDepth 100000
set_option maxHeartbeats 1000000
namespace N
open PySem
open PySem.Spec
open PyProof.Rows
open L2
/-! Q11: the judgements. -/
theorem plnL_prs : ∀ ps : List (Int × Int), plnL (prsD ps) = ps.map fun q => .tuple [.int q.1, .int q.2]
  | [] => rfl
  | q :: ps => by
    show pln (prT q) :: plnL (prsD ps) = _
    rw [plnL_prs ps]; rfl
theorem isP_prs : ∀ ps : List (Int × Int), isPL (prsD ps) = true
  | [] => rfl
  | q :: ps => by
    show (isP (prT q) && isPL (prsD ps)) = true
    rw [isP_prs ps]; rfl
theorem lay_prs : ∀ ps : List (Int × Int), PyData.canLayAll0 (ps.map fun q => .tuple [.int q.1, .int q.2]) = true
  | [] => rfl
  | q :: ps => by
    rw [List.map_cons, PyData.canLayAll0, lay_prs ps]; rfl
theorem dep_prs : ∀ ps : List (Int × Int), PyData.depthAll (ps.map fun q => .tuple [.int q.1, .int q.2]) ≤ 1
  | [] => Nat.zero_le _
  | q :: ps => by
    rw [List.map_cons, PyData.depthAll]
    exact Nat.max_le.mpr ⟨Nat.le_refl 1, dep_prs ps⟩
theorem okP_prs (ps : List (Int × Int)) : okP (.tup (prsD ps)) := by
  refine ⟨isP_prs ps, ?_⟩
  show SeqAt.shaped (.tuple (plnL (prsD ps))) = true
  rw [plnL_prs]
  unfold SeqAt.shaped
  rw [PyData.canLay0, lay_prs, PyData.depth, decide_eq_true (show PyData.depthAll (ps.map fun q => .tuple [.int q.1, .int q.2]) + 1 ≤ 64 by have := dep_prs ps; omega)]
  rfl
theorem eqv_pr (a b : Int × Int) : PyData.eqv (.tuple [.int a.1, .int a.2]) (.tuple [.int b.1, .int b.2]) = decide (a = b) := by
  obtain ⟨a1, a2⟩ := a
  obtain ⟨b1, b2⟩ := b
  simp only [PyData.eqv, PyData.eqvAll, Bool.and_true]
  by_cases h1 : a1 = b1 <;> by_cases h2 : a2 = b2 <;> simp [h1, h2]
theorem eqvAll_prs : ∀ a b : List (Int × Int), PyData.eqvAll (a.map fun q => .tuple [.int q.1, .int q.2]) (b.map fun q => .tuple [.int q.1, .int q.2]) = decide (a = b)
  | [], [] => by simp [PyData.eqvAll]
  | [], _ :: _ => by simp [PyData.eqvAll]
  | _ :: _, [] => by simp [PyData.eqvAll]
  | x :: a, y :: b => by
    rw [List.map_cons, List.map_cons, PyData.eqvAll, eqv_pr, eqvAll_prs a b]
    by_cases h1 : x = y <;> by_cases h2 : a = b <;> simp [h1, h2]
theorem eqv_prs (a b : List (Int × Int)) : PyData.eqv (pln (.tup (prsD a))) (pln (.tup (prsD b))) = decide (a = b) := by
  show PyData.eqv (.tuple (plnL (prsD a))) (.tuple (plnL (prsD b))) = _
  rw [plnL_prs, plnL_prs, PyData.eqv, eqvAll_prs]
/-! ### the order of pairs -/
theorem leP_anti {a b : Int × Int} (h : leP a b) (k : leP b a) : a = b := by
  have h1 : ¬ SrtO.lexB b a = true := by rw [h]; decide
  have h2 : ¬ SrtO.lexB a b = true := by rw [k]; decide
  rw [SrtO.lexB_iff] at h1 h2
  exact Prod.ext (by omega) (by omega)
theorem srt_unique : ∀ {a b : List (Int × Int)}, a.Perm b → a.Pairwise leP → b.Pairwise leP → a = b
  | [], b, p, _, _ => (List.nil_perm.mp p).symm
  | x :: a, [], p, _, _ => by cases (List.perm_nil.mp p)
  | x :: a, y :: b, p, ha, hb => by
    have ha' := List.pairwise_cons.mp ha
    have hb' := List.pairwise_cons.mp hb
    have e : x = y := by
      have h1 : x ∈ y :: b := p.mem_iff.mp List.mem_cons_self
      have h2 : y ∈ x :: a := p.mem_iff.mpr List.mem_cons_self
      rcases List.mem_cons.mp h1 with h1 | h1
      · exact h1
      · rcases List.mem_cons.mp h2 with h2 | h2
        · exact h2.symm
        · exact leP_anti (ha'.1 y h2) (hb'.1 x h1)
    subst e
    rw [srt_unique (List.perm_cons x |>.mp p) ha'.2 hb'.2]
def sortP (l : List (Int × Int)) : List (Int × Int) := l.mergeSort fun a b => !SrtO.lexB b a
theorem sortP_perm (l : List (Int × Int)) : (sortP l).Perm l := List.mergeSort_perm l _
theorem sortP_sorted (l : List (Int × Int)) : (sortP l).Pairwise leP := by
  have h := List.pairwise_mergeSort (le := fun a b : Int × Int => !SrtO.lexB b a) (fun a b c h1 h2 => ?_) (fun a b => ?_) l
  · refine h.imp fun {a b} q => ?_
    have q : (!SrtO.lexB b a) = true := q
    show SrtO.lexB b a = false
    cases e : SrtO.lexB b a <;> rw [e] at q <;> first | rfl | cases q
  · have n1 : ¬ SrtO.lexB b a = true := by intro z; rw [z] at h1; cases h1
    have n2 : ¬ SrtO.lexB c b = true := by intro z; rw [z] at h2; cases h2
    have n3 : ¬ SrtO.lexB c a = true := by
      rw [SrtO.lexB_iff] at n1 n2 ⊢
      omega
    cases e : SrtO.lexB c a <;> first | rfl | exact (n3 e).elim
  · by_cases e : SrtO.lexB b a = true
    · have n : ¬ SrtO.lexB a b = true := by
        rw [SrtO.lexB_iff] at e ⊢
        omega
      cases e2 : SrtO.lexB a b <;> first | exact (n e2).elim | simp
    · cases e2 : SrtO.lexB b a <;> first | exact (e e2).elim | simp
theorem sortP_eq {qs l : List (Int × Int)} (p : qs.Perm l) (h : qs.Pairwise leP) : qs = sortP l := srt_unique (p.trans (sortP_perm l).symm) h (sortP_sorted l)
end N
set_option Elab.async false
set_option linter.all false
set_option maxRecDepth 100000
set_option maxHeartbeats 1000000
namespace N
open PySem
open PySem.Spec
open PyProof.Rows
open L2
/-! Q12: within_fault, is_within_paper, answer_reach, tied, first_fault, is_right. -/
inductive VP where
  | non
  | tup (l : List (Int × Int))
  | pap (a : Option (List (Int × Int))) (s : Dt)
def vpD : VP → Dt
  | .non => .non
  | .tup l => .tup (prsD l)
  | .pap a s => papD (ansD a) s
def stpOk (s : Dt) : Prop := (tyN s).isSome = true ∧ ∀ l, s = .tup l → l.length ≤ 1000 ∧ ∀ d ∈ l, (tyN d).isSome = true
def VpOk : VP → Prop
  | .pap _ s => stpOk s
  | _ => True
/-- looked, told plainly: the exception's at, or the pairs -/
def lookP (k : Kd) (v : List Int) (sv : Sie) (reach : Option Int) (lot : Lot) (st : List (Int × Itm)) : Dt → Int ⊕ List (Int × Int)
  | .tup l => match walk (fun d l => isStepD d k v sv reach l) 0 l [lot] [] with
    | (_, some i) => .inl i
    | (op, none) => .inr (sortP (foundOf st k v sv op))
  | _ => .inl (-1)
def fltD : Option (Str × Int) → Dt
  | none => .non
  | some (w, i) => .tup [.str w, .int i]
def wfOut (ps : List (Int × Int)) (reach : Int) : Int ⊕ List (Int × Int) → Option (Str × Int)
  | .inl i => some ("step", i)
  | .inr qs => if (qs.filter fun q => decide (q.1 ≤ reach)) = ps then none else some ("answer", 1)
def wfIn (lot : Lot) (st : List (Int × Itm)) (k : Kd) (v : List Int) (reach : Int) (sv : Sie) : Option (List (Int × Int)) → Dt → Option (Str × Int)
  | none, _ => some ("answer", 0)
  | some ps, s => if formB ps then wfOut ps reach (lookP k v sv (some reach) lot st s) else some ("answer", 0)
def wfault (k0 : Kd) (lot : Lot) (st : List (Int × Itm)) (k : Kd) (v : List Int) (reach : Int) (sv : Sie) : VP → Option (Str × Int)
  | .pap a s => if k0 = k then wfIn lot st k v reach sv a s else some ("kind", 0)
  | _ => some ("kind", 0)
section
variable {P : Program} {w : World} {K : PySem.W.Frag} {mg : Str → Option Value} {base : Heap} {T : List (Addr × Str)} {g C : Addr} {fd : FuncData}
theorem look_of {n : Nat} {k0 : Kd} {form : Str} {lot : Lot} {room : Int} {st : List (Int × Itm)} {k : Kd} {v : List Int} {sv : Sie} {reach : Option Int} {s : Dt} {Φ Ξ : Dt → Prop} (hlot : LotOk st lot) (hcnt : lot.cnt ≤ 1000) (hst : StOk st) (hv : Sv' v) (hn : sv.depth ≤ n) (hs : stpOk s)
    (h : match lookP k v sv reach lot st s with
      | .inl i => Ξ (.int i)
      | .inr qs => Φ (.tup (prsD qs))) : f_looked n [ixD k0 form lot room, stD st, .str (kS k), vecD v, sieD sv, optD reach, s] Φ Ξ := by
  refine ⟨k0, form, lot, room, st, k, v, sv, reach, s, rfl, hlot, hcnt, hst, hv, hn, hs.1, fun ht => ?_, fun l hl => ?_⟩
  · cases s <;> first | exact h | cases ht
  · subst hl
    refine ⟨(hs.2 l rfl).1, (hs.2 l rfl).2, ?_⟩
    unfold lookP at h
    cases e : walk (fun d l => isStepD d k v sv reach l) 0 l [lot] [] with
    | mk op fl =>
      simp only [e] at h
      cases fl with
      | some i => exact h
      | none =>
        intro qs hp hq
        rw [sortP_eq hp hq]
        exact h
/-- what is known of the exception's class, of Paper -/
structure IPF (K : PySem.W.Frag) (mg : Str → Option Value) (C : Addr) : Prop where
  xf : XfC K C
  at_ : PySem.W.findIn K (.ref C) "at" = some none
  mg : mg "InvalidPaper" = some (.ref C)
  ex : PySem.W.exmOne K (.ref C) (.ref C) = some true
structure PapF (K : PySem.W.Frag) (mg : Str → Option Value) : Prop where
  is : IsC K "Paper"
  mg : mg "Paper" = some (.ref (He.ga K "Paper"))
  cl : Cls K (He.ga K "Paper")
  an : NoAttr K (He.ga K "Paper") "answer"
  sn : NoAttr K (He.ga K "Paper") "steps"
structure IxF (K : PySem.W.Frag) : Prop where
  cl : Cls K (He.ga K "Index")
  kn : NoAttr K (He.ga K "Index") "kind"
  ln : NoAttr K (He.ga K "Index") "lot"
/-- looked, where it may raise -/
structure LkX (P : Program) (w : World) (K : PySem.W.Frag) (mg : Str → Option Value) (base : Heap) (C : Addr) (T : List (Addr × Str)) (n : Nat) : Prop where
  ex : ∃ (g : Addr) (fd : FuncData), FnOk P w K mg base (L2.CX P w) (n + 9) g fd p_looked (spX K C T (f_looked n)) ∧ mg "looked" = some (.ref g) ∧ PySem.W.keepIn K (.ref g) = true ∧ Binds K fd p_looked []
def f_within_fault (n : Nat) : FT := fun ds Φ => ∃ (k0 : Kd) (form : Str) (lot : Lot) (room : Int) (st : List (Int × Itm)) (k : Kd) (v : List Int) (reach : Int) (sv : Sie) (vp : VP), ds = [ixD k0 form lot room, stD st, .str (kS k), vecD v, .int reach, sieD sv, vpD vp] ∧
  LotOk st lot ∧ lot.cnt ≤ 1000 ∧ StOk st ∧ Sv' v ∧ sv.depth ≤ n ∧ VpOk vp ∧ Φ (fltD (wfault k0 lot st k v reach sv vp))
theorem ok_within_fault (bi : BI mg) (n : Nat) (ipf : IPF K mg C) (pf : PapF K mg) (xf : IxF K) (LK : LkX P w K mg base C T n) (C_is_answer_form : Cal P w K mg base 3 "is_answer_form" p_is_answer_form (spP K T f_is_answer_form)) (F : FnT K "within_fault" s_within_fault g fd) : FnOk P w K mg base CX0 (n + 10) g fd p_within_fault (spP K T (f_within_fault n)) := by
  refine fn_okD (k := n + 9) bdOk0 F sc_within_fault (fun ds Φ h => ?_) (by decide) (fun cdv A outer s H XE B ds Φ hM hHI hT hr hf => ?_)
  · obtain ⟨_, _, _, _, _, _, _, _, _, _, rfl, _⟩ := h; rfl
  obtain ⟨k0, form, lot, room, st, k, v, reach, sv, vp, rfl, hlot, hcnt, hst, hv, hn, hvp, hf⟩ := hf
  subst hT
  obtain ⟨gl, fdl, FL, hml, hkl, hbl⟩ := LK.ex
  cases vp with
  | non => exact dl_cons (ds_if (dt_w (dtw_or (dt_not (dt_val (dw_isC pf.is bi.isinstance (da_cons (dw_v rfl (da_cons (dw_glob (v := .ref (He.ga K "Paper")) rfl pf.mg rfl (da_nil ⟨.non, _, rfl, rfl, false, rfl, ifB_t (ifB_t (dl_cons (ds_ret (dw_tup (da_cons (dw_str (da_cons (dw_int (da_nil ⟨szl, hf⟩)))))))))⟩)))))))))))
  | tup l => exact dl_cons (ds_if (dt_w (dtw_or (dt_not (dt_val (dw_isC pf.is bi.isinstance (da_cons (dw_v rfl (da_cons (dw_glob (v := .ref (He.ga K "Paper")) rfl pf.mg rfl (da_nil ⟨.tup (prsD l), _, rfl, rfl, false, rfl, ifB_t (ifB_t (dl_cons (ds_ret (dw_tup (da_cons (dw_str (da_cons (dw_int (da_nil ⟨szl, hf⟩)))))))))⟩)))))))))))
  | pap a s =>
    refine dl_cons (ds_if (dt_w (dtw_or (dt_not (dt_val (dw_isC pf.is bi.isinstance (da_cons (dw_v rfl (da_cons (dw_glob (v := .ref (He.ga K "Paper")) rfl pf.mg rfl (da_nil ⟨papD (ansD a) s, true, rfl, rfl, true, rfl, ifB_f ?_⟩)))))))))))
    have hf : Φ (fltD (if k0 = k then wfIn lot st k v reach sv a s else some ("kind", 0))) := hf
    refine dtw_or1 (dt_ne (dw_fld (ds := []) xf.cl xf.kn (dw_v rfl ⟨_, _, rfl, rfl, dw_v rfl ⟨_, rfl, ifB_n (fun h => ?hk) (fun h => dl_nil ?ho)⟩⟩)))
    case hk =>
      rw [if_neg (fun e => h (by rw [e]))] at hf
      exact dl_cons (ds_ret (dw_tup (da_cons (dw_str (da_cons (dw_int (da_nil ⟨szl, hf⟩)))))))
    case ho =>
      rw [if_pos (kS_inj h)] at hf
      refine dl_cons (ds_if (dt_not (dt_val (dw_calP C_is_answer_form ‹Room _ _› (by omega) (da_cons (dw_fld (ds := []) pf.cl pf.an (dw_v rfl ⟨_, ansD a, rfl, rfl, da_cons (dw_non (da_nil ⟨a, none, rfl, _, rfl, ?_⟩))⟩)))))))
      cases a with
      | none => exact ifB_t (dl_cons (ds_ret (dw_tup (da_cons (dw_str (da_cons (dw_int (da_nil ⟨szl, hf⟩))))))))
      | some ps =>
        have hf : Φ (fltD (if formB ps then wfOut ps reach (lookP k v sv (some reach) lot st s) else some ("answer", 0))) := hf
        show ifB (!(manyOk ps none && formB ps)) _ _
        rw [show manyOk ps none = true from rfl, Bool.true_and]
        cases hfb : formB ps with
        | false =>
          rw [hfb, if_neg (by decide)] at hf
          exact ifB_t (dl_cons (ds_ret (dw_tup (da_cons (dw_str (da_cons (dw_int (da_nil ⟨szl, hf⟩))))))))
        | true =>
          rw [hfb, if_pos rfl] at hf
          refine ifB_f (dl_nil (dl_cons (ds_try FL hr hml hkl hbl hM hHI ipf.xf ipf.at_ ipf.mg ipf.ex 7 8 sc_within_fault.nd ⟨_, rfl⟩ (fun pn xe => da_cons (dw_v rfl (da_cons (dw_v rfl (da_cons (dw_v rfl (da_cons (dw_v rfl (da_cons (dw_v rfl (da_cons (dw_v rfl (da_cons (dw_fld (ds := []) pf.cl pf.sn (dw_v rfl ⟨_, s, rfl, rfl, da_nil (look_of (k := k) (k0 := k0) (form := form) (room := room) (reach := some reach) hlot hcnt hst hv hn hvp ?_)⟩))))))))))))))))))
          cases hl : lookP k v sv (some reach) lot st s with
          | inl i => rw [hl] at hf; exact hf
          | inr qs =>
            rw [hl] at hf
            have hf : Φ (fltD (if (qs.filter fun q => decide (q.1 ≤ reach)) = ps then none else some ("answer", 1))) := hf
            refine dl_cons (ds_ret (dw_if (dt_eqD hr.units (dw_tuple bi.tuple (da_cons (dw_n (dn_l [("pair", 9)] sc_within_fault.nd (show BlkOk n_within_fault (defScope s_within_fault) _ _ from ⟨rfl, by decide +kernel, by decide +kernel, by decide +kernel, by decide +kernel⟩) (lcE [("pair", 9)] (fun _ _ _ _ _ _ _ => dg_name 9 sc_within_fault.nd) (by decide) (di_tup (dw_v rfl ⟨_, rfl, qs, prT, fun q => decide (q.1 ≤ reach), prT, rfl, ?t, ?f⟩))))))))))
            case t =>
              intro gl ow x hx
              exact fun s H C cl fp => dq_one (dt_le (dw_at (dw_v rfl (dw_int ⟨_, rfl, dw_v rfl ⟨_, rfl, rfl, fun _ s H C cl fp => dw_v rfl rfl⟩⟩))))
            case f =>
              refine da_nil (.inl ⟨_, rfl, dw_fld (ds := []) pf.cl pf.an (dw_v rfl ⟨_, ansD (some ps), rfl, rfl, okP_prs _, okP_prs _, _, rfl, ?_⟩)⟩)
              show ifB (PyData.eqv (pln (.tup (prsD (qs.filter fun q => decide (q.1 ≤ reach))))) (pln (.tup (prsD ps)))) _ _
              rw [eqv_prs]
              refine ifB_d (fun h => dw_non ?_) (fun h => dw_tup (da_cons (dw_str (da_cons (dw_int (da_nil ⟨szl, ?_⟩))))))
              · rw [if_pos h] at hf; exact hf
              · rw [if_neg h] at hf; exact hf
end
end N
set_option Elab.async false
set_option linter.all false
set_option maxRecDepth 100000
set_option maxHeartbeats 1000000
namespace N
open PySem
open PySem.Spec
open PyProof.Rows
open L2
/-! Q13: is_within_paper, answer_reach, tied, first_fault, is_right. -/
theorem cutD_map {α β : Type} (f : α → β) (l : List α) (lo hi : Option Int) : cutD (l.map f) lo hi = (cutD l lo hi).map f := by
  unfold cutD
  rw [List.length_map, ← List.map_drop, ← List.map_take]
def ansReach (ps : List (Int × Int)) (many : Int) : Option Int := if (ps.length : Int) = many then ps.getLast?.map (·.1) else none
theorem isN_flt (o : Option (Str × Int)) : isN (fltD o) = o.isNone := by
  cases o with
  | none => rfl
  | some p => rfl
theorem noRaw_flt (o : Option (Str × Int)) : noRaw (fltD o) = true := by
  cases o with
  | none => rfl
  | some p => rfl
section
variable {P : Program} {w : World} {K : PySem.W.Frag} {mg : Str → Option Value} {base : Heap} {T : List (Addr × Str)} {g C : Addr} {fd : FuncData}
def f_is_within_paper (n : Nat) : FT := fun ds Φ => ∃ (k0 : Kd) (form : Str) (lot : Lot) (room : Int) (st : List (Int × Itm)) (k : Kd) (v : List Int) (reach : Int) (sv : Sie) (vp : VP), ds = [ixD k0 form lot room, stD st, .str (kS k), vecD v, .int reach, sieD sv, vpD vp] ∧
  LotOk st lot ∧ lot.cnt ≤ 1000 ∧ StOk st ∧ Sv' v ∧ sv.depth ≤ n ∧ VpOk vp ∧ Φ (.bl (wfault k0 lot st k v reach sv vp).isNone)
theorem ok_is_within_paper (n : Nat) (C_within_fault : Cal P w K mg base (n + 10) "within_fault" p_within_fault (spP K T (f_within_fault n))) (F : FnT K "is_within_paper" s_is_within_paper g fd) : FnOk P w K mg base CX0 (n + 11) g fd p_is_within_paper (spP K T (f_is_within_paper n)) := by
  refine fn_okD (k := n + 10) bdOk0 F sc_is_within_paper (fun ds Φ h => ?_) (by decide) (fun cdv A outer s H XE B ds Φ hM hHI hT hr hf => ?_)
  · obtain ⟨_, _, _, _, _, _, _, _, _, _, rfl, _⟩ := h; rfl
  obtain ⟨k0, form, lot, room, st, k, v, reach, sv, vp, rfl, hlot, hcnt, hst, hv, hn, hvp, hf⟩ := hf
  subst hT
  refine dl_cons (ds_ret (dw_isN (dw_calP C_within_fault ‹Room _ _› (by omega) (da_cons (dw_v rfl (da_cons (dw_v rfl (da_cons (dw_v rfl (da_cons (dw_v rfl (da_cons (dw_v rfl (da_cons (dw_v rfl (da_cons (dw_v rfl (da_nil ⟨k0, form, lot, room, st, k, v, reach, sv, vp, rfl, hlot, hcnt, hst, hv, hn, hvp, dw_non ⟨rfl, noRaw_flt _, ?_⟩⟩))))))))))))))))))
  show Φ (.bl (isN (fltD (wfault k0 lot st k v reach sv vp))))
  rw [isN_flt]
  exact hf
def f_answer_reach : FT := fun ds Φ => ∃ (k : Kd) (v : List Int) (many : Int) (sv : Sie) (ps : List (Int × Int)), ds = [qD k v many sv, .tup (prsD ps)] ∧ 1 ≤ many ∧ Φ (optD (ansReach ps many))
theorem ok_answer_reach (bi : BI mg) (F : FnT K "answer_reach" s_answer_reach g fd) : FnOk P w K mg base CX0 1 g fd p_answer_reach (spP K T f_answer_reach) := by
  refine fn_okD bdOk0 F sc_answer_reach (fun ds Φ h => ?_) (by decide) (fun cdv A outer s H XE B ds Φ hM hHI hT hr hf => ?_)
  · obtain ⟨_, _, _, _, _, rfl, _⟩ := h; rfl
  obtain ⟨k, v, many, sv, ps, rfl, h1, hf⟩ := hf
  subst hT
  unfold ansReach at hf
  refine dl_cons (ds_ret (dw_if (dt_eq (dw_len bi.len (da_cons (dw_v rfl (da_nil (.inr (.inl ⟨_, rfl, dw_at (dw_v rfl (dw_int ⟨_, rfl, _, rfl, ifB_d (fun h => ?a) (fun h => dw_non ?b)⟩))⟩)))))))))
  case a =>
    rw [List.length_map] at h
    rw [if_pos h] at hf
    obtain ⟨x, hx⟩ : ∃ x, ps.getLast? = some x := by
      cases ps with
      | nil => simp at h; omega
      | cons a r => exact ⟨_, List.getLast?_eq_some_getLast (by simp)⟩
    obtain ⟨ys, rfl⟩ := List.getLast?_eq_some_iff.mp hx
    rw [hx] at hf
    refine dw_at (dw_at (dw_v rfl (dw_neg (dw_int ⟨_, rfl, prT x, ?_, dw_int ⟨_, rfl, hf⟩⟩))))
    rw [show prsD (ys ++ [x]) = prsD ys ++ [prT x] from List.map_append]
    exact atI_last _ _
  case b =>
    rw [List.length_map] at h
    rw [if_neg h] at hf
    exact hf
def tiedOf (qs : List (Int × Int)) (n : Nat) (reach : Option Int) : List (Int × Int) := (cutD qs (some (n : Int)) none).filter fun q => decide (some q.1 = reach)
def f_tied (n : Nat) : FT := fun ds Φ => ∃ (k0 : Kd) (form : Str) (lot : Lot) (room : Int) (st : List (Int × Itm)) (k : Kd) (v : List Int) (many : Int) (sv : Sie) (ps : List (Int × Int)) (s : Dt) (qs : List (Int × Int)), ds = [ixD k0 form lot room, stD st, qD k v many sv, papD (.tup (prsD ps)) s] ∧
  LotOk st lot ∧ lot.cnt ≤ 1000 ∧ StOk st ∧ Sv' v ∧ sv.depth ≤ n ∧ stpOk s ∧ 1 ≤ many ∧ lookP k v sv (ansReach ps many) lot st s = .inr qs ∧ Φ (.tup (prsD (tiedOf qs ps.length (ansReach ps many))))
theorem ok_tied (bi : BI mg) (n : Nat) (pf : PapF K mg) (C_answer_reach : Cal P w K mg base 1 "answer_reach" p_answer_reach (spP K T f_answer_reach)) (C_looked : Cal P w K mg base (n + 9) "looked" p_looked (spP K T fun ds Φ => f_looked n ds Φ fun _ => False)) (F : FnT K "tied" s_tied g fd) : FnOk P w K mg base CX0 (n + 10) g fd p_tied (spP K T (f_tied n)) := by
  refine fn_okD (k := n + 9) bdOk0 F sc_tied (fun ds Φ h => ?_) (by decide) (fun cdv A outer s H XE B ds Φ hM hHI hT hr hf => ?_)
  · obtain ⟨_, _, _, _, _, _, _, _, _, _, _, _, rfl, _⟩ := h; rfl
  obtain ⟨k0, form, lot, room, st, k, v, many, sv, ps, s, qs, rfl, hlot, hcnt, hst, hv, hn, hs, h1, hl, hf⟩ := hf
  subst hT
  refine dl_cons (ds_asg (dg_tup (n := 4) rfl (dgs_cons (dg_v sc_tied.nd) (dgs_cons (dg_v sc_tied.nd) (dgs_cons (dg_v sc_tied.nd) (dgs_cons (dg_v sc_tied.nd) (dgs_nil)))))) (dw_v rfl (⟨rfl, rfl, ?_⟩)))
  refine dl_cons (ds_s sc_tied.nd (dw_calP C_answer_reach ‹Room _ _› (by omega) (da_cons (dw_v rfl (da_cons (dw_fld (ds := []) pf.cl pf.an (dw_v rfl ⟨_, _, rfl, rfl, da_nil ⟨k, v, many, sv, ps, rfl, h1, ?_⟩⟩)))))))
  refine dl_cons (ds_s sc_tied.nd (dw_calP C_looked ‹Room _ _› (by omega) (da_cons (dw_v rfl (da_cons (dw_v rfl (da_cons (dw_v rfl (da_cons (dw_v rfl (da_cons (dw_v rfl (da_cons (dw_v rfl (da_cons (dw_fld (ds := []) pf.cl pf.sn (dw_v rfl ⟨_, s, rfl, rfl, da_nil (look_of (k := k) (k0 := k0) (form := form) (room := room) (reach := ansReach ps many) hlot hcnt hst hv hn hs ?_)⟩)))))))))))))))))
  rw [hl]
  refine dl_cons (ds_ret (dw_tuple bi.tuple (da_cons (dw_n (dn_l [("pair", 10)] sc_tied.nd (show BlkOk n_tied (defScope s_tied) _ _ from ⟨rfl, by decide +kernel, by decide +kernel, by decide +kernel, by decide +kernel⟩) (lcE [("pair", 10)] (fun _ _ _ _ _ _ _ => dg_name 10 sc_tied.nd) (by decide) (di_tup (dw_slT (dw_v rfl ⟨_, rfl, do_some (dw_len bi.len (da_cons (dw_fld (ds := []) pf.cl pf.an (dw_v rfl ⟨_, .tup (prsD ps), rfl, rfl, da_nil (.inr (.inl ⟨_, rfl, _, rfl, do_none ⟨_, rfl, cutD qs (some (ps.length : Int)) none, prT, fun q => decide (some q.1 = ansReach ps many), prT, ?e, ?t, ?f⟩⟩))⟩))))⟩)))))))))
  case e => rw [List.length_map]; exact cutD_map prT qs _ _
  case t =>
    intro gl ow x hx
    refine fun s H C cl fp => dq_one (DT.im (Ψ' := fun z => z = decide (some x.1 = ansReach ps many)) ?tt fun z hz => ⟨hz, fun _ s H C cl fp => dw_v rfl rfl⟩)
    cases ansReach ps many with
    | none => exact dt_eq (dw_at (dw_v rfl (dw_int ⟨_, rfl, dw_v rfl ⟨_, rfl, by simp⟩⟩)))
    | some r => exact dt_eq (dw_at (dw_v rfl (dw_int ⟨_, rfl, dw_v rfl ⟨_, rfl, by simp⟩⟩)))
  case f => exact da_nil (.inl ⟨_, rfl, hf⟩)
def ffOut (ps : List (Int × Int)) (many : Int) : Int ⊕ List (Int × Int) → Option (Str × Int)
  | .inl i => some ("step", i)
  | .inr qs => if cutD qs none (some many) = ps then none else some ("answer", 1)
def ffault (lot : Lot) (st : List (Int × Itm)) (k : Kd) (v : List Int) (many : Int) (sv : Sie) (ps : List (Int × Int)) (s : Dt) : Option (Str × Int) :=
  if formA (some ps) (some many) then ffOut ps many (lookP k v sv (ansReach ps many) lot st s) else some ("answer", 0)
def f_first_fault (n : Nat) : FT := fun ds Φ => ∃ (form : Str) (lot : Lot) (room : Int) (st : List (Int × Itm)) (k : Kd) (v : List Int) (many : Int) (sv : Sie) (ps : List (Int × Int)) (s : Dt), ds = [ixD k form lot room, stD st, qD k v many sv, papD (.tup (prsD ps)) s] ∧
  LotOk st lot ∧ lot.cnt ≤ 1000 ∧ StOk st ∧ Sv' v ∧ sv.depth ≤ n ∧ stpOk s ∧ 1 ≤ many ∧ Φ (fltD (ffault lot st k v many sv ps s))
theorem ok_first_fault (bi : BI mg) (n : Nat) (ipf : IPF K mg C) (pf : PapF K mg) (xf : IxF K) (LK : LkX P w K mg base C T n) (C_answer_reach : Cal P w K mg base 1 "answer_reach" p_answer_reach (spP K T f_answer_reach)) (C_is_answer_form : Cal P w K mg base 3 "is_answer_form" p_is_answer_form (spP K T f_is_answer_form)) (F : FnT K "first_fault" s_first_fault g fd) : FnOk P w K mg base CX0 (n + 10) g fd p_first_fault (spP K T (f_first_fault n)) := by
  refine fn_okD (k := n + 9) bdOk0 F sc_first_fault (fun ds Φ h => ?_) (by decide) (fun cdv A outer s H XE B ds Φ hM hHI hT hr hf => ?_)
  · obtain ⟨_, _, _, _, _, _, _, _, _, _, rfl, _⟩ := h; rfl
  obtain ⟨form, lot, room, st, k, v, many, sv, ps, s, rfl, hlot, hcnt, hst, hv, hn, hs, h1, hf⟩ := hf
  subst hT
  obtain ⟨gl, fdl, FL, hml, hkl, hbl⟩ := LK.ex
  unfold ffault at hf
  refine dl_cons (ds_asg (dg_tup (n := 4) rfl (dgs_cons (dg_v sc_first_fault.nd) (dgs_cons (dg_v sc_first_fault.nd) (dgs_cons (dg_v sc_first_fault.nd) (dgs_cons (dg_v sc_first_fault.nd) (dgs_nil)))))) (dw_v rfl (⟨rfl, rfl, ?_⟩)))
  refine dl_cons (ds_if (dt_w (dtw_or (dt_not (dt_val (dw_isC pf.is bi.isinstance (da_cons (dw_v rfl (da_cons (dw_glob (v := .ref (He.ga K "Paper")) rfl pf.mg rfl (da_nil ⟨papD (.tup (prsD ps)) s, true, rfl, rfl, true, rfl, ifB_f ?_⟩)))))))))))
  refine dtw_or1 (dt_ne (dw_fld (ds := []) xf.cl xf.kn (dw_v rfl ⟨_, _, rfl, rfl, dw_v rfl ⟨_, rfl, ifB_n (fun h => (h rfl).elim) (fun h => dl_nil ?_)⟩⟩)))
  refine dl_cons (ds_if (dt_not (dt_val (dw_calP C_is_answer_form ‹Room _ _› (by omega) (da_cons (dw_fld (ds := []) pf.cl pf.an (dw_v rfl ⟨_, .tup (prsD ps), rfl, rfl, da_cons (dw_v rfl (da_nil ⟨some ps, some many, rfl, _, rfl, ?_⟩))⟩)))))))
  cases hfa : formA (some ps) (some many) with
  | false =>
    rw [hfa, if_neg (by decide)] at hf
    exact ifB_t (dl_cons (ds_ret (dw_tup (da_cons (dw_str (da_cons (dw_int (da_nil ⟨szl, hf⟩))))))))
  | true =>
    rw [hfa, if_pos rfl] at hf
    refine ifB_f (dl_nil (dl_cons (ds_try FL hr hml hkl hbl hM hHI ipf.xf ipf.at_ ipf.mg ipf.ex 8 9 sc_first_fault.nd ⟨_, rfl⟩ (fun pn xe => da_cons (dw_v rfl (da_cons (dw_v rfl (da_cons (dw_v rfl (da_cons (dw_v rfl (da_cons (dw_v rfl (da_cons (dw_calP C_answer_reach hr (by omega) (da_cons (dw_v rfl (da_cons (dw_fld (ds := []) pf.cl pf.an (dw_v rfl ⟨_, .tup (prsD ps), rfl, rfl, da_nil ⟨k, v, many, sv, ps, rfl, h1, da_cons (dw_fld (ds := []) pf.cl pf.sn (dw_v rfl ⟨_, s, rfl, rfl, da_nil (look_of (k := k) (k0 := k) (form := form) (room := room) (reach := ansReach ps many) hlot hcnt hst hv hn hs ?_)⟩))⟩⟩))))))))))))))))))))
    cases hl : lookP k v sv (ansReach ps many) lot st s with
    | inl i => rw [hl] at hf; exact hf
    | inr qs =>
      rw [hl] at hf
      have hf : Φ (fltD (if cutD qs none (some many) = ps then none else some ("answer", 1))) := hf
      refine dl_cons (ds_ret (dw_if (dt_eqD hr.units (dw_slT (dw_v rfl ⟨_, rfl, do_none (do_some (dw_v rfl ⟨_, rfl, dw_fld (ds := []) pf.cl pf.an (dw_v rfl ⟨_, .tup (prsD ps), rfl, rfl, ?_⟩)⟩))⟩)))))
      rw [show cutD (prsD qs) none (some many) = prsD (cutD qs none (some many)) from cutD_map prT qs _ _]
      refine ⟨okP_prs _, okP_prs _, _, rfl, ?_⟩
      show ifB (PyData.eqv (pln (.tup (prsD (cutD qs none (some many))))) (pln (.tup (prsD ps)))) _ _
      rw [eqv_prs]
      refine ifB_d (fun h => dw_non ?_) (fun h => dw_tup (da_cons (dw_str (da_cons (dw_int (da_nil ⟨szl, ?_⟩))))))
      · rw [if_pos h] at hf; exact hf
      · rw [if_neg h] at hf; exact hf
def f_is_right (n : Nat) : FT := fun ds Φ => ∃ (form : Str) (lot : Lot) (room : Int) (st : List (Int × Itm)) (k : Kd) (v : List Int) (many : Int) (sv : Sie) (ps : List (Int × Int)) (s : Dt), ds = [ixD k form lot room, stD st, qD k v many sv, papD (.tup (prsD ps)) s] ∧
  LotOk st lot ∧ lot.cnt ≤ 1000 ∧ StOk st ∧ Sv' v ∧ sv.depth ≤ n ∧ stpOk s ∧ 1 ≤ many ∧ Φ (.bl (ffault lot st k v many sv ps s).isNone)
theorem ok_is_right (n : Nat) (C_first_fault : Cal P w K mg base (n + 10) "first_fault" p_first_fault (spP K T (f_first_fault n))) (F : FnT K "is_right" s_is_right g fd) : FnOk P w K mg base CX0 (n + 11) g fd p_is_right (spP K T (f_is_right n)) := by
  refine fn_okD (k := n + 10) bdOk0 F sc_is_right (fun ds Φ h => ?_) (by decide) (fun cdv A outer s H XE B ds Φ hM hHI hT hr hf => ?_)
  · obtain ⟨_, _, _, _, _, _, _, _, _, _, rfl, _⟩ := h; rfl
  obtain ⟨form, lot, room, st, k, v, many, sv, ps, s, rfl, hlot, hcnt, hst, hv, hn, hs, h1, hf⟩ := hf
  subst hT
  refine dl_cons (ds_ret (dw_isN (dw_calP C_first_fault ‹Room _ _› (by omega) (da_cons (dw_v rfl (da_cons (dw_v rfl (da_cons (dw_v rfl (da_cons (dw_v rfl (da_nil ⟨form, lot, room, st, k, v, many, sv, ps, s, rfl, hlot, hcnt, hst, hv, hn, hs, h1, dw_non ⟨rfl, noRaw_flt _, ?_⟩⟩))))))))))))
  show Φ (.bl (isN (fltD (ffault lot st k v many sv ps s))))
  rw [isN_flt]
  exact hf
end
end N
set_option Elab.async false
set_option linter.all false
set_option maxRecDepth 100000
set_option maxHeartbeats 1000000
namespace N
open PySem
open PySem.Spec
open PyProof.Rows
open L2
/-! R1: the law's measure and sieve. -/
section
variable {P : Program} {w : World} {K : PySem.W.Frag} {mg : Str → Option Value} {base : Heap} {T : List (Addr × Str)} {g C : Addr} {fd : FuncData}
def sizes (a b : List Int) : List Int := (diffs a b).map iabs
theorem range_sizes (a b : List Int) (h : a.length = b.length) : (List.range a.length).map (fun i => iabs (a.getD i 0 - b.getD i 0)) = sizes a b := by
  apply List.ext_getElem?
  intro i
  unfold sizes diffs
  rw [List.getElem?_map, List.getElem?_map, List.getElem?_zipWith]
  by_cases hi : i < a.length
  · rw [List.getElem?_range hi, List.getElem?_eq_getElem hi, List.getElem?_eq_getElem (h ▸ hi)]
    simp [List.getD, List.getElem?_eq_getElem hi, List.getElem?_eq_getElem (h ▸ hi : i < b.length)]
  · rw [List.getElem?_eq_none (by rw [List.length_range]; omega), List.getElem?_eq_none (show a.length ≤ i by omega)]
    rfl
theorem iabs_sq (d : Int) : iabs d * iabs d = d * d := by
  unfold iabs
  split
  · rw [Int.neg_mul_neg]
  · rfl
theorem unlike_len : ∀ l : List Int, (((l.map iabs).filter fun s => decide (s > 0)).length : Int) = (l.map (partOf .unlike)).sum
  | [] => rfl
  | d :: l => by
    have h := unlike_len l
    rw [List.map_cons, List.map_cons, List.sum_cons, List.filter_cons, ← h]
    by_cases e : d = 0
    · subst e; simp [iabs, partOf]
    · have hp : iabs d > 0 := by unfold iabs; split <;> omega
      simp only [hp, decide_true, if_true, List.length_cons, partOf, if_pos e]
      omega
theorem maxD0_eq {l : List Int} {m : Int} (h1 : m ∈ l) (h2 : ∀ y, y ∈ l → y ≤ m) : maxD0 l = m := by
  cases l with
  | nil => cases h1
  | cons a t =>
    have key : ∀ (t : List Int) (a : Int), a ≤ t.foldl max a ∧ ∀ y ∈ t, y ≤ t.foldl max a := by
      intro t
      induction t with
      | nil => exact fun a => ⟨Int.le_refl _, fun y h => by cases h⟩
      | cons b t ih =>
        intro a
        obtain ⟨i1, i2⟩ := ih (max a b)
        rw [List.foldl_cons]
        refine ⟨Int.le_trans (Int.le_max_left a b) i1, fun y hy => ?_⟩
        rcases List.mem_cons.mp hy with rfl | hy
        · exact Int.le_trans (Int.le_max_right a y) i1
        · exact i2 y hy
    have hm : maxD0 (a :: t) ≤ m := by
      rcases foldl_max_mem t a with e | e
      · show t.foldl max a ≤ m
        rw [e]; exact h2 a List.mem_cons_self
      · exact h2 _ (List.mem_cons_of_mem _ e)
    have hm2 : m ≤ maxD0 (a :: t) := by
      rcases List.mem_cons.mp h1 with rfl | h
      · exact (key t m).1
      · exact (key t a).2 m h
    omega
theorem sizes_mem {a b : List Int} (ha : Sv' a) (hb : Sv' b) {i : Int} (h : i ∈ sizes a b) : 0 ≤ i ∧ i ≤ 3000 := by
  obtain ⟨d, hd, rfl⟩ := List.mem_map.mp h
  have := diffs_mem ha hb hd
  unfold iabs
  split <;> omega
def f_law_distance : FT := fun ds Φ => ∃ (k : Kd) (a b : List Int), ds = [.str (kS k), vecD a, vecD b] ∧ Sv' a ∧ Sv' b ∧ a.length = b.length ∧ a ≠ [] ∧ Φ (.int (dist k a b))
theorem ok_law_distance (bi : BI mg) (F : FnT K "_law_distance" s__law_distance g fd) : FnOk P w K mg base CX0 1 g fd p__law_distance (spP K T f_law_distance) := by
  refine fn_okD bdOk0 F sc__law_distance (fun ds Φ h => ?_) (by decide) (fun cdv A outer s H XE B ds Φ hM hHI hT hr hf => ?_)
  · obtain ⟨_, _, _, rfl, _⟩ := h; rfl
  obtain ⟨k, a, b, rfl, ha, hb, hl, hne, hf⟩ := hf
  subst hT
  refine dl_cons (ds_setLd (ixS n__law_distance "_law_sizes") [("_law_at", 4)] sc__law_distance.nd (show BlkOk n__law_distance (defScope s__law_distance) _ _ from ⟨rfl, by decide +kernel, by decide +kernel, by decide +kernel, by decide +kernel⟩) (lcE [("_law_at", 4)] (fun _ _ _ _ _ _ _ => dg_name 4 sc__law_distance.nd) (by decide) (di_rng1 bi.range (da_cons (dw_len bi.len (da_cons (dw_v rfl (da_nil (.inr (.inl ⟨_, rfl, da_nil ⟨_, rfl, ?r1, ?r2, List.range a.length, fun i => .int (0 + (i : Nat)), fun _ => true, fun i => .int (iabs (a.getD i 0 - b.getD i 0)), ?e, ?t, ?f⟩⟩))))))))))
  case r1 => rw [List.length_map]; have := ha.1; omega
  case r2 => omega
  case e => rw [List.length_map, Int.toNat_natCast]; rfl
  case t =>
    intro gl ow i hi
    have hi := List.mem_range.mp hi
    have h1 : atI (a.map Dt.int) (0 + (i : Nat)) = some (.int (a.getD i 0)) := by
      rw [Int.zero_add]
      exact atI_nat (by rw [List.getElem?_map, List.getElem?_eq_getElem hi]; simp [List.getD, List.getElem?_eq_getElem hi])
    have hi2 : i < b.length := hl ▸ hi
    have h2 : atI (b.map Dt.int) (0 + (i : Nat)) = some (.int (b.getD i 0)) := by
      rw [Int.zero_add]
      exact atI_nat (by rw [List.getElem?_map, List.getElem?_eq_getElem hi2]; simp [List.getD, List.getElem?_eq_getElem hi2])
    exact fun s H C cl fp => dq_nil ⟨rfl, fun _ s H C cl fp => dw_abs bi.abs (da_cons (dw_sub (dw_at (dw_v rfl (dw_v rfl ⟨_, h1, dw_at (dw_v rfl (dw_v rfl ⟨_, h2, da_nil ⟨_, rfl, rfl⟩⟩))⟩)))))⟩
  case f =>
    have es : ((List.range a.length).filter fun _ => true).map (fun i => Dt.int (iabs (a.getD i 0 - b.getD i 0))) = (sizes a b).map .int := by
      rw [filter_tt, ← range_sizes a b hl, List.map_map]; rfl
    rw [es]
    refine dl_cons (ds_if (dt_eq (dw_v rfl (dw_str ⟨_, rfl, ifB_d (fun h => ?h1) (fun h => dl_nil ?h2)⟩))))
    case h1 =>
      cases kS_inj (b := .square) h
      refine dl_cons (ds_ret (dw_sum bi.sum (da_cons (dw_n (dn_l [("_law_size", 5)] sc__law_distance.nd (show BlkOk n__law_distance (defScope s__law_distance) _ _ from ⟨rfl, by decide +kernel, by decide +kernel, by decide +kernel, by decide +kernel⟩) (lcE [("_law_size", 5)] (fun _ _ _ _ _ _ _ => dg_name 5 sc__law_distance.nd) (by decide) (di_lst (dw_v rfl ⟨_, rfl, sizes a b, .int, fun _ => true, fun i => .int (i * i), rfl, ?t, ?f⟩))))))))
      case t =>
        intro gl ow i hi
        have := sizes_mem ha hb hi
        exact fun s H C cl fp => dq_nil ⟨rfl, fun _ s H C cl fp => dw_mul (dw_v rfl (dw_v rfl ⟨.inl ⟨by omega, by omega⟩, rfl⟩))⟩
      case f =>
        refine da_nil ⟨(sizes a b).map fun i => i * i, by rw [filter_tt, List.map_map]; rfl, ?_⟩
        have e : (sizes a b).map (fun i => i * i) = (diffs a b).map (partOf .square) := by
          unfold sizes
          rw [List.map_map]
          exact List.map_congr_left fun d _ => iabs_sq d
        rw [e]; exact hf
    case h2 =>
      refine dl_cons (ds_if (dt_eq (dw_v rfl (dw_str ⟨_, rfl, ifB_d (fun h => ?h3) (fun h => dl_nil ?h4)⟩))))
      case h3 =>
        cases kS_inj (b := .unlike) h
        refine dl_cons (ds_ret (dw_len bi.len (da_cons (dw_n (dn_l [("_law_size", 5)] sc__law_distance.nd (show BlkOk n__law_distance (defScope s__law_distance) _ _ from ⟨rfl, by decide +kernel, by decide +kernel, by decide +kernel, by decide +kernel⟩) (lcE [("_law_size", 5)] (fun _ _ _ _ _ _ _ => dg_name 5 sc__law_distance.nd) (by decide) (di_lst (dw_v rfl ⟨_, rfl, sizes a b, .int, fun i => decide (i > 0), .int, rfl, ?t2, ?f2⟩))))))))
        case t2 =>
          intro gl ow i hi
          exact fun s H C cl fp => dq_one (dt_gt (dw_v rfl (dw_int ⟨_, rfl, rfl, fun _ s H C cl fp => dw_v rfl rfl⟩)))
        case f2 =>
          refine da_nil (.inl ⟨_, rfl, ?_⟩)
          rw [List.length_map]
          have e := unlike_len (diffs a b)
          unfold sizes
          rw [e]; exact hf
      case h4 =>
        rename_i hn1
        refine dl_cons (ds_ret (dw_if (dt_eq (dw_v rfl (dw_str ⟨_, rfl, ifB_d (fun h => ?h5) (fun h => ?h6)⟩)))))
        case h5 =>
          cases kS_inj (b := .sum) h
          exact dw_sum bi.sum (da_cons (dw_v rfl (da_nil ⟨sizes a b, rfl, hf⟩)))
        case h6 =>
          have hk : k = .most := by
            rename_i hn2
            cases k <;> first | rfl | exact (hn1 rfl).elim | exact (hn2 rfl).elim | exact (h rfl).elim
          subst hk
          have hsl : (sizes a b).length = a.length := by unfold sizes diffs; rw [List.length_map, List.length_zipWith]; omega
          refine dw_maxL bi.max (da_cons (dw_v rfl (da_nil ⟨sizes a b, rfl, ?_, fun m h1 h2 => ?_⟩)))
          · rw [hsl]; exact List.length_pos_iff.mpr hne
          · have e := maxD0_eq h1 h2
            rw [← e]; exact hf
end
end N
set_option Elab.async false
set_option linter.all false
set_option maxRecDepth 100000
set_option maxHeartbeats 1000000
namespace N
open PySem
open PySem.Spec
open PyProof.Rows
open L2
/-! R2: the law's sieve, its pairs. -/
section
variable {P : Program} {w : World} {K : PySem.W.Frag} {mg : Str → Option Value} {base : Heap} {T : List (Addr × Str)} {g C : Addr} {fd : FuncData}
theorem label_some : ∀ (l : List (Str × Int)) (n : Str), (labelIn l n).isSome = decide (n ∈ l.map (·.1))
  | [], n => rfl
  | (m, v) :: l, n => by
    have h := label_some l n
    show (if m = n then some v else labelIn l n).isSome = _
    by_cases e : m = n
    · rw [if_pos e]; subst e; simp
    · rw [if_neg e, h]
      congr 1
      rw [List.map_cons, List.mem_cons]
      exact propext ⟨fun h => .inr h, fun h => h.elim (fun q => (e q.symm).elim) id⟩
def inLab (n : Str) (lo hi : Int) (x : Str × Int) : Bool := decide (x.1 = n) && decide (lo ≤ x.2 ∧ x.2 ≤ hi)
theorem label_any : ∀ (l : List (Str × Int)) (n : Str) (lo hi : Int), (l.map (·.1)).Nodup → l.any (inLab n lo hi) = lets (.rng n lo hi) l
  | [], n, lo, hi, _ => rfl
  | (m, v) :: l, n, lo, hi, nd => by
    rw [List.map_cons] at nd
    obtain ⟨hm, nd⟩ := List.nodup_cons.mp nd
    have h := label_any l n lo hi nd
    rw [List.any_cons]
    by_cases e : m = n
    · subst e
      have hno : l.any (inLab m lo hi) = false := by
        rw [List.any_eq_false]
        intro x hx q
        unfold inLab at q
        have : x.1 = m := of_decide_eq_true (Bool.and_eq_true_iff.mp q).1
        exact hm (List.mem_map.mpr ⟨x, hx, this⟩)
      rw [hno, Bool.or_false]
      unfold lets labelIn
      rw [if_pos rfl]
      show (decide (m = m) && decide (lo ≤ v ∧ v ≤ hi)) = decide (lo ≤ v ∧ v ≤ hi)
      simp
    · rw [h]
      have e1 : inLab n lo hi (m, v) = false := by unfold inLab; rw [decide_eq_false e, Bool.false_and]
      rw [e1, Bool.false_or]
      show lets (.rng n lo hi) l = lets (.rng n lo hi) ((m, v) :: l)
      unfold lets
      rw [show labelIn ((m, v) :: l) n = labelIn l n from if_neg e]
def f_law_passes (n : Nat) : FT := fun ds Φ => ∃ (s : Sie) (l : List (Str × Int)), ds = [sieD s, labsD l] ∧ s.depth ≤ n ∧ (l.map (·.1)).Nodup ∧ Φ (.bl (lets s l))
theorem ok_law_passes (bi : BI mg) (n : Nat) (IH : ∀ m, m + 1 = n → Cal P w K mg base (m + 1) "_law_passes" p__law_passes (spP K T (f_law_passes m))) (F : FnT K "_law_passes" s__law_passes g fd) : FnOk P w K mg base CX0 (n + 1) g fd p__law_passes (spP K T (f_law_passes n)) := by
  refine fn_okD (k := n) bdOk0 F sc__law_passes (fun ds Φ h => ?_) (by decide) (fun cdv A outer s H XE B ds Φ hM hHI hT hr hf => ?_)
  · obtain ⟨x, y, rfl, _⟩ := h; rfl
  obtain ⟨sv, l, rfl, hn, hnd, hf⟩ := hf
  subst hT
  cases sv with
  | has nm =>
    refine dl_cons (ds_s sc__law_passes.nd (dw_at (dw_v rfl (dw_int ⟨_, rfl, ?_⟩))))
    refine dl_cons (ds_if (dt_eq (dw_v rfl (dw_str ⟨true, rfl, ifB_t ?_⟩))))
    refine dl_cons (ds_ret (dw_inS (dw_at (dw_v rfl (dw_int ⟨_, rfl, dw_n (dn_l [("_law_name", 3), ("_law_value", 4)] sc__law_passes.nd (show BlkOk n__law_passes (defScope s__law_passes) _ _ from ⟨rfl, by decide +kernel, by decide +kernel, by decide +kernel, by decide +kernel⟩) (lcE [("_law_name", 3), ("_law_value", 4)] (fun _ _ _ _ _ _ _ => dg_tup (n := 2) rfl (dgs_cons (dg_name 3 sc__law_passes.nd) (dgs_cons (dg_name 4 sc__law_passes.nd) dgs_nil))) (by decide) (di_tup (dw_v rfl ⟨_, rfl, l, labD, fun _ => true, fun x => .str x.1, rfl, ?t, ?f⟩))))⟩)))))
    case t =>
      intro gl ow x hx
      exact ⟨rfl, rfl, fun s H C cl fp => dq_nil ⟨rfl, fun _ s H C cl fp => dw_v rfl rfl⟩⟩
    case f =>
      refine ⟨nm, l.map (·.1), rfl, .inl (by rw [filter_tt, List.map_map]; rfl), ?_⟩
      have hf : Φ (.bl (labelIn l nm).isSome) := hf
      rw [label_some] at hf
      exact hf
  | rng nm lo hi =>
    refine dl_cons (ds_s sc__law_passes.nd (dw_at (dw_v rfl (dw_int ⟨_, rfl, ?_⟩))))
    refine dl_cons (ds_if (dt_eq (dw_v rfl (dw_str ⟨false, rfl, ifB_f (dl_nil ?_)⟩))))
    refine dl_cons (ds_if (dt_eq (dw_v rfl (dw_str ⟨true, rfl, ifB_t ?_⟩))))
    refine dl_cons (ds_ret (dw_any bi.any (da_cons (dw_n (dn_l [("_law_name", 3), ("_law_value", 4)] sc__law_passes.nd (show BlkOk n__law_passes (defScope s__law_passes) _ _ from ⟨rfl, by decide +kernel, by decide +kernel, by decide +kernel, by decide +kernel⟩) (lcE [("_law_name", 3), ("_law_value", 4)] (fun _ _ _ _ _ _ _ => dg_tup (n := 2) rfl (dgs_cons (dg_name 3 sc__law_passes.nd) (dgs_cons (dg_name 4 sc__law_passes.nd) dgs_nil))) (by decide) (di_tup (dw_v rfl ⟨_, rfl, l, labD, fun _ => true, fun x => .bl (inLab nm lo hi x), rfl, ?t2, ?f2⟩))))))))
    case t2 =>
      intro gl ow x hx
      refine ⟨rfl, rfl, fun s H C cl fp => dq_nil ⟨rfl, fun _ s H C cl fp => dw_and (dw_eq (dw_v rfl (dw_at (dw_v rfl (dw_int ⟨_, rfl, _, rfl, ifB_d (fun h => dw_one ?c1) (fun h => ?c2)⟩)))))⟩⟩
      case c2 =>
        show Dt.bl false = Dt.bl (decide (x.1 = nm) && decide (lo ≤ x.2 ∧ x.2 ≤ hi))
        rw [decide_eq_false h, Bool.false_and]
      case c1 =>
        refine dw_chain op_le (okI0 fun _ _ _ _ => .bl _) op_le (okI0 fun _ _ _ _ => .bl _) (dw_at (dw_v rfl (dw_int ⟨_, rfl, dw_v rfl ⟨_, rfl, ifB_d (fun h2 => ?c3) (fun h2 => ?c4)⟩⟩)))
        case c3 =>
          refine dw_at (dw_v rfl (dw_int ⟨_, rfl, ?_⟩))
          show Dt.bl (decide (x.2 ≤ hi)) = Dt.bl (decide (x.1 = nm) && decide (lo ≤ x.2 ∧ x.2 ≤ hi))
          rw [decide_eq_true h, Bool.true_and]
          congr 1
          exact decide_eq_decide.mpr ⟨fun q => ⟨h2, q⟩, fun q => q.2⟩
        case c4 =>
          show Dt.bl false = Dt.bl (decide (x.1 = nm) && decide (lo ≤ x.2 ∧ x.2 ≤ hi))
          rw [decide_eq_false (show ¬ (lo ≤ x.2 ∧ x.2 ≤ hi) from fun q => h2 q.1), Bool.and_false]
    case f2 =>
      refine da_nil ⟨l.map (inLab nm lo hi), by rw [filter_tt, List.map_map]; rfl, ?_⟩
      rw [List.any_map, show ((_root_.id : Bool → Bool) ∘ inLab nm lo hi) = inLab nm lo hi from rfl, label_any l nm lo hi hnd]
      exact hf
  | nt a =>
    refine dl_cons (ds_s sc__law_passes.nd (dw_at (dw_v rfl (dw_int ⟨_, rfl, ?_⟩))))
    refine dl_cons (ds_if (dt_eq (dw_v rfl (dw_str ⟨false, rfl, ifB_f (dl_nil ?_)⟩))))
    refine dl_cons (ds_if (dt_eq (dw_v rfl (dw_str ⟨false, rfl, ifB_f (dl_nil ?_)⟩))))
    obtain ⟨m, rfl⟩ : ∃ m, n = m + 1 := ⟨n - 1, by simp only [Sie.depth] at hn; omega⟩
    refine dl_cons (ds_if (dt_eq (dw_v rfl (dw_str ⟨true, rfl, ifB_t ?_⟩))))
    exact dl_cons (ds_ret (dw_not (dw_calP (IH m rfl) ‹Room _ _› (by omega) (da_cons (dw_at (dw_v rfl (dw_int ⟨_, rfl, da_cons (dw_v rfl (da_nil ⟨a, l, rfl, by simp only [Sie.depth] at hn; omega, hnd, _, rfl, hf⟩))⟩)))))))
  | an a b =>
    refine dl_cons (ds_s sc__law_passes.nd (dw_at (dw_v rfl (dw_int ⟨_, rfl, ?_⟩))))
    refine dl_cons (ds_if (dt_eq (dw_v rfl (dw_str ⟨false, rfl, ifB_f (dl_nil ?_)⟩))))
    refine dl_cons (ds_if (dt_eq (dw_v rfl (dw_str ⟨false, rfl, ifB_f (dl_nil ?_)⟩))))
    refine dl_cons (ds_if (dt_eq (dw_v rfl (dw_str ⟨false, rfl, ifB_f (dl_nil ?_)⟩))))
    obtain ⟨m, rfl⟩ : ∃ m, n = m + 1 := ⟨n - 1, by simp only [Sie.depth] at hn; omega⟩
    refine dl_cons (ds_if (dt_eq (dw_v rfl (dw_str ⟨true, rfl, ifB_t ?_⟩))))
    refine dl_cons (ds_ret (dw_all bi.all (da_cons (dw_n (dn_l [("_law_part", 5)] sc__law_passes.nd (show BlkOk n__law_passes (defScope s__law_passes) _ _ from ⟨rfl, by decide +kernel, by decide +kernel, by decide +kernel, by decide +kernel⟩) (lcE [("_law_part", 5)] (fun _ _ _ _ _ _ _ => dg_name 5 sc__law_passes.nd) (by decide) (di_tup (dw_slT (dw_v rfl ⟨_, rfl, do_some (dw_int ⟨_, rfl, do_none ⟨_, rfl, [a, b], sieD, fun _ => true, fun s => .bl (lets s l), rfl, ?t3, ?f3⟩⟩)⟩)))))))))
    case t3 =>
      intro gl ow x hx
      have hd : x.depth ≤ m := by
        simp only [Sie.depth] at hn
        rcases List.mem_cons.mp hx with rfl | hx
        · omega
        · rw [List.mem_singleton.mp hx]; omega
      exact fun s H C cl fp => dq_nil ⟨rfl, fun _ s H C cl fp => dw_calP (IH m rfl) ‹Room _ _› (by omega) (da_cons (dw_v rfl (da_cons (dw_v rfl (da_nil ⟨x, l, rfl, hd, hnd, rfl⟩)))))⟩
    case f3 =>
      refine da_nil ⟨[lets a l, lets b l], rfl, ?_⟩
      have e : ([lets a l, lets b l].all id) = lets (.an a b) l := by simp [lets]
      rw [e]; exact hf
  | all =>
    refine dl_cons (ds_s sc__law_passes.nd (dw_at (dw_v rfl (dw_int ⟨_, rfl, ?_⟩))))
    refine dl_cons (ds_if (dt_eq (dw_v rfl (dw_str ⟨false, rfl, ifB_f (dl_nil ?_)⟩))))
    refine dl_cons (ds_if (dt_eq (dw_v rfl (dw_str ⟨false, rfl, ifB_f (dl_nil ?_)⟩))))
    refine dl_cons (ds_if (dt_eq (dw_v rfl (dw_str ⟨false, rfl, ifB_f (dl_nil ?_)⟩))))
    refine dl_cons (ds_if (dt_eq (dw_v rfl (dw_str ⟨false, rfl, ifB_f (dl_nil ?_)⟩))))
    exact dl_cons (ds_ret (dw_or (dw_eq (dw_v rfl (dw_str ⟨true, rfl, ifB_t hf⟩)))))
  | orr a b =>
    refine dl_cons (ds_s sc__law_passes.nd (dw_at (dw_v rfl (dw_int ⟨_, rfl, ?_⟩))))
    refine dl_cons (ds_if (dt_eq (dw_v rfl (dw_str ⟨false, rfl, ifB_f (dl_nil ?_)⟩))))
    refine dl_cons (ds_if (dt_eq (dw_v rfl (dw_str ⟨false, rfl, ifB_f (dl_nil ?_)⟩))))
    refine dl_cons (ds_if (dt_eq (dw_v rfl (dw_str ⟨false, rfl, ifB_f (dl_nil ?_)⟩))))
    refine dl_cons (ds_if (dt_eq (dw_v rfl (dw_str ⟨false, rfl, ifB_f (dl_nil ?_)⟩))))
    obtain ⟨m, rfl⟩ : ∃ m, n = m + 1 := ⟨n - 1, by simp only [Sie.depth] at hn; omega⟩
    refine dl_cons (ds_ret (dw_or (dw_eq (dw_v rfl (dw_str ⟨false, rfl, ifB_f (dw_one (dw_any bi.any (da_cons (dw_n (dn_l [("_law_part", 5)] sc__law_passes.nd (show BlkOk n__law_passes (defScope s__law_passes) _ _ from ⟨rfl, by decide +kernel, by decide +kernel, by decide +kernel, by decide +kernel⟩) (lcE [("_law_part", 5)] (fun _ _ _ _ _ _ _ => dg_name 5 sc__law_passes.nd) (by decide) (di_tup (dw_slT (dw_v rfl ⟨_, rfl, do_some (dw_int ⟨_, rfl, do_none ⟨_, rfl, [a, b], sieD, fun _ => true, fun s => .bl (lets s l), rfl, ?t4, ?f4⟩⟩)⟩)))))))))⟩)))))
    case t4 =>
      intro gl ow x hx
      have hd : x.depth ≤ m := by
        simp only [Sie.depth] at hn
        rcases List.mem_cons.mp hx with rfl | hx
        · omega
        · rw [List.mem_singleton.mp hx]; omega
      exact fun s H C cl fp => dq_nil ⟨rfl, fun _ s H C cl fp => dw_calP (IH m rfl) ‹Room _ _› (by omega) (da_cons (dw_v rfl (da_cons (dw_v rfl (da_nil ⟨x, l, rfl, hd, hnd, rfl⟩)))))⟩
    case f4 =>
      refine da_nil ⟨[lets a l, lets b l], rfl, ?_⟩
      have e : ([lets a l, lets b l].any id) = lets (.orr a b) l := by simp [lets]
      rw [e]; exact hf
theorem c_law_passes (bi : BI mg) (h : Hd K mg "_law_passes" s__law_passes p__law_passes) : ∀ n, Cal P w K mg base (n + 1) "_law_passes" p__law_passes (spP K T (f_law_passes n))
  | 0 => h.cal fun g fd F => ok_law_passes bi 0 (fun m e => by omega) F
  | n + 1 => h.cal fun g fd F => ok_law_passes bi (n + 1) (fun m e => by cases e; exact c_law_passes bi h n) F
end
end N
set_option Elab.async false
set_option linter.all false
set_option maxRecDepth 100000
set_option maxHeartbeats 1000000
namespace N
open PySem
open PySem.Spec
open PyProof.Rows
open L2
/-! R3: the law's pairs, its right words, its walk. -/
section
variable {X : Cx} {B : Bd} {E : Ev} {a b c : Expr} {pos : Pos} {Θ : List Dt → Prop}
theorem dn_if (h : DT X B E c fun z => ifB z (DN X B E a Θ) (DN X B E b Θ)) : DN X B E (.IfExp c a b pos) Θ := fun σ G H Q S q =>
  fE (pe_ifExp qT qE qE) (h σ G H _ S fun z G' H' S' g f => by
    cases z with
    | true => exact f.1 rfl σ G' H' Q S' fun p xs ds G2 H2 S2 g2 hp r hz f2 => q p xs ds G2 H2 S2 (g.tr g2) hp r hz f2
    | false => exact f.2 rfl σ G' H' Q S' fun p xs ds G2 H2 S2 g2 hp r hz f2 => q p xs ds G2 H2 S2 (g.tr g2) hp r hz f2)
end
/-- what the law's state is, over StOk -/
def StL (st : List (Int × Itm)) (m : Nat) : Prop := ∀ q ∈ st, q.2.key = q.1 ∧ (q.2.labs.map (·.1)).Nodup ∧ q.2.vec.length = m
section
variable {P : Program} {w : World} {K : PySem.W.Frag} {mg : Str → Option Value} {base : Heap} {T : List (Addr × Str)} {g C : Addr} {fd : FuncData}
def lawPairs (st : List (Int × Itm)) (k : Kd) (v : List Int) (s : Sie) (ks : List Int) : List (Int × Int) := (ks.filter fun i => lets s (getI st i).labs).map fun i => (dist k v (getI st i).vec, i)
theorem getI_ok {st : List (Int × Itm)} {i : Int} {d : Itm} (h : look st i = some d) : getI st i = d := by unfold getI; rw [h]; rfl
theorem lawPairs_eq {st : List (Int × Itm)} {m : Nat} (hL : StL st m) (k : Kd) (v : List Int) (s : Sie) : ∀ ks : List Int, (∀ i ∈ ks, ∃ d, look st i = some d) → lawPairs st k v s ks = pairsOf st k v s ks
  | [], _ => rfl
  | i :: ks, h => by
    have ih := lawPairs_eq hL k v s ks fun j hj => h j (List.mem_cons_of_mem _ hj)
    obtain ⟨d, hd⟩ := h i List.mem_cons_self
    have hk : (getI st i).key = i := by rw [getI_ok hd]; exact (hL _ (look_mem hd)).1
    unfold lawPairs pairsOf at ih ⊢
    rw [List.map_cons, List.filter_cons, List.filter_cons]
    cases hl : lets s (getI st i).labs with
    | false => simpa using ih
    | true =>
      simp only [if_true, List.map_cons]
      rw [ih, hk]
def f_law_pairs (n : Nat) : FT := fun ds Φ => ∃ (st : List (Int × Itm)) (k : Kd) (v : List Int) (s : Sie) (ks : List Int) (m : Nat), ds = [stD st, .str (kS k), vecD v, sieD s, .lst (ks.map .int)] ∧ s.depth ≤ n ∧ StOk st ∧ StL st m ∧ (∀ i ∈ ks, ∃ d, look st i = some d) ∧ Sv' v ∧ v.length = m ∧ v ≠ [] ∧ Φ (.lst (prsD (sortP (pairsOf st k v s ks))))
theorem ok_law_pairs (bi : BI mg) (n : Nat) (C_law_passes : Cal P w K mg base (n + 1) "_law_passes" p__law_passes (spP K T (f_law_passes n))) (C_law_distance : Cal P w K mg base 1 "_law_distance" p__law_distance (spP K T f_law_distance)) (F : FnT K "_law_pairs" s__law_pairs g fd) : FnOk P w K mg base CX0 (n + 2) g fd p__law_pairs (spP K T (f_law_pairs n)) := by
  refine fn_okD (k := n + 1) bdOk0 F sc__law_pairs (fun ds Φ h => ?_) (by decide) (fun cdv A outer s H XE B ds Φ hM hHI hT hr hf => ?_)
  · obtain ⟨_, _, _, _, _, _, rfl, _⟩ := h; rfl
  obtain ⟨st, k, v, sv, ks, m, rfl, hn, hst, hL, hks, hv, hvl, hvn, hf⟩ := hf
  subst hT
  have hu : (A.deeper (envOfC "_law_pairs" (defScope s__law_pairs) s.heap.objs.size g cdv)).units + 1 < cLine := by have := hr.units; omega
  refine dl_cons (ds_ret (dw_n (dn_sortP bi.sorted (da_cons (dw_n (dn_l [("_law_key", 5)] sc__law_pairs.nd (show BlkOk n__law_pairs (defScope s__law_pairs) _ _ from ⟨rfl, by decide +kernel, by decide +kernel, by decide +kernel, by decide +kernel⟩) (lcE [("_law_key", 5)] (fun _ _ _ _ _ _ _ => dg_name 5 sc__law_pairs.nd) (by decide) (di_lst (dw_v rfl ⟨_, rfl, ks, .int, fun i => lets sv (getI st i).labs, fun i => prT (dist k v (getI st i).vec, i), rfl, ?t, ?f⟩)))))))))
  case t =>
    intro gl ow i hi
    obtain ⟨d, hd⟩ := hks i hi
    have hg := getI_ok hd
    have hm := hL _ (look_mem hd)
    have hlk : lookD (st.map fun q => (q.1, itmD q.2)) i = some (itmD d) := by rw [look_st, hd]; rfl
    refine fun s H C cl fp => dq_one (dt_val (dw_calP C_law_passes ‹Room _ _› (by omega) (da_cons (dw_v rfl (da_cons (dw_at (dw_dget hu (dw_v rfl (dw_v rfl ⟨_, _, itmD d, rfl, rfl, hlk, dw_int ⟨_, rfl, da_nil ⟨sv, d.labs, rfl, hn, hm.2.1, _, rfl, ?_, fun _ s H C cl fp => ?_⟩⟩⟩)))))))))
    · show lets sv d.labs = lets sv (getI st i).labs
      rw [hg]
    · refine dw_tup (da_cons (dw_calP C_law_distance ‹Room _ _› (by omega) (da_cons (dw_v rfl (da_cons (dw_v rfl (da_cons (dw_at (dw_dget hu (dw_v rfl (dw_v rfl ⟨_, _, itmD d, rfl, rfl, hlk, dw_int ⟨_, rfl, da_nil ⟨k, v, d.vec, rfl, hv, hst.2 _ (look_mem hd), by rw [hvl]; exact hm.2.2.symm, hvn, da_cons (dw_v rfl (da_nil ⟨szl, ?_⟩))⟩⟩⟩)))))))))))
      show Dt.tup [Dt.int (dist k v d.vec), Dt.int i] = Dt.tup [Dt.int (dist k v (getI st i).vec), Dt.int i]
      rw [hg]
  case f =>
    refine da_nil ⟨lawPairs st k v sv ks, ?_, fun qs hp hs => ?_⟩
    · unfold lawPairs
      rw [List.map_map]; rfl
    · rw [sortP_eq hp hs, lawPairs_eq hL k v sv ks hks]
      exact hf
def f_law_near : FT := fun ds Φ => ∃ (st : List (Int × Itm)) (k : Kd) (ks : List Int) (v : List Int) (m : Nat), ds = [stD st, .str (kS k), .lst (ks.map .int), vecD v] ∧ StOk st ∧ StL st m ∧ (∀ i ∈ ks, ∃ d, look st i = some d) ∧ Sv' v ∧ v.length = m ∧ v ≠ [] ∧ ∀ ks' : List Int, ks'.Perm ks → Φ (.lst (ks'.map .int))
theorem ok_law_near (bi : BI mg) (C_law_distance : Cal P w K mg base 1 "_law_distance" p__law_distance (spP K T f_law_distance)) (F : FnT K "_law_near" s__law_near g fd) : FnOk P w K mg base CX0 2 g fd p__law_near (spP K T f_law_near) := by
  refine fn_okD (k := 1) bdOk0 F sc__law_near (fun ds Φ h => ?_) (by decide) (fun cdv A outer s H XE B ds Φ hM hHI hT hr hf => ?_)
  · obtain ⟨_, _, _, _, _, rfl, _⟩ := h; rfl
  obtain ⟨st, k, ks, v, m, rfl, hst, hL, hks, hv, hvl, hvn, hf⟩ := hf
  subst hT
  have hu : (A.deeper (envOfC "_law_near" (defScope s__law_near) s.heap.objs.size g cdv)).units + 1 < cLine := by have := hr.units; omega
  refine dl_cons (ds_ret (dw_n (dn_l [("_law_far", 4), ("_law_key", 5)] sc__law_near.nd (show BlkOk n__law_near (defScope s__law_near) _ _ from ⟨rfl, by decide +kernel, by decide +kernel, by decide +kernel, by decide +kernel⟩) (lcE (α := Int × Int) [("_law_far", 4), ("_law_key", 5)] (fun _ _ _ _ _ _ _ => dg_tup (n := 2) rfl (dgs_cons (dg_name 4 sc__law_near.nd) (dgs_cons (dg_name 5 sc__law_near.nd) dgs_nil))) (by decide) (di_lst (dw_n (dn_sortP bi.sorted (da_cons (dw_n (dn_l [("_law_key", 5)] sc__law_near.nd (show BlkOk n__law_near (defScope s__law_near) _ _ from ⟨rfl, by decide +kernel, by decide +kernel, by decide +kernel, by decide +kernel⟩) (lcE [("_law_key", 5)] (fun _ _ _ _ _ _ _ => dg_name 5 sc__law_near.nd) (by decide) (di_lst (dw_v rfl ⟨_, rfl, ks, .int, fun _ => true, fun i => prT (dist k v (getI st i).vec, i), rfl, ?t, ?f⟩)))))))))))))
  case t =>
    intro gl ow i hi
    obtain ⟨d, hd⟩ := hks i hi
    have hg := getI_ok hd
    have hm := hL _ (look_mem hd)
    have hlk : lookD (st.map fun q => (q.1, itmD q.2)) i = some (itmD d) := by rw [look_st, hd]; rfl
    refine fun s H C cl fp => dq_nil ⟨rfl, fun _ s H C cl fp => dw_tup (da_cons (dw_calP C_law_distance ‹Room _ _› (by omega) (da_cons (dw_v rfl (da_cons (dw_v rfl (da_cons (dw_at (dw_dget hu (dw_v rfl (dw_v rfl ⟨_, _, itmD d, rfl, rfl, hlk, dw_int ⟨_, rfl, da_nil ⟨k, v, d.vec, rfl, hv, hst.2 _ (look_mem hd), by rw [hvl]; exact hm.2.2.symm, hvn, da_cons (dw_v rfl (da_nil ⟨szl, ?_⟩))⟩⟩⟩)))))))))))⟩
    show Dt.tup [Dt.int (dist k v d.vec), Dt.int i] = Dt.tup [Dt.int (dist k v (getI st i).vec), Dt.int i]
    rw [hg]
  case f =>
    refine da_nil ⟨ks.map fun i => (dist k v (getI st i).vec, i), by rw [filter_tt, List.map_map]; rfl, fun qs hp hs => ⟨_, rfl, qs, prT, fun _ => true, fun q => .int q.2, rfl, ?t2, ?f2⟩⟩
    case t2 =>
      intro gl ow q hq
      exact ⟨rfl, rfl, fun s H C cl fp => dq_nil ⟨rfl, fun _ s H C cl fp => dw_v rfl rfl⟩⟩
    case f2 =>
      have e : (qs.filter fun _ => true).map (fun q => Dt.int q.2) = (qs.map (·.2)).map .int := by rw [filter_tt, List.map_map]; rfl
      rw [e]
      refine hf _ ?_
      have hp2 := hp.map (·.2)
      rw [List.map_map] at hp2
      have e2 : ks.map ((fun q : Int × Int => q.2) ∘ fun i => (dist k v (getI st i).vec, i)) = ks := by
        show ks.map (fun i => i) = ks
        exact List.map_id' ks
      rw [e2] at hp2
      exact hp2
end
end N
set_option Elab.async false
set_option linter.all false
set_option maxRecDepth 100000
set_option maxHeartbeats 1000000
namespace N
open PySem
open PySem.Spec
open PyProof.Rows
open L2
/-! R4: the law's right words, its walk, its least steps. -/
section
variable {P : Program} {w : World} {K : PySem.W.Frag} {mg : Str → Option Value} {base : Heap} {T : List (Addr × Str)} {g C : Addr} {fd : FuncData}
theorem ok_law_lots (F : FnT K "_law_lots" s__law_lots g fd) : FnOk P w K mg base CX0 1 g fd p__law_lots (spP K T f_lots_in) := by
  refine fn_okD bdOk0 F sc__law_lots (fun ds Φ h => ?_) (by decide) (fun cdv A outer s H XE B ds Φ hM hHI hT hr hf => ?_)
  · obtain ⟨x, rfl, _⟩ := h; rfl
  obtain ⟨l, rfl, hf⟩ := hf
  cases l with
  | items r s ks =>
    rw [lotD]
    exact dl_cons (ds_ret (dw_if (dt_eq (dw_at (dw_at (dw_v rfl (dw_int ⟨_, rfl, dw_int ⟨_, rfl, dw_str ⟨false, rfl, ifB_f (dw_tup (da_nil ⟨szl, hf⟩))⟩⟩⟩)))))))
  | lots r s ls =>
    rw [lotD]
    refine dl_cons (ds_ret (dw_if (dt_eq (dw_at (dw_at (dw_v rfl (dw_int ⟨_, rfl, dw_int ⟨_, rfl, dw_str ⟨true, rfl, ifB_t (dw_at (dw_at (dw_v rfl (dw_int ⟨_, rfl, dw_int ⟨_, rfl, ?_⟩⟩))))⟩⟩⟩)))))))
    rw [lotsD_map]
    exact hf
abbrev wEmp : Str := "empty"
abbrev wBar : Str := "barred"
abbrev wFar : Str := "far"
abbrev wOpn : Str := "open"
def rightW (k : Kd) (v : List Int) (s : Sie) (reach : Option Int) (l : Lot) : List Str := stepWs.filter fun w => isStep w k v s reach l
def farB (k : Kd) (v : List Int) (reach : Option Int) (l : Lot) : Bool := match reach with
  | none => false
  | some r => decide (l.smy.many > 0) && decide (floorOf k l.reg v > r)
theorem rightW_eq (k : Kd) (v : List Int) (s : Sie) (reach : Option Int) (l : Lot) : rightW k v s reach l = (((if l.smy.many = 0 then [wEmp] else []) ++ (if mayPass s l.smy then [] else [wBar])) ++ (if farB k v reach l then [wFar] else [])) ++ [wOpn] := by
  have h1 : isStep "empty" k v s reach l = decide (l.smy.many = 0) := rfl
  have h2 : isStep "barred" k v s reach l = !mayPass s l.smy := rfl
  have h3 : isStep "far" k v s reach l = farB k v reach l := rfl
  have h4 : isStep "open" k v s reach l = true := rfl
  unfold rightW stepWs
  rw [List.filter_cons, List.filter_cons, List.filter_cons, List.filter_cons, h1, h2, h3, h4]
  by_cases a : l.smy.many = 0 <;> cases b : mayPass s l.smy <;> cases c : farB k v reach l <;> simp [a]
def f_law_right_words (n : Nat) : FT := fun ds Φ => ∃ (k : Kd) (v : List Int) (many : Int) (s : Sie) (reach : Option Int) (l : Lot), ds = [lotD l, qD k v many s, optD reach] ∧ s.depth ≤ n ∧ RgOk l.reg ∧ Sv' v ∧ Φ (.lst ((rightW k v s reach l).map .str))
theorem ok_law_right_words (n : Nat) (C_may_pass : Cal P w K mg base (n + 3) "may_pass" p_may_pass (spP K T (f_may_pass n))) (C_floor_of : Cal P w K mg base 5 "floor_of" p_floor_of (spP K T f_floor_of)) (F : FnT K "_law_right_words" s__law_right_words g fd) : FnOk P w K mg base CX0 (n + 6) g fd p__law_right_words (spP K T (f_law_right_words n)) := by
  refine fn_okD (k := n + 5) bdOk0 F sc__law_right_words (fun ds Φ h => ?_) (by decide) (fun cdv A outer s H XE B ds Φ hM hHI hT hr hf => ?_)
  · obtain ⟨_, _, _, _, _, _, rfl, _⟩ := h; rfl
  obtain ⟨k, v, many, sv, reach, l, rfl, hn, hR, hv, hf⟩ := hf
  subst hT
  rw [rightW_eq] at hf
  obtain ⟨z, hz⟩ := lotD_eq l
  rw [hz]
  refine dl_cons (ds_asg (dg_tup (n := 4) rfl (dgs_cons (dg_v sc__law_right_words.nd) (dgs_cons (dg_v sc__law_right_words.nd) (dgs_cons (dg_v sc__law_right_words.nd) (dgs_cons (dg_v sc__law_right_words.nd) (dgs_nil)))))) (dw_v rfl (⟨rfl, rfl, ?_⟩)))
  refine dl_cons (ds_asg (dg_tup (n := 2) rfl (dgs_cons (dg_v sc__law_right_words.nd) (dgs_cons (dg_v sc__law_right_words.nd) (dgs_nil)))) (dw_slT (dw_v rfl (⟨_, rfl, do_none (do_some (dw_int (⟨_, rfl, ⟨rfl, rfl, ?_⟩⟩)))⟩))))
  have fin : ∀ (m : Addr) (ws : List Str) (E : Ev), E = [.dt (.tup [regD l.reg, smyD l.smy, z]), .dt (qD k v many sv), .dt (optD reach), .dt (.str (kS k)), .dt (vecD v), .dt (.int many), .dt (sieD sv), .dt (regD l.reg), .dt (smyD l.smy), .own m (ws.map .str)] → ws.length ≤ 3 → Φ (.lst ((ws ++ [wOpn]).map .str)) →
      DL (cxOf CX0 P w K mg base n__law_right_words "_law_right_words" (defScope s__law_right_words) g cdv A outer s H XE).nox B E ((defBody s__law_right_words).drop 5) { nx := fun _ => Φ .non, rt := Φ } := by
    intro m ws E hE hl hf
    subst hE
    refine dl_cons (ds_ret (dw_n (dn_catO 9 rfl (dw_n (dn_lst (da_cons (dw_str (da_nil ⟨szl, [.str "open"], rfl, ?_, ?_⟩))))))))
    · rw [List.length_map]; exact Nat.le_trans (show _ ≤ 10 by simp only [List.length_cons, List.length_nil]; omega) szl
    · rw [List.map_append] at hf; exact hf
  have far : ∀ (m : Addr) (ws : List Str) (E : Ev), E = [.dt (.tup [regD l.reg, smyD l.smy, z]), .dt (qD k v many sv), .dt (optD reach), .dt (.str (kS k)), .dt (vecD v), .dt (.int many), .dt (sieD sv), .dt (regD l.reg), .dt (smyD l.smy), .own m (ws.map .str)] → ws.length ≤ 2 → Φ (.lst (((ws ++ (if farB k v reach l then [wFar] else [])) ++ [wOpn]).map .str)) →
      DL (cxOf CX0 P w K mg base n__law_right_words "_law_right_words" (defScope s__law_right_words) g cdv A outer s H XE).nox B E ((defBody s__law_right_words).drop 4) { nx := fun _ => Φ .non, rt := Φ } := by
    intro m ws E hE hl hf
    subst hE
    refine dl_cons (ds_if (DT.im (Ψ' := fun z => z = farB k v reach l) ?t fun z hz => ?_))
    case t =>
      cases reach with
      | none => exact dt_w (dtw_and (dt_notN (dw_v rfl (dw_non ⟨rfl, rfl, false, rfl, ifB_f rfl⟩))))
      | some r =>
        refine dt_w (dtw_and (dt_notN (dw_v rfl (dw_non ⟨rfl, rfl, true, rfl, ifB_t ?_⟩))))
        refine dtw_and (dt_gt (dw_at (dw_v rfl (dw_int ⟨_, rfl, dw_int ⟨_, rfl, ifB_d (fun h => ?a) (fun h => ?b)⟩⟩))))
        case a =>
          refine dtw_and1 (dt_gt (dw_calP C_floor_of ‹Room _ _› (by omega) (da_cons (dw_v rfl (da_cons (dw_v rfl (da_cons (dw_v rfl (da_nil ⟨k, l.reg, v, rfl, hR, hv, dw_v rfl ⟨_, rfl, ?_⟩⟩)))))))))
          show _ = (decide (l.smy.many > 0) && _)
          rw [decide_eq_true (show l.smy.many > 0 from h), Bool.true_and]
        case b =>
          show false = (decide (l.smy.many > 0) && _)
          rw [decide_eq_false (show ¬ l.smy.many > 0 from h), Bool.false_and]
    subst hz
    cases hfb : farB k v reach l with
    | true =>
      rw [hfb, if_pos rfl] at hf
      refine ifB_t (dl_cons (ds_append 9 rfl (dw_str ⟨by rw [List.length_map]; exact Nat.lt_of_lt_of_le (show _ < 10 by omega) szl, dl_nil (fin m (ws ++ [wFar]) _ ?_ (by rw [List.length_append, List.length_singleton]; omega) hf)⟩)))
      rw [List.map_append]; rfl
    | false =>
      rw [hfb, if_neg (by decide), List.append_nil] at hf
      exact ifB_f (dl_nil (fin m ws _ rfl (by omega) hf))
  have bar : ∀ (m : Addr) (ws : List Str) (E : Ev), E = [.dt (.tup [regD l.reg, smyD l.smy, z]), .dt (qD k v many sv), .dt (optD reach), .dt (.str (kS k)), .dt (vecD v), .dt (.int many), .dt (sieD sv), .dt (regD l.reg), .dt (smyD l.smy), .own m (ws.map .str)] → ws.length ≤ 1 → Φ (.lst ((((ws ++ (if mayPass sv l.smy then [] else [wBar])) ++ (if farB k v reach l then [wFar] else [])) ++ [wOpn]).map .str)) →
      DL (cxOf CX0 P w K mg base n__law_right_words "_law_right_words" (defScope s__law_right_words) g cdv A outer s H XE).nox B E ((defBody s__law_right_words).drop 3) { nx := fun _ => Φ .non, rt := Φ } := by
    intro m ws E hE hl hf
    subst hE
    refine dl_cons (ds_if (dt_not (dt_val (dw_calP C_may_pass ‹Room _ _› (by omega) (da_cons (dw_v rfl (da_cons (dw_v rfl (da_nil ⟨sv, l.smy, rfl, hn, _, rfl, ?_⟩)))))))))
    cases hm : mayPass sv l.smy with
    | true =>
      rw [hm, if_pos rfl, List.append_nil] at hf
      exact ifB_f (dl_nil (far m ws _ rfl (by omega) hf))
    | false =>
      rw [hm, if_neg (by decide)] at hf
      refine ifB_t (dl_cons (ds_append 9 rfl (dw_str ⟨by rw [List.length_map]; exact Nat.lt_of_lt_of_le (show _ < 10 by omega) szl, dl_nil (far m (ws ++ [wBar]) _ ?_ (by rw [List.length_append, List.length_singleton]; omega) hf)⟩)))
      rw [List.map_append]; rfl
  refine dl_cons (ds_setN 9 (dn_if (dt_eq (dw_at (dw_v rfl (dw_int ⟨_, rfl, dw_int ⟨_, rfl, ifB_d (fun h => ?a) (fun h => ?b)⟩⟩)))) ) sc__law_right_words.nd)
  case a =>
    rw [if_pos h] at hf
    exact dn_lst (da_cons (dw_str (da_nil ⟨szl, fun m => bar m [wEmp] _ rfl (by decide) hf⟩)))
  case b =>
    rw [if_neg h] at hf
    exact dn_lst (da_nil ⟨szl, fun m => bar m [] _ rfl (by decide) hf⟩)
end
end N
set_option Elab.async false
set_option linter.all false
set_option maxRecDepth 100000
set_option maxHeartbeats 1000000
namespace N
open PySem
open PySem.Spec
open PyProof.Rows
open L2
/-! R5: the law's walk. -/
section
variable {P : Program} {w : World} {K : PySem.W.Frag} {mg : Str → Option Value} {base : Heap} {T : List (Addr × Str)} {g C : Addr} {fd : FuncData}
theorem plnL_str : ∀ ws : List Str, plnL (ws.map .str) = ws.map .str
  | [] => rfl
  | x :: ws => by
    show pln (.str x) :: plnL (ws.map .str) = _
    rw [plnL_str ws]; rfl
theorem isPL_str : ∀ ws : List Str, isPL (ws.map .str) = true
  | [] => rfl
  | x :: ws => by
    show (isP (.str x) && isPL (ws.map .str)) = true
    rw [isPL_str ws]; rfl
theorem lay_str : ∀ ws : List Str, (∀ x ∈ ws, x ∈ stepWs) → PyData.canLayAll0 (ws.map .str) = true
  | [], _ => rfl
  | x :: ws, h => by
    rw [List.map_cons, PyData.canLayAll0, lay_str ws fun y hy => h y (List.mem_cons_of_mem _ hy), Bool.and_true]
    have hx := h x List.mem_cons_self
    simp only [stepWs, List.mem_cons, List.not_mem_nil, or_false] at hx
    rcases hx with rfl | rfl | rfl | rfl <;> (rw [PyData.canLay0]; decide +kernel)
theorem dep_str : ∀ ws : List Str, PyData.depthAll (ws.map .str) = 0
  | [] => rfl
  | x :: ws => by
    rw [List.map_cons, PyData.depthAll, dep_str ws, PyData.depth]
    rfl
theorem okP_words (ws : List Str) (h : ∀ x ∈ ws, x ∈ stepWs) : okP (.lst (ws.map .str)) ∧ okP (.tup (ws.map .str)) := by
  have e : SeqAt.shaped (.list (ws.map .str)) = true := by
    unfold SeqAt.shaped
    rw [PyData.canLay0, lay_str ws h, PyData.depth, dep_str]
    decide
  have e2 : SeqAt.shaped (.tuple (ws.map .str)) = true := by
    unfold SeqAt.shaped
    rw [PyData.canLay0, lay_str ws h, PyData.depth, dep_str]
    decide
  exact ⟨⟨isPL_str ws, by show SeqAt.shaped (.list (plnL (ws.map .str))) = true; rw [plnL_str]; exact e⟩, ⟨isPL_str ws, by show SeqAt.shaped (.tuple (plnL (ws.map .str))) = true; rw [plnL_str]; exact e2⟩⟩
theorem step_in {w : Str} {k : Kd} {v : List Int} {s : Sie} {reach : Option Int} {l : Lot} (h : isStep w k v s reach l = true) : w ∈ stepWs := by
  unfold isStep at h
  by_cases e1 : w = "empty"
  · rw [e1]; decide
  · rw [if_neg e1] at h
    by_cases e2 : w = "barred"
    · rw [e2]; decide
    · rw [if_neg e2] at h
      by_cases e3 : w = "far"
      · rw [e3]; decide
      · rw [if_neg e3] at h
        rw [of_decide_eq_true h]; decide
theorem right_mem {w : Str} {k : Kd} {v : List Int} {s : Sie} {reach : Option Int} {l : Lot} : w ∈ rightW k v s reach l ↔ isStep w k v s reach l = true := by
  unfold rightW
  rw [List.mem_filter]
  exact ⟨fun h => h.2, fun h => ⟨step_in h, h⟩⟩
theorem any_str (x : Str) : ∀ ws : List Str, ((ws.map PyData.str).any fun z => PyData.eqv z (.str x)) = decide (x ∈ ws)
  | [] => rfl
  | y :: ws => by
    rw [List.map_cons, List.any_cons, any_str x ws]
    have e : PyData.eqv (.str y) (.str x) = (y == x) := by simp only [PyData.eqv]
    rw [e]
    by_cases h : y = x
    · subst h; simp
    · have : (y == x) = false := by simpa using h
      rw [this, Bool.false_or]
      congr 1
      rw [List.mem_cons]
      exact propext ⟨fun h => .inr h, fun q => q.elim (fun q => (h q.symm).elim) id⟩
theorem any_no (d : PyData) (h : ∀ x : Str, PyData.eqv (.str x) d = false) : ∀ ws : List Str, ((ws.map PyData.str).any fun z => PyData.eqv z d) = false
  | [] => rfl
  | y :: ws => by rw [List.map_cons, List.any_cons, any_no d h ws, h y]; rfl
theorem right_any {d : Dt} (hd : (tyN d).isSome = true) (k : Kd) (v : List Int) (s : Sie) (reach : Option Int) (l : Lot) : ((plnL ((rightW k v s reach l).map .str)).any fun z => PyData.eqv z (pln d)) = isStepD d k v s reach l := by
  rw [plnL_str]
  cases d with
  | str x =>
    show ((rightW k v s reach l).map PyData.str).any (fun z => PyData.eqv z (.str x)) = isStep x k v s reach l
    rw [any_str]
    cases e : isStep x k v s reach l with
    | true => exact decide_eq_true (right_mem.mpr e)
    | false => exact decide_eq_false (fun h => by rw [right_mem.mp h] at e; cases e)
  | non => exact any_no _ (fun x => by simp only [pln, PyData.eqv]) _
  | bl b => exact any_no _ (fun x => by simp only [pln, PyData.eqv]) _
  | int i => exact any_no _ (fun x => by simp only [pln, PyData.eqv]) _
  | lst m => exact any_no _ (fun x => by simp only [pln, PyData.eqv]) _
  | tup m => exact any_no _ (fun x => by simp only [pln, PyData.eqv]) _
  | dic _ => cases hd
  | obj _ _ => cases hd
  | raw _ => cases hd
  | scr _ => cases hd
def keysOf (op : List Lot) : List Int := op.flatMap Lot.keys
def wresK (r : List Lot × Option Int) : Dt := .tup [.lst ((keysOf r.1).map .int), optD r.2]
theorem keys_len {st : List (Int × Itm)} : ∀ op : List Lot, (∀ l ∈ op, LotOk st l) → (keysOf op).length ≤ 100 * op.length
  | [], _ => Nat.zero_le _
  | l :: op, h => by
    have h1 := keys_len op fun m hm => h m (List.mem_cons_of_mem _ hm)
    have h3 := (h l List.mem_cons_self).klen
    unfold keysOf at h1 ⊢
    rw [List.flatMap_cons, List.length_append, List.length_cons]
    omega
def f_law_met (n : Nat) : FT := fun ds Φ => ∃ (lot : Lot) (st : List (Int × Itm)) (k : Kd) (v : List Int) (many : Int) (sv : Sie) (reach : Option Int) (steps : List Dt), ds = [lotD lot, qD k v many sv, optD reach, .tup steps] ∧
  LotOk st lot ∧ lot.cnt ≤ 1000 ∧ Sv' v ∧ sv.depth ≤ n ∧ steps.length ≤ 1000 ∧ (∀ d ∈ steps, (tyN d).isSome = true ∧ okP d) ∧ Φ (wresK (walk (fun d l => isStepD d k v sv reach l) 0 steps [lot] []))
theorem ok_law_met (bi : BI mg) (n : Nat) (C_law_right_words : Cal P w K mg base (n + 6) "_law_right_words" p__law_right_words (spP K T (f_law_right_words n))) (C_law_lots : Cal P w K mg base 1 "_law_lots" p__law_lots (spP K T f_lots_in)) (F : FnT K "_law_met" s__law_met g fd) : FnOk P w K mg base CX0 (n + 7) g fd p__law_met (spP K T (f_law_met n)) := by
  refine fn_okD (k := n + 6) bdOk0 F sc__law_met (fun ds Φ h => ?_) (by decide) (fun cdv A outer s H XE B ds Φ hM hHI hT hr hf => ?_)
  · obtain ⟨_, _, _, _, _, _, _, _, rfl, _⟩ := h; rfl
  obtain ⟨lot, st, k, v, many, sv, reach, steps, rfl, hlot, hcnt, hv, hn, hsl, hst, hf⟩ := hf
  subst hT
  have hu := hr.units0
  have hu65 : (A.deeper (envOfC "_law_met" (defScope s__law_met) s.heap.objs.size g cdv)).units + 65 < cLine := by have := hr.un; omega
  have big : ∀ n : Nat, n ≤ 200000 → n ≤ sizeLine := fun n h => Nat.le_trans h szl
  refine dl_cons (ds_parO (ixS n__law_met "_law_todo") (ixS n__law_met "_law_keys") (dn_lst (da_cons (dw_v rfl (da_nil ⟨szl, dn_lst (da_nil ⟨szl, fun l m => ?_⟩)⟩)))) sc__law_met.nd)
  refine dl_cons (ds_for PassesOwn.never (fun _ _ => dg_v sc__law_met.nd) (di_rng1 bi.range (da_cons (dw_len bi.len (da_cons (dw_v rfl (da_nil (.inr (.inl ⟨_, rfl, da_nil ⟨_, rfl, by omega, by omega, fun i E' => ∃ (st' op : List Lot) (s6 s7 : Sl) (l m : Addr), E' = [.dt (lotD lot), .dt (qD k v many sv), .dt (optD reach), .dt (.tup steps), .own l (st'.reverse.map lotD), .own m ((keysOf op).map .int), s6, s7] ∧ (∀ l ∈ st', LotOk st l) ∧ (∀ l ∈ op, LotOk st l) ∧ cntL st' + op.length ≤ 1000 ∧ walk (fun d l => isStepD d k v sv reach l) i (steps.drop i) st' op = walk (fun d l => isStepD d k v sv reach l) 0 steps [lot] [], ?j0, ?jt, ?je⟩⟩)))))))))
  case j0 =>
    refine ⟨[lot], [], .un, .un, l, m, rfl, fun l h => by rw [List.mem_singleton.mp h]; exact hlot, fun l h => (by cases h), ?_, rfl⟩
    rw [cntL, cntL]; exact hcnt
  case jt =>
    intro gl i d E' hd hJ
    obtain ⟨hi, rfl⟩ := rngD_get hd
    rw [Int.toNat_natCast] at hi
    obtain ⟨st', op, s6, s7, l, m, rfl, hso, hoo, hcn, hw⟩ := hJ
    obtain ⟨x, hx⟩ : ∃ x, steps[i]? = some x := ⟨_, List.getElem?_eq_getElem hi⟩
    have hat : atI steps (0 + (i : Nat)) = some x := by rw [Int.zero_add]; exact atI_nat hx
    rw [drop_get hx] at hw
    cases st' with
    | nil =>
      refine dl_cons (ds_if (dt_w (dtw_or (dt_ownNil 4 hu rfl (ifB_t (ifB_t ?_))))))
      refine dl_freeze 5 rfl (dl_cons (ds_ret (dw_tup (da_cons (dw_v rfl (da_cons (dw_v rfl (da_nil ⟨szl, ?_⟩))))))))
      rw [← hw] at hf
      rw [Int.zero_add]
      exact hf
    | cons a r =>
      have hE3 : (a :: r).reverse.map lotD = r.reverse.map lotD ++ [lotD a] := by rw [List.reverse_cons, List.map_append]; rfl
      have hne : ((a :: r).reverse.map lotD).isEmpty = false := by rw [hE3]; simp
      have ha := hso a List.mem_cons_self
      have hxt := hst x (List.mem_of_getElem? hx)
      have hca := cnt_kids a
      rw [cntL] at hcn
      have hrl := cntL_len r
      have hkl := cntL_len a.kids
      refine dl_cons (ds_if (dt_w (dtw_or (dt_ownNil 4 hu rfl ?_))))
      rw [hne, hE3]
      refine ifB_f (dtw_or1 (dt_notInD hu65 (dw_at (dw_v rfl (dw_v rfl ⟨x, hat, dw_calP C_law_right_words ‹Room _ _› (by omega) (da_cons (dw_ownIx 4 rfl (dw_neg (dw_int ⟨_, rfl, _, lotD a, rfl, atI_last _ _, da_cons (dw_v rfl (da_cons (dw_v rfl (da_nil ⟨k, v, many, sv, reach, a, rfl, hn, ha.reg, hv, _, rfl, hxt.2, (okP_words _ fun y hy => step_in (right_mem.mp hy)).1, _, rfl, ?_⟩))))⟩))))⟩)))))
      rw [right_any hxt.1]
      rw [walk_cons] at hw
      cases hj : isStepD x k v sv reach a with
      | false =>
        rw [hj, if_neg (by decide)] at hw
        refine ifB_t (dl_freeze 5 rfl (dl_cons (ds_ret (dw_tup (da_cons (dw_v rfl (da_cons (dw_v rfl (da_nil ⟨szl, ?_⟩)))))))))
        rw [← hw] at hf
        rw [Int.zero_add]
        exact hf
      | true =>
        rw [hj, if_pos rfl] at hw
        obtain ⟨y, rfl⟩ : ∃ y, x = .str y := by
          cases x <;> first | exact ⟨_, rfl⟩ | cases hj
        refine ifB_f (dl_nil (dl_cons (ds_setPop 7 4 rfl ?_ sc__law_met.nd)))
        refine dl_cons (ds_if (dt_eq (dw_at (dw_v rfl (dw_v rfl ⟨.str y, hat, dw_str ⟨_, rfl, ifB_d (fun h => ?a) (fun h => dl_nil (dl_nil ?b))⟩⟩)))))
        case b =>
          rw [show isOpen (.str y) = false from decide_eq_false h, if_neg (by decide)] at hw
          exact ⟨r, op, _, _, _, _, rfl, fun l hl => hso l (List.mem_cons_of_mem _ hl), hoo, by omega, hw⟩
        case a =>
          rw [show isOpen (.str y) = true from decide_eq_true h, if_pos rfl] at hw
          have hkk := keys_len op hoo
          have hka := ha.klen
          refine dl_cons (ds_setN (hN := sc__law_met.nd) 4 (dn_catO 4 rfl (dw_n (dn_list bi.list (da_cons (dw_revT (dw_calP C_law_lots ‹Room _ _› (by omega) (da_cons (dw_v rfl (da_nil ⟨a, rfl, _, rfl, da_nil (.inr ⟨_, rfl, _, rfl, ?s2, fun l2 => ?_⟩)⟩))))))))))
          case s2 => rw [List.length_map, List.length_reverse, List.length_reverse, List.length_map]; exact big _ (by omega)
          have nxt : ∀ m2 : Addr, ∃ (st' op' : List Lot) (s6' s7' : Sl) (l m : Addr), [.dt (lotD lot), .dt (qD k v many sv), .dt (optD reach), .dt (.tup steps), .own l2 (r.reverse.map lotD ++ (a.kids.map lotD).reverse), .own m2 ((keysOf op).map .int ++ a.keys.map .int), .dt (.int (0 + (i : Nat))), .dt (lotD a)] = [.dt (lotD lot), .dt (qD k v many sv), .dt (optD reach), .dt (.tup steps), .own l (st'.reverse.map lotD), .own m ((keysOf op').map .int), s6', s7'] ∧ (∀ l ∈ st', LotOk st l) ∧ (∀ l ∈ op', LotOk st l) ∧ cntL st' + op'.length ≤ 1000 ∧ walk (fun d l => isStepD d k v sv reach l) (i + 1) (steps.drop (i + 1)) st' op' = walk (fun d l => isStepD d k v sv reach l) 0 steps [lot] [] := fun m2 => by
            refine ⟨a.kids ++ r, op ++ [a], .dt (.int (0 + (i : Nat))), .dt (lotD a), l2, m2, ?_, fun l hl => (List.mem_append.mp hl).elim (ha.kids l) fun h => hso l (List.mem_cons_of_mem _ h), fun l hl => (List.mem_append.mp hl).elim (hoo l) fun h => by rw [List.mem_singleton.mp h]; exact ha, ?_, hw⟩
            · have e1 : (a.kids ++ r).reverse.map lotD = r.reverse.map lotD ++ (a.kids.map lotD).reverse := by rw [List.reverse_append, List.map_append, List.map_reverse, List.map_reverse]
              have e2 : keysOf (op ++ [a]) = keysOf op ++ a.keys := by unfold keysOf; rw [List.flatMap_append]; simp
              rw [e1, e2, List.map_append]
            · rw [cntL_app, List.length_append, List.length_singleton]
              omega
          have s3 : ((keysOf op).map Dt.int).length + (a.keys.map Dt.int).length ≤ sizeLine := by
            rw [List.length_map, List.length_map]; exact big _ (by omega)
          cases a with
          | items rg sm ks =>
            rw [lotD]
            refine dl_cons (ds_setN (hN := sc__law_met.nd) 5 (dn_catO 5 rfl (dw_if (dt_eq (dw_at (dw_at (dw_v rfl (dw_int ⟨_, rfl, dw_int ⟨_, rfl, dw_str ⟨true, rfl, ifB_t (dw_n (dn_list bi.list (da_cons (dw_at (dw_at (dw_v rfl (dw_int ⟨_, rfl, dw_int ⟨_, rfl, da_nil (.inr ⟨_, rfl, _, rfl, s3, fun m2 => ?_⟩)⟩⟩)))))))⟩⟩⟩))))))))
            exact dl_nil (dl_nil (nxt m2))
          | lots rg sm ls =>
            rw [lotD]
            refine dl_cons (ds_setN (hN := sc__law_met.nd) 5 (dn_catO 5 rfl (dw_if (dt_eq (dw_at (dw_at (dw_v rfl (dw_int ⟨_, rfl, dw_int ⟨_, rfl, dw_str ⟨false, rfl, ifB_f (dw_n (dn_lst (da_nil ⟨szl, _, rfl, s3, fun m2 => ?_⟩)))⟩⟩⟩))))))))
            exact dl_nil (dl_nil (nxt m2))
  case je =>
    rintro E' ⟨st', op, s6, s7, l, m, rfl, hso, hoo, hcn, hw⟩
    rw [rngD_len, Int.toNat_natCast, List.drop_length] at hw
    rw [← hw] at hf
    refine dl_freeze 5 rfl (dl_cons (ds_ret (dw_tup (da_cons (dw_v rfl (da_cons (dw_if (dt_ownNil 4 hu rfl ?_)) ))))))
    cases st' with
    | nil => exact ifB_t (dw_non (da_nil ⟨szl, hf⟩))
    | cons a r =>
      have hne : ((a :: r).reverse.map lotD).isEmpty = false := by simp
      rw [hne]
      exact ifB_f (dw_len bi.len (da_cons (dw_v rfl (da_nil (.inr (.inl ⟨_, rfl, da_nil ⟨szl, hf⟩⟩))))))
end
end N
set_option Elab.async false
set_option linter.all false
set_option maxRecDepth 100000
set_option maxHeartbeats 1000000
namespace N
open PySem
open PySem.Spec
open PyProof.Rows
open L2
/-! R6: the law's least steps, forms, faults. -/
section
variable {P : Program} {w : World} {K : PySem.W.Frag} {mg : Str → Option Value} {base : Heap} {T : List (Addr × Str)} {g C : Addr} {fd : FuncData}
theorem least_fuel (W : Lot → Str) : ∀ (n m : Nat) (s : List Lot), cntL s ≤ n → cntL s ≤ m → least W n s = least W m s
  | n, m, [], _, _ => by rw [least_nil, least_nil]
  | 0, m, l :: r, h, _ => by rw [cntL] at h; have := cnt_kids l; omega
  | n + 1, 0, l :: r, _, h => by rw [cntL] at h; have := cnt_kids l; omega
  | n + 1, m + 1, l :: r, h1, h2 => by
    rw [cntL] at h1 h2
    have hc := cnt_kids l
    rw [least, least]
    split
    · rw [least_fuel W n m (l.kids ++ r) (by rw [cntL_app]; omega) (by rw [cntL_app]; omega)]
    · rw [least_fuel W n m r (by omega) (by omega)]
theorem least_step (W : Lot → Str) (l : Lot) (r : List Lot) (h : cntL (l :: r) ≤ 1000) : least W 1000 (l :: r) = W l :: least W 1000 (if W l = "open" then l.kids ++ r else r) := by
  rw [cntL] at h
  have hc := cnt_kids l
  rw [least]
  congr 1
  refine least_fuel W _ _ _ ?_ ?_ <;> split <;> first | omega | (rw [cntL_app]; omega)
theorem rightW_get (k : Kd) (v : List Int) (s : Sie) (reach : Option Int) (l : Lot) : (rightW k v s reach l)[0]? = some (closeW k v s reach l) := closeW_get k v s reach l
def f_law_least (n : Nat) : FT := fun ds Φ => ∃ (lot : Lot) (st : List (Int × Itm)) (k : Kd) (v : List Int) (many : Int) (sv : Sie) (reach : Option Int), ds = [lotD lot, qD k v many sv, optD reach] ∧
  LotOk st lot ∧ lot.cnt ≤ 99 ∧ Sv' v ∧ sv.depth ≤ n ∧ Φ (wdsD (leastS k v sv reach lot))
theorem ok_law_least (bi : BI mg) (n : Nat) (C_law_right_words : Cal P w K mg base (n + 6) "_law_right_words" p__law_right_words (spP K T (f_law_right_words n))) (C_law_lots : Cal P w K mg base 1 "_law_lots" p__law_lots (spP K T f_lots_in)) (F : FnT K "_law_least" s__law_least g fd) : FnOk P w K mg base CX0 (n + 7) g fd p__law_least (spP K T (f_law_least n)) := by
  refine fn_okD (k := n + 6) bdOk0 F sc__law_least (fun ds Φ h => ?_) (by decide) (fun cdv A outer s H XE B ds Φ hM hHI hT hr hf => ?_)
  · obtain ⟨_, _, _, _, _, _, _, rfl, _⟩ := h; rfl
  obtain ⟨lot, st, k, v, many, sv, reach, rfl, hlot, hcnt, hv, hn, hf⟩ := hf
  subst hT
  have hu := hr.units0
  refine dl_cons (ds_parO (ixS n__law_least "_law_todo") (ixS n__law_least "_law_found") (dn_lst (da_cons (dw_v rfl (da_nil ⟨szl, dn_lst (da_nil ⟨szl, fun l m => ?_⟩)⟩)))) sc__law_least.nd)
  refine dl_cons (ds_for PassesOwn.never (fun _ _ => dg_v sc__law_least.nd) (di_rng1 bi.range (da_cons (dw_int (da_nil ⟨99, rfl, by omega, by omega, fun i E' => ∃ (st' : List Lot) (ws : List Str) (s5 s6 : Sl) (l m : Addr), E' = [.dt (lotD lot), .dt (qD k v many sv), .dt (optD reach), .own l (st'.reverse.map lotD), .own m (ws.map .str), s5, s6] ∧ (∀ l ∈ st', LotOk st l) ∧ cntL st' ≤ 99 - i ∧ ws.length ≤ i ∧ ws ++ least (closeW k v sv reach) 1000 st' = leastS k v sv reach lot, ?j0, ?jt, ?je⟩)))))
  case j0 => exact ⟨[lot], [], .un, .un, l, m, rfl, fun l h => by rw [List.mem_singleton.mp h]; exact hlot, by rw [cntL, cntL]; exact hcnt, Nat.le_refl _, rfl⟩
  case jt =>
    intro gl i d E' hd hJ
    obtain ⟨hi, rfl⟩ := rngD_get hd
    have hi : i < 99 := hi
    obtain ⟨st', ws, s5, s6, l, m, rfl, hso, hcn, hwl, hw⟩ := hJ
    cases st' with
    | nil =>
      refine dl_cons (ds_if (dt_ownNNil 3 hu rfl (ifB_f (dl_nil (dl_nil ⟨[], ws, _, _, _, _, rfl, hso, Nat.zero_le _, by omega, hw⟩)))))
    | cons a r =>
      have hE3 : (a :: r).reverse.map lotD = r.reverse.map lotD ++ [lotD a] := by rw [List.reverse_cons, List.map_append]; rfl
      have hne : ((a :: r).reverse.map lotD).isEmpty = false := by rw [hE3]; simp
      have ha := hso a List.mem_cons_self
      have hst := least_step (closeW k v sv reach) a r (by omega)
      rw [hst] at hw
      rw [cntL] at hcn
      have hca := cnt_kids a
      have hrl := cntL_len r
      have hkl := cntL_len a.kids
      refine dl_cons (ds_if (dt_ownNNil 3 hu rfl ?_))
      rw [hne, hE3]
      refine ifB_t (dl_cons (ds_setPop 6 3 rfl ?_ sc__law_least.nd))
      have hg0 : atI ((rightW k v sv reach a).map Dt.str) 0 = some (.str (closeW k v sv reach a)) := atI_nat (i := 0) (by rw [List.getElem?_map, rightW_get]; rfl)
      refine dl_cons (ds_append 4 rfl (dw_at (dw_calP C_law_right_words ‹Room _ _› (by omega) (da_cons (dw_v rfl (da_cons (dw_v rfl (da_cons (dw_v rfl (da_nil ⟨k, v, many, sv, reach, a, rfl, hn, ha.reg, hv, dw_int ⟨_, hg0, ?s1, ?_⟩⟩))))))))))
      case s1 => rw [List.length_map]; exact Nat.lt_of_lt_of_le (show _ < 2000 by omega) szl
      have hlw : ws.map Dt.str ++ [.str (closeW k v sv reach a)] = (ws ++ [closeW k v sv reach a]).map .str := by rw [List.map_append]; rfl
      refine dl_cons (ds_setN (hN := sc__law_least.nd) 3 (dn_catO 3 rfl (dw_if (dt_eq (dw_ownIx 4 rfl (dw_neg (dw_int ⟨_, rfl, _, .str (closeW k v sv reach a), rfl, atI_last _ _, dw_str ⟨_, rfl, ifB_d (fun h => ?a) (fun h => ?b)⟩⟩)))))))
      case a =>
        rw [if_pos h] at hw
        refine dw_n (dn_list bi.list (da_cons (dw_revT (dw_calP C_law_lots ‹Room _ _› (by omega) (da_cons (dw_v rfl (da_nil ⟨a, rfl, _, rfl, da_nil (.inr ⟨_, rfl, _, rfl, ?s2, fun l2 => dl_nil (dl_nil ?_)⟩)⟩)))))))
        case s2 => rw [List.length_map, List.length_reverse, List.length_reverse, List.length_map]; exact Nat.le_trans (show _ ≤ 2000 by omega) szl
        refine ⟨a.kids ++ r, ws ++ [closeW k v sv reach a], .dt (.int (0 + (i : Nat))), .dt (lotD a), l2, m, ?_, fun l hl => (List.mem_append.mp hl).elim (ha.kids l) fun h => hso l (List.mem_cons_of_mem _ h), by rw [cntL_app]; omega, by rw [List.length_append, List.length_singleton]; omega, by rw [List.append_assoc]; exact hw⟩
        have e1 : (a.kids ++ r).reverse.map lotD = r.reverse.map lotD ++ (a.kids.map lotD).reverse := by rw [List.reverse_append, List.map_append, List.map_reverse, List.map_reverse]
        rw [← hlw, e1]; rfl
      case b =>
        rw [if_neg h] at hw
        refine dw_n (dn_lst (da_nil ⟨szl, _, rfl, ?s2, fun l2 => dl_nil (dl_nil ?_)⟩))
        case s2 => rw [List.length_map, List.length_reverse]; exact Nat.le_trans (show _ ≤ 2000 by simp only [List.length_nil]; omega) szl
        refine ⟨r, ws ++ [closeW k v sv reach a], .dt (.int (0 + (i : Nat))), .dt (lotD a), l2, m, ?_, fun l hl => hso l (List.mem_cons_of_mem _ hl), by omega, by rw [List.length_append, List.length_singleton]; omega, by rw [List.append_assoc]; exact hw⟩
        rw [← hlw, List.append_nil]; rfl
  case je =>
    rintro E' ⟨st', ws, s5, s6, l, m, rfl, hso, hcn, hwl, hw⟩
    rw [rngD_len] at hcn
    have hcn : cntL st' ≤ 99 - 99 := hcn
    have he : st' = [] := by
      cases st' with
      | nil => rfl
      | cons a r => rw [cntL] at hcn; have := cnt_kids a; omega
    subst he
    rw [least_nil, List.append_nil] at hw
    refine dl_freeze 4 rfl (dl_cons (ds_ret (dw_tuple bi.tuple (da_cons (dw_v rfl (da_nil (.inl ⟨_, rfl, ?_⟩)))))))
    rw [hw]; exact hf
theorem ok_law_is_number (bi : BI mg) (F : FnT K "_law_is_number" s__law_is_number g fd) : FnOk P w K mg base CX0 1 g fd p__law_is_number (spP K T f_is_number) := by
  refine fn_okD bdOk0 F sc__law_is_number (fun ds Φ h => ?_) (by decide) (fun cdv A outer s H XE B ds Φ hM hHI hT hr hf => ?_)
  · obtain ⟨x, rfl, _⟩ := h; rfl
  obtain ⟨x, rfl, ht, hf⟩ := hf
  subst hT
  cases x <;> try (cases ht; done)
  case int i =>
    refine dl_cons (ds_ret (dw_and (dw_isi bi.isinstance (da_cons (dw_v rfl (da_cons (dw_tInt bi (da_nil ⟨_, _, _, _, rfl, rfl, rfl, true, rfl, ifB_t ?_⟩))))))))
    exact dw_and (dw_not (dw_isi bi.isinstance (da_cons (dw_v rfl (da_cons (dw_tBool bi (da_nil ⟨_, _, _, _, rfl, rfl, rfl, false, rfl, true, rfl, ifB_t (dw_one (dw_ge (dw_v rfl (dw_int hf))))⟩)))))))
  case bl i =>
    refine dl_cons (ds_ret (dw_and (dw_isi bi.isinstance (da_cons (dw_v rfl (da_cons (dw_tInt bi (da_nil ⟨_, _, _, _, rfl, rfl, rfl, true, rfl, ifB_t ?_⟩))))))))
    exact dw_and (dw_not (dw_isi bi.isinstance (da_cons (dw_v rfl (da_cons (dw_tBool bi (da_nil ⟨_, _, _, _, rfl, rfl, rfl, true, rfl, false, rfl, ifB_f hf⟩)))))))
  all_goals exact dl_cons (ds_ret (dw_and (dw_isi bi.isinstance (da_cons (dw_v rfl (da_cons (dw_tInt bi (da_nil ⟨_, _, _, _, rfl, rfl, rfl, false, rfl, ifB_f hf⟩))))))))
end
end N
set_option Elab.async false
set_option linter.all false
set_option maxRecDepth 100000
set_option maxHeartbeats 1000000
namespace N
open PySem
open PySem.Spec
open PyProof.Rows
open L2
/-! R7: the law's form and fault. -/
def ltAt (ps : List (Int × Int)) (i : Nat) : Bool := match ps[i]? with
  | none => true
  | some y => match ps[i + 1]? with
    | none => true
    | some x => HT.lexLt [y.1, y.2] [x.1, x.2]
def chainB (ps : List (Int × Int)) : Bool := (List.range (ps.length - 1)).all (ltAt ps)
theorem okAt_succ (ps : List (Int × Int)) (i : Nat) (x y : Int × Int) (hx : ps[i + 1]? = some x) (hy : ps[i]? = some y) : okAt ps (i + 1) = (numP x && ltAt ps i) := by
  unfold okAt ltAt
  rw [hx, Nat.add_sub_cancel, hy]
  simp
theorem okAt_zero (ps : List (Int × Int)) (x : Int × Int) (hx : ps[0]? = some x) : okAt ps 0 = numP x := by
  unfold okAt
  rw [hx]
  simp
theorem formB_split (ps : List (Int × Int)) : formB ps = (ps.all numP && chainB ps) := by
  rw [Bool.eq_iff_iff, Bool.and_eq_true]
  unfold formB chainB
  rw [List.all_eq_true, List.all_eq_true, List.all_eq_true]
  constructor
  · intro h
    refine ⟨fun x hx => ?_, fun i hi => ?_⟩
    · obtain ⟨j, hj⟩ := List.getElem?_of_mem hx
      have hjl := (List.getElem?_eq_some_iff.mp hj).1
      have hq := h j (List.mem_range.mpr hjl)
      cases j with
      | zero => rw [okAt_zero ps x hj] at hq; exact hq
      | succ j =>
        rw [okAt_succ ps j x _ hj (List.getElem?_eq_getElem (by omega))] at hq
        exact (Bool.and_eq_true_iff.mp hq).1
    · have hi := List.mem_range.mp hi
      have hq := h (i + 1) (List.mem_range.mpr (by omega))
      rw [okAt_succ ps i _ _ (List.getElem?_eq_getElem (by omega)) (List.getElem?_eq_getElem (by omega))] at hq
      exact (Bool.and_eq_true_iff.mp hq).2
  · rintro ⟨h1, h2⟩ j hj
    have hj := List.mem_range.mp hj
    cases j with
    | zero =>
      rw [okAt_zero ps _ (List.getElem?_eq_getElem hj)]
      exact h1 _ (List.getElem_mem hj)
    | succ j =>
      rw [okAt_succ ps j _ _ (List.getElem?_eq_getElem hj) (List.getElem?_eq_getElem (by omega)), Bool.and_eq_true]
      exact ⟨h1 _ (List.getElem_mem hj), h2 j (List.mem_range.mpr (by omega))⟩
theorem pairsOf_app (st : List (Int × Itm)) (k : Kd) (v : List Int) (s : Sie) (a b : List Int) : pairsOf st k v s (a ++ b) = pairsOf st k v s a ++ pairsOf st k v s b := by
  unfold pairsOf
  rw [List.map_append, List.filter_append, List.map_append]
theorem found_keys (st : List (Int × Itm)) (k : Kd) (v : List Int) (s : Sie) : ∀ op : List Lot, pairsOf st k v s (keysOf op) = foundOf st k v s op
  | [] => rfl
  | l :: op => by
    have h := found_keys st k v s op
    unfold keysOf foundOf at h ⊢
    rw [List.flatMap_cons, List.flatMap_cons, pairsOf_app, h]
section
variable {P : Program} {w : World} {K : PySem.W.Frag} {mg : Str → Option Value} {base : Heap} {T : List (Addr × Str)} {g C : Addr} {fd : FuncData}
def f_law_is_form : FT := fun ds Φ => ∃ v : Option (List (Int × Int)), ds = [ansD v] ∧ (∀ ps, v = some ps → ps.length ≤ 1000) ∧ Φ (.bl (formA v none))
theorem ok_law_is_form (bi : BI mg) (C_law_is_number : Cal P w K mg base 1 "_law_is_number" p__law_is_number (spP K T f_is_number)) (F : FnT K "_law_is_form" s__law_is_form g fd) : FnOk P w K mg base CX0 2 g fd p__law_is_form (spP K T f_law_is_form) := by
  refine fn_okD (k := 1) bdOk0 F sc__law_is_form (fun ds Φ h => ?_) (by decide) (fun cdv A outer s H XE B ds Φ hM hHI hT hr hf => ?_)
  · obtain ⟨_, rfl, _⟩ := h; rfl
  obtain ⟨v, rfl, hlen, hf⟩ := hf
  subst hT
  have hu := hr.units0
  cases v with
  | none => exact dl_cons (ds_if (dt_not (dt_val (dw_isi bi.isinstance (da_cons (dw_v rfl (da_cons (dw_tTuple bi (da_nil ⟨_, _, _, _, rfl, rfl, rfl, false, rfl, ifB_t (dl_cons (ds_ret (dw_bl hf)))⟩)))))))))
  | some ps =>
    have hlen := hlen ps rfl
    have hf : Φ (.bl (true && formB ps)) := hf
    rw [Bool.true_and, formB_split] at hf
    refine dl_cons (ds_if (dt_not (dt_val (dw_isi bi.isinstance (da_cons (dw_v rfl (da_cons (dw_tTuple bi (da_nil ⟨_, _, _, _, rfl, rfl, rfl, true, rfl, ifB_f (dl_nil ?_)⟩)))))))))
    refine dl_cons (ds_for PassesOwn.never (fun _ _ => dg_v sc__law_is_form.nd) (di_tup (dw_v rfl ⟨_, rfl, fun i E' => (∃ s1 s2, E' = [.dt (.tup (prsD ps)), s1, s2]) ∧ ∀ j x, j < i → ps[j]? = some x → numP x = true, ⟨⟨_, _, rfl⟩, fun j x hj _ => absurd hj (Nat.not_lt_zero j)⟩, ?jt, ?je⟩)))
    case jt =>
      intro gl i d E' hd hJ
      obtain ⟨x, hx, rfl⟩ := map_get hd
      obtain ⟨⟨s1, s2, rfl⟩, hok⟩ := hJ
      have bad : numP x = false → Φ (.bl false) := fun h => by
        have e : ps.all numP = false := by
          cases e : ps.all numP with
          | false => rfl
          | true => rw [List.all_eq_true] at e; rw [e x (List.mem_of_getElem? hx)] at h; cases h
        rw [e, Bool.false_and] at hf; exact hf
      refine dl_cons (ds_if (dt_w (dtw_or (dt_not (dt_val (dw_isi bi.isinstance (da_cons (dw_v rfl (da_cons (dw_tTuple bi (da_nil ⟨_, _, _, _, rfl, rfl, rfl, true, rfl, ifB_f ?_⟩)))))))))))
      refine dtw_or (dt_ne (dw_len bi.len (da_cons (dw_v rfl (da_nil (.inr (.inl ⟨_, rfl, dw_int ⟨false, rfl, ifB_f ?_⟩⟩)))))))
      refine dtw_or (dt_not (dt_val (dw_calP C_law_is_number ‹Room _ _› (by omega) (da_cons (dw_at (dw_v rfl (dw_int ⟨_, rfl, da_nil ⟨.int x.1, rfl, rfl, _, rfl, ?_⟩⟩)))))))
      show ifB (!decide (0 ≤ x.1)) _ _
      refine ifB_n (fun h => ?a) (fun h => ?b)
      case a => exact ifB_t (dl_cons (ds_ret (dw_bl (bad (by unfold numP; rw [decide_eq_false h, Bool.false_and])))))
      case b =>
        refine dtw_or1 (dt_not (dt_val (dw_calP C_law_is_number ‹Room _ _› (by omega) (da_cons (dw_at (dw_v rfl (dw_int ⟨_, rfl, da_nil ⟨.int x.2, rfl, rfl, _, rfl, ?_⟩⟩)))))))
        show ifB (!decide (0 ≤ x.2)) _ _
        refine ifB_n (fun h2 => ?a2) (fun h2 => ?b2)
        case a2 => exact dl_cons (ds_ret (dw_bl (bad (by unfold numP; rw [decide_eq_false h2, Bool.and_false]))))
        case b2 =>
          refine dl_nil (dl_nil ⟨⟨_, _, rfl⟩, fun j y hj hy => ?_⟩)
          by_cases e : j = i
          · subst e
            rw [hx] at hy
            cases hy
            unfold numP
            rw [decide_eq_true h, decide_eq_true h2]; rfl
          · exact hok j y (by omega) hy
    case je =>
      rintro E' ⟨⟨s1, s2, rfl⟩, hok⟩
      have e : ps.all numP = true := List.all_eq_true.mpr fun x hx => by
        obtain ⟨j, hj⟩ := List.getElem?_of_mem hx
        exact hok j x (by rw [List.length_map]; exact (List.getElem?_eq_some_iff.mp hj).1) hj
      rw [e, Bool.true_and] at hf
      refine dl_cons (ds_ret (dw_all bi.all (da_cons (dw_n (dn_l [("_law_at", 2)] sc__law_is_form.nd (show BlkOk n__law_is_form (defScope s__law_is_form) _ _ from ⟨rfl, by decide +kernel, by decide +kernel, by decide +kernel, by decide +kernel⟩) (lcE (α := Nat) [("_law_at", 2)] (fun _ _ _ _ _ _ _ => dg_name 2 sc__law_is_form.nd) (by decide) (di_rng1 bi.range (da_cons (dw_sub (dw_len bi.len (da_cons (dw_v rfl (da_nil (.inr (.inl ⟨_, rfl, dw_int (da_nil ⟨_, rfl, ?r1, ?r2, List.range (ps.length - 1), fun i => .int (0 + (i : Nat)), fun _ => true, fun i => .bl (ltAt ps i), ?e, ?t, ?f⟩)⟩)))))))))))))))
      case r1 => rw [List.length_map]; omega
      case r2 => rw [List.length_map]; omega
      case e =>
        rw [List.length_map, show ((ps.length : Int) - 1).toNat = ps.length - 1 by omega]
        rfl
      case t =>
        intro gl ow i hi
        have hi := List.mem_range.mp hi
        have h0 : i < ps.length := by omega
        have h1 : i + 1 < ps.length := by omega
        obtain ⟨y, hy⟩ : ∃ y, ps[i]? = some y := ⟨_, List.getElem?_eq_getElem h0⟩
        obtain ⟨x, hx⟩ : ∃ x, ps[i + 1]? = some x := ⟨_, List.getElem?_eq_getElem h1⟩
        have a0 : atI (prsD ps) (0 + (i : Nat)) = some (prT y) := by rw [Int.zero_add]; exact atI_nat (by rw [List.getElem?_map, hy]; rfl)
        have a1 : atI (prsD ps) (0 + (i : Nat) + 1) = some (prT x) := by
          rw [show (0 + (i : Int) + 1) = ((i + 1 : Nat) : Int) by omega]
          exact atI_nat (by rw [List.getElem?_map, hx]; rfl)
        refine fun s H C cl fp => dq_nil ⟨rfl, fun _ s H C cl fp => dw_ltT hu (dw_at (dw_v rfl (dw_v rfl ⟨_, a0, dw_at (dw_v rfl (dw_add (dw_v rfl (dw_int ⟨_, a1, [y.1, y.2], [x.1, x.2], rfl, rfl, ?_⟩))))⟩)))⟩
        show Dt.bl _ = Dt.bl (ltAt ps i)
        unfold ltAt
        rw [hy, hx]
      case f =>
        refine da_nil ⟨(List.range (ps.length - 1)).map (ltAt ps), by rw [filter_tt, List.map_map]; rfl, ?_⟩
        rw [List.all_map]
        exact hf
def f_law_fault (n : Nat) : FT := fun ds Φ => ∃ (k0 : Kd) (form : Str) (lot : Lot) (room : Int) (st : List (Int × Itm)) (k : Kd) (v : List Int) (many : Int) (sv : Sie) (reach : Int) (vp : VP) (m : Nat), ds = [stD st, ixD k0 form lot room, qD k v many sv, .int reach, vpD vp] ∧
  LotOk st lot ∧ lot.cnt ≤ 1000 ∧ StOk st ∧ StL st m ∧ Sv' v ∧ v.length = m ∧ v ≠ [] ∧ sv.depth ≤ n ∧ VpOk vp ∧ (∀ a s, vp = .pap a s → (∀ ps, a = some ps → ps.length ≤ 1000) ∧ ∀ l, s = .tup l → ∀ d ∈ l, okP d) ∧ Φ (fltD (wfault k0 lot st k v reach sv vp))
theorem ok_law_fault (bi : BI mg) (n : Nat) (pf : PapF K mg) (xf : IxF K) (C_law_is_form : Cal P w K mg base 2 "_law_is_form" p__law_is_form (spP K T f_law_is_form)) (C_law_met : Cal P w K mg base (n + 7) "_law_met" p__law_met (spP K T (f_law_met n))) (C_law_pairs : Cal P w K mg base (n + 2) "_law_pairs" p__law_pairs (spP K T (f_law_pairs n))) (F : FnT K "_law_fault" s__law_fault g fd) : FnOk P w K mg base CX0 (n + 8) g fd p__law_fault (spP K T (f_law_fault n)) := by
  refine fn_okD (k := n + 7) bdOk0 F sc__law_fault (fun ds Φ h => ?_) (by decide) (fun cdv A outer s H XE B ds Φ hM hHI hT hr hf => ?_)
  · obtain ⟨_, _, _, _, _, _, _, _, _, _, _, _, rfl, _⟩ := h; rfl
  obtain ⟨k0, form, lot, room, st, k, v, many, sv, reach, vp, m, rfl, hlot, hcnt, hst, hL, hv, hvl, hvn, hn, hvp, hvx, hf⟩ := hf
  subst hT
  refine dl_cons (ds_asg (dg_tup (n := 4) rfl (dgs_cons (dg_v sc__law_fault.nd) (dgs_cons (dg_v sc__law_fault.nd) (dgs_cons (dg_v sc__law_fault.nd) (dgs_cons (dg_v sc__law_fault.nd) (dgs_nil)))))) (dw_v rfl (⟨rfl, rfl, ?_⟩)))
  cases vp with
  | non => exact dl_cons (ds_if (dt_w (dtw_or (dt_not (dt_val (dw_isC pf.is bi.isinstance (da_cons (dw_v rfl (da_cons (dw_glob (v := .ref (He.ga K "Paper")) rfl pf.mg rfl (da_nil ⟨.non, _, rfl, rfl, false, rfl, ifB_t (ifB_t (dl_cons (ds_ret (dw_tup (da_cons (dw_str (da_cons (dw_int (da_nil ⟨szl, hf⟩)))))))))⟩)))))))))))
  | tup l => exact dl_cons (ds_if (dt_w (dtw_or (dt_not (dt_val (dw_isC pf.is bi.isinstance (da_cons (dw_v rfl (da_cons (dw_glob (v := .ref (He.ga K "Paper")) rfl pf.mg rfl (da_nil ⟨.tup (prsD l), _, rfl, rfl, false, rfl, ifB_t (ifB_t (dl_cons (ds_ret (dw_tup (da_cons (dw_str (da_cons (dw_int (da_nil ⟨szl, hf⟩)))))))))⟩)))))))))))
  | pap a s =>
    obtain ⟨hpl, hsp⟩ := hvx a s rfl
    refine dl_cons (ds_if (dt_w (dtw_or (dt_not (dt_val (dw_isC pf.is bi.isinstance (da_cons (dw_v rfl (da_cons (dw_glob (v := .ref (He.ga K "Paper")) rfl pf.mg rfl (da_nil ⟨papD (ansD a) s, true, rfl, rfl, true, rfl, ifB_f ?_⟩)))))))))))
    have hf : Φ (fltD (if k0 = k then wfIn lot st k v reach sv a s else some ("kind", 0))) := hf
    refine dtw_or1 (dt_ne (dw_fld (ds := []) xf.cl xf.kn (dw_v rfl ⟨_, _, rfl, rfl, dw_v rfl ⟨_, rfl, ifB_n (fun h => ?hk) (fun h => dl_nil ?ho)⟩⟩)))
    case hk =>
      rw [if_neg (fun e => h (by rw [e]))] at hf
      exact dl_cons (ds_ret (dw_tup (da_cons (dw_str (da_cons (dw_int (da_nil ⟨szl, hf⟩)))))))
    case ho =>
      rw [if_pos (kS_inj h)] at hf
      refine dl_cons (ds_if (dt_not (dt_val (dw_calP C_law_is_form ‹Room _ _› (by omega) (da_cons (dw_fld (ds := []) pf.cl pf.an (dw_v rfl ⟨_, ansD a, rfl, rfl, da_nil ⟨a, rfl, hpl, _, rfl, ?_⟩⟩)))))))
      cases a with
      | none => exact ifB_t (dl_cons (ds_ret (dw_tup (da_cons (dw_str (da_cons (dw_int (da_nil ⟨szl, hf⟩))))))))
      | some ps =>
        have hf : Φ (fltD (if formB ps then wfOut ps reach (lookP k v sv (some reach) lot st s) else some ("answer", 0))) := hf
        show ifB (!(true && formB ps)) _ _
        rw [Bool.true_and]
        cases hfb : formB ps with
        | false =>
          rw [hfb, if_neg (by decide)] at hf
          exact ifB_t (dl_cons (ds_ret (dw_tup (da_cons (dw_str (da_cons (dw_int (da_nil ⟨szl, hf⟩))))))))
        | true =>
          rw [hfb, if_pos rfl] at hf
          refine ifB_f (dl_nil ?_)
          by_cases ht : isTup s = true
          · obtain ⟨l, rfl⟩ : ∃ l, s = .tup l := by cases s <;> first | exact ⟨_, rfl⟩ | cases ht
            obtain ⟨hl, hty⟩ := hvp.2 l rfl
            refine dl_cons (ds_if (dt_not (dt_val (dw_isi bi.isinstance (da_cons (dw_fld (ds := []) pf.cl pf.sn (dw_v rfl ⟨_, .tup l, rfl, rfl, da_cons (dw_tTuple bi (da_nil ⟨_, _, _, _, rfl, rfl, rfl, true, rfl, ifB_f (dl_nil ?_)⟩))⟩)))))))
            refine dl_cons (ds_asg (dg_tup (n := 2) rfl (dgs_cons (dg_v sc__law_fault.nd) (dgs_cons (dg_v sc__law_fault.nd) (dgs_nil)))) (dw_calP C_law_met ‹Room _ _› (by omega) (da_cons (dw_fld (ds := []) xf.cl xf.ln (dw_v rfl ⟨_, lotD lot, rfl, rfl, da_cons (dw_v rfl (da_cons (dw_v rfl (da_cons (dw_fld (ds := []) pf.cl pf.sn (dw_v rfl ⟨_, .tup l, rfl, rfl, da_nil ⟨lot, st, k, v, many, sv, some reach, l, rfl, hlot, hcnt, hv, hn, hl, fun d hd => ⟨hty d hd, hsp l rfl d hd⟩, rfl, rfl, ?_⟩⟩))))))⟩)))))
            have hwk := walk_ok (st := st) (fun d l => isStepD d k v sv (some reach) l) l 0 [lot] [] (fun m hm => by rw [List.mem_singleton.mp hm]; exact hlot) (fun m hm => by cases hm)
            unfold lookP at hf
            cases hwe : walk (fun d l => isStepD d k v sv (some reach) l) 0 l [lot] [] with
            | mk op fl =>
              simp only [hwe] at hf
              rw [hwe] at hwk
              cases fl with
              | some i => exact dl_cons (ds_if (dt_notN (dw_v rfl (dw_non ⟨rfl, rfl, true, rfl, ifB_t (dl_cons (ds_ret (dw_tup (da_cons (dw_str (da_cons (dw_v rfl (da_nil ⟨szl, hf⟩))))))))⟩))))
              | none =>
                have hf : Φ (fltD (if ((sortP (foundOf st k v sv op)).filter fun q => decide (q.1 ≤ reach)) = ps then none else some ("answer", 1))) := hf
                refine dl_cons (ds_if (dt_notN (dw_v rfl (dw_non ⟨rfl, rfl, false, rfl, ifB_f (dl_nil ?_)⟩))))
                have hkeys : ∀ i ∈ keysOf op, ∃ d, look st i = some d := fun i hi => by
                  obtain ⟨x, hx, hi⟩ := List.mem_flatMap.mp hi
                  exact (hwk.1 x hx).keys i hi
                refine dl_cons (ds_s sc__law_fault.nd (dw_tuple bi.tuple (da_cons (dw_n (dn_l [("_law_pair", 12)] sc__law_fault.nd (show BlkOk n__law_fault (defScope s__law_fault) _ _ from ⟨rfl, by decide +kernel, by decide +kernel, by decide +kernel, by decide +kernel⟩) (lcE (α := Int × Int) [("_law_pair", 12)] (fun _ _ _ _ _ _ _ => dg_name 12 sc__law_fault.nd) (by decide) (di_lst (dw_calP C_law_pairs ‹Room _ _› (by omega) (da_cons (dw_v rfl (da_cons (dw_v rfl (da_cons (dw_v rfl (da_cons (dw_v rfl (da_cons (dw_v rfl (da_nil ⟨st, k, v, sv, keysOf op, m, rfl, hn, hst, hL, hkeys, hv, hvl, hvn, _, rfl, _, prT, fun q => decide (q.1 ≤ reach), prT, rfl, ?t, ?f⟩)))))))))))))))))))
                case t =>
                  intro gl ow x hx
                  exact fun s H C cl fp => dq_one (dt_le (dw_at (dw_v rfl (dw_int ⟨_, rfl, dw_v rfl ⟨_, rfl, rfl, fun _ s H C cl fp => dw_v rfl rfl⟩⟩))))
                case f =>
                  rw [found_keys]
                  refine da_nil (.inl ⟨_, rfl, dl_cons (ds_ret (dw_if (dt_eqD hr.units (dw_v rfl (dw_fld (ds := []) pf.cl pf.an (dw_v rfl ⟨_, ansD (some ps), rfl, rfl, okP_prs _, okP_prs _, _, rfl, ?_⟩))))))⟩)
                  show ifB (PyData.eqv (pln (.tup (prsD ((sortP (foundOf st k v sv op)).filter fun q => decide (q.1 ≤ reach))))) (pln (.tup (prsD ps)))) _ _
                  rw [eqv_prs]
                  refine ifB_d (fun h => dw_non ?_) (fun h => dw_tup (da_cons (dw_str (da_cons (dw_int (da_nil ⟨szl, ?_⟩))))))
                  · rw [if_pos h] at hf; exact hf
                  · rw [if_neg h] at hf; exact hf
          · have ht : isTup s = false := by cases e : isTup s <;> first | rfl | exact (ht e).elim
            have hty := hvp.1
            have e : lookP k v sv (some reach) lot st s = .inl (-1) := by cases s <;> first | rfl | cases ht
            rw [e] at hf
            have hg : Φ (.tup [.str "step", .int (-1)]) := hf
            clear hf
            cases s <;> first | (cases hty; done) | (cases ht; done) | skip
            all_goals
              refine dl_cons (ds_if (dt_not (dt_val (dw_isi bi.isinstance (da_cons (dw_fld (ds := []) pf.cl pf.sn (dw_v rfl ⟨_, _, rfl, rfl, da_cons (dw_tTuple bi (da_nil ⟨_, _, _, _, rfl, rfl, rfl, false, rfl, ifB_t ?_⟩))⟩)))))))
              exact dl_cons (ds_ret (dw_tup (da_cons (dw_str (da_cons (dw_sub (dw_int (dw_int (da_nil ⟨szl, hg⟩)))))))))
end
end N
set_option Elab.async false
set_option linter.all false
set_option maxRecDepth 100000
set_option maxHeartbeats 1000000
namespace N
open PySem
open PySem.Spec
open PyProof.Rows
open L2
/-! R8: the law's heap of numbers, its draws. -/
/-- the heap at p: cells at q, a stir -/
structure HpS (p q : Addr) (cs : List Int) (s : Int) (H : Hp) : Prop where
  ne : p ≠ q
  hp : H p = some (.lst [.ref q, .int s])
  hq : H q = some (.lst (cs.map V.int))
  len : cs.length ≤ 1000
  lo : 0 ≤ s
  hi : s < 2147483647
def HpM (p q : Addr) : Addr → Prop := fun b => b = p ∨ b = q
def HpI (p q : Addr) : Hp → Prop := fun H => ∃ cs s, HpS p q cs s H
theorem hpBd (p q : Addr) : BdOk (HpM p q) (HpI p q) := by
  refine ⟨fun H b h m => ?_, fun H H' h e => ?_⟩
  · obtain ⟨cs, s, h⟩ := h
    rcases m with rfl | rfl
    · exact ⟨_, h.hp⟩
    · exact ⟨_, h.hq⟩
  · obtain ⟨cs, s, h⟩ := h
    exact ⟨cs, s, h.ne, by rw [e p (.inl rfl)]; exact h.hp, by rw [e q (.inr rfl)]; exact h.hq, h.len, h.lo, h.hi⟩
theorem HpS.fresh {p q r : Addr} {cs : List Int} {s : Int} {H : Hp} {o : HO} (h : HpS p q cs s H) (hr : H r = none) : HpS p q cs s (upd H r o) :=
  ⟨h.ne, by rw [upd_ne (ne_of_none h.hp hr)]; exact h.hp, by rw [upd_ne (ne_of_none h.hq hr)]; exact h.hq, h.len, h.lo, h.hi⟩
theorem HpS.cells {p q : Addr} {cs ds : List Int} {s : Int} {H : Hp} (h : HpS p q cs s H) (hl : ds.length ≤ 1000) : HpS p q ds s (upd H q (.lst (ds.map V.int))) :=
  ⟨h.ne, by rw [upd_ne h.ne]; exact h.hp, upd_same, hl, h.lo, h.hi⟩
theorem HpS.stir {p q : Addr} {cs : List Int} {s t : Int} {H : Hp} (h : HpS p q cs s H) (h0 : 0 ≤ t) (h1 : t < 2147483647) : HpS p q cs t (upd H p (.lst [.ref q, .int t])) :=
  ⟨h.ne, upd_same, by rw [upd_ne (fun e => h.ne e.symm)]; exact h.hq, h.len, h0, h1⟩
section
variable {X : Cx} {σ : L2.St} {H : Hp} {p q : Addr} {cs : List Int} {c s : Int} {x : Str} {p1 p2 p3 p4 p5 p6 p7 p8 : Pos} {j k : Nat}
/-- heap[0] -/
theorem s_e0 {Q : VK} (h : HpS p q cs s H) (hσ : σ[0]? = some (some (.ref p))) (g : Q (.ref q) H) (hN : X.N[0]? = some x := by rfl) (hv : Vis X.env.scope x := by exact Or.inl rfl) (hd : (x == ("__debug__" : Str)) = false := by decide) (hcd : (x == ("__classdict__" : Str)) = false := by decide) :
    semE X (.Subscript (.Name x p1) (.Constant (.int 0) j p2) p3) σ H Q :=
  fE (pe_ix ix_list (pe_var (i := 0) hN hv hd hcd) pe_int (by exact fun _ _ => rfl)) ⟨.ref p, hσ, p, _, 0, .ref q, rfl, rfl, SqL.of h.hp, rfl, g⟩
/-- heap[1] -/
theorem s_e1 {Q : VK} (h : HpS p q cs s H) (hσ : σ[0]? = some (some (.ref p))) (g : Q (.int s) H) (hN : X.N[0]? = some x := by rfl) (hv : Vis X.env.scope x := by exact Or.inl rfl) (hd : (x == ("__debug__" : Str)) = false := by decide) (hcd : (x == ("__classdict__" : Str)) = false := by decide) :
    semE X (.Subscript (.Name x p1) (.Constant (.int 1) j p2) p3) σ H Q :=
  fE (pe_ix ix_list (pe_var (i := 0) hN hv hd hcd) pe_int (by exact fun _ _ => rfl)) ⟨.ref p, hσ, p, _, 1, .int s, rfl, rfl, SqL.of h.hp, rfl, g⟩
/-- heap[0] != [] -/
theorem s_ne {Q : Bool → Hp → Prop} (hu : X.A.units < cLine) (h : HpS p q cs s H) (hσ : σ[0]? = some (some (.ref p))) (g : ∀ r, H r = none → Q (!cs.isEmpty) (upd H r (.lst []))) (hN : X.N[0]? = some x := by rfl) (hv : Vis X.env.scope x := by exact Or.inl rfl) (hd : (x == ("__debug__" : Str)) = false := by decide) (hcd : (x == ("__classdict__" : Str)) = false := by decide) :
    semT X (.Compare (.Subscript (.Name x p1) (.Constant (.int 0) j p2) p3) [.NotEq] [.List [] p4] p5) σ H Q :=
  fT (pt_cmpR (op_nnil hu) qE (pe_lst pa_nil) (nomark _)) (s_e0 h hσ ⟨Nat.zero_le _, fun r hr => by
    have h2 := h.fresh (o := .lst []) hr
    refine ⟨q, r, cs.map V.int, rfl, rfl, SqL.of h2.hq, SqL.of upd_same, _, rfl, ?_⟩
    have e : (cs.map V.int).isEmpty = cs.isEmpty := by cases cs <;> rfl
    rw [e]
    exact g r hr⟩ hN hv hd hcd)
/-- heap[0][-1] == 0 -/
theorem s_last {Q : Bool → Hp → Prop} (h : HpS p q (cs ++ [c]) s H) (hσ : σ[0]? = some (some (.ref p))) (g : Q (decide (c = 0)) H) (hN : X.N[0]? = some x := by rfl) (hv : Vis X.env.scope x := by exact Or.inl rfl) (hd : (x == ("__debug__" : Str)) = false := by decide) (hcd : (x == ("__classdict__" : Str)) = false := by decide) :
    semT X (.Compare (.Subscript (.Subscript (.Name x p1) (.Constant (.int 0) j p2) p3) (.UnaryOp .USub (.Constant (.int 1) k p4) p5) p6) [.Eq] [.Constant (.int 0) k p7] p8) σ H Q :=
  fT (pt_cmpR op_eq (pe_ix ix_list qE (pe_un un_neg pe_int) (by exact fun _ _ => rfl)) pe_int (nomark _)) (s_e0 h hσ (by
    refine ⟨1, rfl, ?_⟩
    refine ⟨q, (cs ++ [c]).map V.int, -1, .int c, rfl, rfl, SqL.of h.hq, by rw [List.map_append]; exact atI_last _ _, ?_⟩
    refine ⟨rfl, _, rfl, ?_⟩
    rw [dec_v (f := V.int) (fun _ _ h => by injection h)]
    exact g) hN hv hd hcd)
end
end N
set_option Elab.async false
set_option linter.all false
set_option maxRecDepth 100000
set_option maxHeartbeats 1000000
namespace N
open PySem
open PySem.Spec
open PyProof.Rows
open L2
/-! R9: _law_draw. -/
theorem tabs_keep {T : List (Addr × Str)} {H H' : Hp} (t : LamX.Tabs T H) (h : ∀ b o, H b = some o → (∀ xs, o ≠ .lst xs) → H' b = some o) : LamX.Tabs T H' := fun p hp => by
  obtain ⟨ps, hP, tr, hc⟩ := t p hp
  refine ⟨ps, h _ _ hP (fun xs e => by cases e), tr, fun po cv hcv => ?_⟩
  obtain ⟨c, e1, e2⟩ := hc po cv hcv
  exact ⟨c, e1, h _ _ e2 (fun xs e => by unfold LamX.CodeO at e; cases e)⟩
/-- all but the heap's two lists is kept -/
def KeepH (p q : Addr) (H H' : Hp) : Prop := ∀ b o, H b = some o → b ≠ p → b ≠ q → H' b = some o
theorem KeepH.fresh {p q r : Addr} {H H' : Hp} {o : HO} (k : KeepH p q H H') (hr : H' r = none) : KeepH p q H (upd H' r o) := fun b u e h1 h2 => by
  have := k b u e h1 h2
  rw [upd_ne (ne_of_none this hr)]; exact this
theorem KeepH.q {p q : Addr} {H H' : Hp} {o : HO} (k : KeepH p q H H') : KeepH p q H (upd H' q o) := fun b u e h1 h2 => by rw [upd_ne h2]; exact k b u e h1 h2
theorem KeepH.p {p q : Addr} {H H' : Hp} {o : HO} (k : KeepH p q H H') : KeepH p q H (upd H' p o) := fun b u e h1 h2 => by rw [upd_ne h1]; exact k b u e h1 h2
section
variable {X : Cx} {σ : L2.St} {H : Hp} {p q : Addr} {cs : List Int} {c s : Int} {x : Str} {p1 p2 p3 p4 p5 p6 p7 : Pos} {j k : Nat} {e : Expr}
/-- heap[0].pop() -/
theorem s_pop {Q : VK} (h : HpS p q (cs ++ [c]) s H) (hσ : σ[0]? = some (some (.ref p))) (g : Q (.int c) (upd H q (.lst (cs.map V.int)))) (hN : X.N[0]? = some x := by rfl) (hv : Vis X.env.scope x := by exact Or.inl rfl) (hd : (x == ("__debug__" : Str)) = false := by decide) (hcd : (x == ("__classdict__" : Str)) = false := by decide)
    (hb : attributeBase (.Subscript (.Name x p1) (.Constant (.int 0) j p2) p3) "pop" X.env (eval (.Subscript (.Name x p1) (.Constant (.int 0) j p2) p3) X.env) = eval (.Subscript (.Name x p1) (.Constant (.int 0) j p2) p3) X.env := by rfl) (hl : (p4.endLine == p5.line) = true := by rfl) :
    semE X (.Call (.Attribute (.Subscript (.Name x p1) (.Constant (.int 0) j p2) p3) "pop" p4) [] [] p5) σ H Q :=
  fE (pe_bm0 PySem.F.plainAttrs_list PySem.F.slot_list_pop PySem.F.type_list_pop mt_pop qE hb hl) (s_e0 h hσ (by
    refine ⟨tyL h.hq, q, (cs ++ [c]).map V.int, .int c, rfl, rfl, h.hq, ?_, ?_⟩
    · rw [List.length_map, List.length_append, List.length_singleton, Nat.add_sub_cancel, List.map_append, List.getElem?_append_right (by rw [List.length_map]; exact Nat.le_refl _), List.length_map, Nat.sub_self]
      rfl
    · rw [List.map_append, show List.map V.int [c] = [V.int c] from rfl, List.dropLast_concat]
      exact g) hN hv hd hcd)
/-- heap[0].append(e) -/
theorem s_app {Q : VK} (h : HpS p q cs s H) (hσ : σ[0]? = some (some (.ref p))) (hlen : cs.length < 1000) (he : semE X e σ H fun v H1 => ∃ i : Int, v = .int i ∧ H1 = H ∧ Q .non (upd H q (.lst ((cs ++ [i]).map V.int)))) (hN : X.N[0]? = some x := by rfl) (hv : Vis X.env.scope x := by exact Or.inl rfl) (hd : (x == ("__debug__" : Str)) = false := by decide) (hcd : (x == ("__classdict__" : Str)) = false := by decide)
    (hb : attributeBase (.Subscript (.Name x p1) (.Constant (.int 0) j p2) p3) "append" X.env (eval (.Subscript (.Name x p1) (.Constant (.int 0) j p2) p3) X.env) = eval (.Subscript (.Name x p1) (.Constant (.int 0) j p2) p3) X.env := by rfl)
    (hfew : ((backTo p5 (starEach [e] X.env)).all (fun x => !x.1) && (backToKw p5 (keywordEach [] X.env)).all (fun x => x.1.isSome) && decide ([e].length + ([] : List Keyword).length + (if ([] : List Keyword).isEmpty then 0 else 1) < 30)) = true := by rfl)
    (hl : (p4.endLine == p5.line) = true := by rfl) (hst : starEach [e] X.env = (false, eval e X.env) :: starEach [] X.env := by rfl) (hp : (backTo p5 (starEach [] X.env)).any (·.1) = false := by rfl) :
    semE X (.Call (.Attribute (.Subscript (.Name x p1) (.Constant (.int 0) j p2) p3) "append" p4) [e] [] p5) σ H Q :=
  fE (pe_bm PySem.F.plainAttrs_list PySem.F.slot_list_append PySem.F.type_list_append mt_append qE (pa_cons qE pa_nil hst) hb hfew hl hst hp) (s_e0 h hσ (by
    refine ⟨tyL h.hq, ?_⟩
    refine semE_mono he fun v H1 hv => ?_
    obtain ⟨i, rfl, rfl, g⟩ := hv
    refine ⟨q, cs.map V.int, .int i, rfl, rfl, h.hq, by rw [List.length_map]; exact Nat.lt_of_lt_of_le hlen (Nat.le_trans (show 1000 ≤ 1000 by omega) szl), ?_⟩
    rw [List.map_append] at g
    exact g) hN hv hd hcd)
end
def f_draw (p : Addr) : FT := fun ds Φ => ∃ many : Int, ds = [.raw (.ref p), .int many] ∧ 0 < many ∧ many < 1073741824 ∧ ∀ r : Int, 0 ≤ r → r < many → Φ (.int r)
section
variable {P : Program} {w : World} {K : PySem.W.Frag} {mg : Str → Option Value} {base : Heap} {T : List (Addr × Str)} {g C : Addr} {fd : FuncData}
theorem ok_law_draw (bi : BI mg) (p q : Addr) (F : FnT K "_law_draw" s__law_draw g fd) : FnOk P w K mg base CX0 1 g fd p__law_draw (spD K (HpM p q) (HpI p q) T (f_draw p)) := by
  refine F.ok (k := 0) sc__law_draw (fun vs H Q E h => ?_) (fun cdv A outer s H vs Q E hr h => ?_)
  · obtain ⟨G, ds, Φ, _, _, _, _, r, ⟨m, rfl, _⟩, _⟩ := h
    rw [r.len]; rfl
  obtain ⟨G, ds, Φ, cl, gm, tb, hi, r, ⟨many, rfl, hm0, hm1, hf⟩, k⟩ := h
  cases r with
  | cons r0 r => cases r with
    | cons r1 r =>
      cases r; cases r0; cases r1
      refine ⟨semL (cxOf CX0 P w K mg base n__law_draw "_law_draw" (defScope s__law_draw) g cdv A outer s H E).nox (defBody s__law_draw), (qL : PSs (cxOf CX0 P w K mg base n__law_draw "_law_draw" (defScope s__law_draw) g cdv A outer s H E).nox _ _).nox, ?_⟩
      have hu : (cxOf CX0 P w K mg base n__law_draw "_law_draw" (defScope s__law_draw) g cdv A outer s H E).nox.A.units < cLine := hr.units0
      have fin : ∀ (H' : Hp) (z : Int), KeepH p q H H' → HpI p q H' → 0 ≤ z → z < many → Q (.int z) H' := fun H' z kp hi' h0 h1 => by
        have gp : ∀ b o, G b = some o → b ≠ p ∧ b ≠ q := fun b o e => ⟨fun z => (by rw [z, gm p (.inl rfl)] at e; cases e), fun z => (by rw [z, gm q (.inr rfl)] at e; cases e)⟩
        refine k _ _ G H' ⟨fun _ _ h => h, fun b o e _ n => kp b o e (fun z => n (.inl z)) (fun z => n (.inr z)), fun b o e => ?_, fun _ _ h => .inl h⟩ ⟨fun b o e => kp b o (cl.sub b o e) (gp b o e).1 (gp b o e).2, cl.ntb⟩ (tabs_keep tb fun b o e n => ?_) hi' (.int z) (hf z h0 h1)
        · obtain ⟨cs', s', h'⟩ := hi'
          by_cases e1 : b = p
          · exact ⟨_, by rw [e1]; exact h'.hp⟩
          · by_cases e2 : b = q
            · exact ⟨_, by rw [e2]; exact h'.hq⟩
            · exact ⟨o, kp b o e e1 e2⟩
        · obtain ⟨cs0, s0, h0'⟩ := hi
          exact kp b o e (fun z => n _ (by rw [z, h0'.hp] at e; exact (Option.some.inj e).symm)) (fun z => n _ (by rw [z, h0'.hq] at e; exact (Option.some.inj e).symm))
      obtain ⟨cs0, s0, hs0⟩ := hi
      refine fL (pss_cons qS qL) (fS (ps_while PassesOwn.never qT qL) ?_)
      refine ⟨fun m σ' H' => σ' = L2.start n__law_draw [.ref p, .int many] ∧ ∃ cs s, cs.length = m ∧ HpS p q cs s H' ∧ KeepH p q H H', ⟨cs0.length, rfl, cs0, s0, rfl, hs0, fun b o e _ _ => e⟩, ?_⟩
      rintro m σ' H' ⟨rfl, cs, s', hl, hs, kp⟩
      refine fT qW.pt (fW (pw_and qT qW) (s_ne hu hs rfl fun r hr0 => ?_))
      have hs1 := hs.fresh (o := .lst []) hr0
      have kp1 := kp.fresh (o := .lst []) hr0
      -- behind the loop
      have rest : ∀ H2, HpS p q cs s' H2 → KeepH p q H H2 → semL (cxOf CX0 P w K mg base n__law_draw "_law_draw" (defScope s__law_draw) g cdv A outer s H E).nox ((defBody s__law_draw).drop 1) { nx := fun _ H' => Q .non H', rt := Q } (L2.start n__law_draw [.ref p, .int many]) H2 := by
        intro H2 hs kp
        refine fL (pss_cons qS qL) (fS (ps_if qT qL qL) (s_ne hu hs rfl fun r hr0 => ?_))
        have hs1 := hs.fresh (o := .lst []) hr0
        have kp1 := kp.fresh (o := .lst []) hr0
        rcases List.eq_nil_or_concat cs with rfl | ⟨ys, c, rfl⟩
        · refine fL pss_nil ?_
          have h0 := hs1.lo
          have h1 := hs1.hi
          refine fL (pss_cons qS qL) (fS (ps_asg qE (pg_sub (pe_var (i := 0) rfl (Or.inl rfl)) pe_int set_list)) ?_)
          refine fE (pe_op op_mod qE pe_int) ?_
          refine fE (pe_callTy call_int1 (by rfl) bi.int (by decide +kernel) (pa_cons (pe_op op_add (pe_op op_mul qE pe_int) pe_int) pa_nil (by rfl))) ?_
          refine s_e1 hs1 rfl ?_
          refine ⟨_, _, rfl, rfl, .inr (by omega), _, _, rfl, rfl, .inl ⟨_, rfl, _, _, rfl, rfl, (by omega), ?_⟩⟩
          have ht0 : 0 ≤ (s' * 69621 + 59) % 2147483647 := Int.emod_nonneg _ (by omega)
          have ht1 : (s' * 69621 + 59) % 2147483647 < 2147483647 := Int.emod_lt_of_pos _ (by omega)
          refine ⟨.ref p, rfl, p, [.ref q, .int s'], 1, 1, rfl, rfl, hs1.hp, rfl, ?_⟩
          have hs2 := hs1.stir ht0 ht1
          refine fL (pss_one (ps_ret (pe_op op_mod (pe_callTy call_int1 (by rfl) bi.int (by decide +kernel) (pa_cons (pe_op op_fdiv qE pe_int) pa_nil (by rfl))) (pe_var (i := 1) rfl (Or.inl rfl))))) ?_
          refine s_e1 hs2 rfl ?_
          refine ⟨_, _, rfl, rfl, (by unfold CDiv; omega), .inl ⟨_, rfl, .int many, rfl, _, many, rfl, rfl, hm0, ?_⟩⟩
          exact fin _ _ kp1.p ⟨_, _, hs2⟩ (Int.emod_nonneg _ (by omega)) (Int.emod_lt_of_pos _ hm0)
        · rw [List.concat_eq_append] at *
          have hne : (!(ys ++ [c]).isEmpty) = true := by simp
          rw [hne]
          have hl1 := hs1.len
          rw [List.length_append, List.length_singleton] at hl1
          refine fL (pss_cons (ps_set (i := 2) sc__law_draw.nd rfl (Or.inl rfl) qE) qL) (s_pop hs1 rfl ?_)
          have hs2 := hs1.cells (ds := ys) (by omega)
          refine fL (pss_cons (ps_expr qE) qL) (s_app hs2 rfl (by omega) ?_)
          refine fE (pe_op op_fdiv (pe_var (i := 2) rfl (Or.inl rfl)) (pe_var (i := 1) rfl (Or.inl rfl))) ?_
          refine ⟨.int c, rfl, .int many, rfl, c, many, rfl, rfl, ⟨hm0, hm1⟩, c / many, rfl, rfl, ?_⟩
          have hs3 := hs2.cells (ds := ys ++ [c / many]) (by rw [List.length_append, List.length_singleton]; omega)
          refine fL (pss_one (ps_ret (pe_op op_mod (pe_callTy call_int1 (by rfl) bi.int (by decide +kernel) (pa_cons (pe_var (i := 2) rfl (Or.inl rfl)) pa_nil (by rfl))) (pe_var (i := 1) rfl (Or.inl rfl))))) ?_
          refine ⟨.int c, rfl, .inl ⟨c, rfl, .int many, rfl, c, many, rfl, rfl, hm0, ?_⟩⟩
          exact fin _ _ kp1.q.q ⟨_, _, hs3⟩ (Int.emod_nonneg _ (by omega)) (Int.emod_lt_of_pos _ hm0)
      rcases List.eq_nil_or_concat cs with rfl | ⟨ys, c, rfl⟩
      · exact rest _ hs1 kp1
      · rw [List.concat_eq_append] at *
        have hne : (!(ys ++ [c]).isEmpty) = true := by simp
        rw [hne]
        refine fW (pw_and1 qT) (s_last hs1 rfl ?_)
        by_cases hc : c = 0
        · rw [decide_eq_true hc]
          refine ⟨fun σ3 H3 => σ3 = L2.start n__law_draw [.ref p, .int many] ∧ ∃ cs s, cs.length = ys.length ∧ HpS p q cs s H3 ∧ KeepH p q H H3, fun σ3 H3 h3 => ⟨ys.length, ?_, h3⟩, ?_⟩
          · rw [← hl, List.length_append, List.length_singleton]; exact Nat.lt_succ_self _
          · refine fL (pss_one (ps_expr qE)) (s_pop hs1 rfl ?_)
            refine ⟨rfl, ys, s', rfl, hs1.cells ?_, kp1.q⟩
            have := hs1.len
            rw [List.length_append] at this; omega
        · rw [decide_eq_false hc]
          exact rest _ hs1 kp1
end
end N
set_option Elab.async false
set_option linter.all false
set_option maxRecDepth 100000
set_option maxHeartbeats 1000000
namespace N
open PySem
open PySem.Spec
open PyProof.Rows
open L2
/-! R10: _law_pick, _law_vector. -/
section
variable {P : Program} {w : World} {K : PySem.W.Frag} {mg : Str → Option Value} {base : Heap} {T : List (Addr × Str)} {g C : Addr} {fd : FuncData}
theorem cmS {M : Addr → Prop} {HI : Hp → Prop} {B : Bd} (h1 : B.M = M) (h2 : B.HI = HI) : BdOk B.M B.HI → Cmp M HI B := fun _ => by subst h1 h2; exact Cmp.same B
/-- the draws, as others call them -/
abbrev CDraw (P : Program) (w : World) (K : PySem.W.Frag) (mg : Str → Option Value) (base : Heap) (T : List (Addr × Str)) (p q : Addr) : Prop := Cal P w K mg base 1 "_law_draw" p__law_draw (spD K (HpM p q) (HpI p q) T (f_draw p))
def f_pick (p : Addr) : FT := fun ds Φ => ∃ l, ds = [.raw (.ref p), .lst l] ∧ l ≠ [] ∧ l.length < 1073741824 ∧ ∀ d ∈ l, Φ d
theorem ok_law_pick (bi : BI mg) (p q : Addr) (CD : CDraw P w K mg base T p q) (F : FnT K "_law_pick" s__law_pick g fd) : FnOk P w K mg base CX0 2 g fd p__law_pick (spD K (HpM p q) (HpI p q) T (f_pick p)) := by
  refine fn_okD (k := 1) (hpBd p q) F sc__law_pick (fun ds Φ h => ?_) (by decide) (fun cdv A outer s H XE B ds Φ hM hHI hT hr hf => ?_)
  · obtain ⟨x, rfl, _⟩ := h; rfl
  obtain ⟨l, rfl, hne, hlt, hf⟩ := hf
  subst hT
  refine dl_cons (ds_ret (dw_at (dw_v rfl (dw_cal CD (cmS hM hHI) ‹Room _ _› (by decide) (da_cons (dw_v rfl (da_cons (dw_len bi.len (da_cons (dw_v rfl (da_nil (.inl ⟨_, rfl, da_nil ⟨(l.length : Int), rfl, ?h1, ?h2, fun r h0 h1 => ?h3⟩⟩))))))))))))
  case h1 => have := List.length_pos_iff.mpr hne; omega
  case h2 => omega
  case h3 =>
    have hi : r.toNat < l.length := by omega
    refine ⟨l[r.toNat], ?_, hf _ (List.getElem_mem hi)⟩
    have e : ((r.toNat : Nat) : Int) = r := by omega
    have h := atI_nat (List.getElem?_eq_getElem hi)
    rw [e] at h
    exact h
abbrev CPick (P : Program) (w : World) (K : PySem.W.Frag) (mg : Str → Option Value) (base : Heap) (T : List (Addr × Str)) (p q : Addr) : Prop := Cal P w K mg base 2 "_law_pick" p__law_pick (spD K (HpM p q) (HpI p q) T (f_pick p))
def f_vector (p : Addr) : FT := fun ds Φ => ∃ n w : Int, ds = [.raw (.ref p), .int n, .int w] ∧ 0 ≤ n ∧ n ≤ 100 ∧ 0 ≤ w ∧ w ≤ 1000 ∧ ∀ v : List Int, (v.length : Int) = n → (∀ i ∈ v, -w ≤ i ∧ i ≤ w) → Φ (vecD v)
theorem ok_law_vector (bi : BI mg) (p q : Addr) (CD : CDraw P w K mg base T p q) (F : FnT K "_law_vector" s__law_vector g fd) : FnOk P w K mg base CX0 2 g fd p__law_vector (spD K (HpM p q) (HpI p q) T (f_vector p)) := by
  refine fn_okD (k := 1) (hpBd p q) F sc__law_vector (fun ds Φ h => ?_) (by decide) (fun cdv A outer s H XE B ds Φ hM hHI hT hr hf => ?_)
  · obtain ⟨x, y, rfl, _⟩ := h; rfl
  obtain ⟨n, wd, rfl, hn0, hn1, hw0, hw1, hf⟩ := hf
  subst hT
  refine dl_cons (ds_ret (dw_tuple bi.tuple (da_cons (dw_n (dn_l [("_law_place", 3)] sc__law_vector.nd (show BlkOk n__law_vector (defScope s__law_vector) _ _ from ⟨rfl, by decide +kernel, by decide +kernel, by decide +kernel, by decide +kernel⟩) (lcR0 [("_law_place", 3)] (fun _ _ _ _ _ _ _ => dg_name 3 sc__law_vector.nd) (by decide) (di_rng1 bi.range (da_cons (dw_v rfl (da_nil ⟨n, rfl, by omega, by omega, ⟨fun d => ∃ i : Int, d = .int i ∧ -wd ≤ i ∧ i ≤ wd, ?t, ?f⟩⟩))))))))))
  case t =>
    intro gl ow d hd
    refine fun s H C cl fp => ?_
    refine dw_sub (dw_cal CD (cmS hM hHI) ‹Room _ _› (by decide) (da_cons (dw_v rfl (da_cons (dw_addI (dw_mul (dw_int (dw_v rfl ⟨.inl ⟨by omega, by omega⟩, dw_int (da_nil ⟨_, rfl, by omega, by omega, fun r h0 h1 => dw_v rfl ⟨r - wd, rfl, by omega, by omega⟩⟩)⟩))))))))
  case f =>
    intro ys hl hys
    rw [rngD_len] at hl
    have : ∃ v : List Int, ys = v.map .int ∧ ∀ i ∈ v, -wd ≤ i ∧ i ≤ wd := by
      clear hl
      induction ys with
      | nil => exact ⟨[], rfl, fun i h => by cases h⟩
      | cons y ys ih =>
        obtain ⟨i, rfl, hi⟩ := hys y List.mem_cons_self
        obtain ⟨v, rfl, hv⟩ := ih fun z hz => hys z (List.mem_cons_of_mem _ hz)
        refine ⟨i :: v, rfl, fun j hj => ?_⟩
        rcases List.mem_cons.mp hj with rfl | hj
        · exact hi
        · exact hv j hj
    obtain ⟨v, rfl, hv⟩ := this
    rw [List.length_map] at hl
    exact da_nil (.inl ⟨_, rfl, hf v (by omega) hv⟩)
end
end N
set_option Elab.async false
set_option linter.all false
set_option maxRecDepth 100000
set_option maxHeartbeats 1000000
namespace N
open PySem
open PySem.Spec
open PyProof.Rows
open L2
/-! R11: _law_sieve. -/
section
variable {P : Program} {w : World} {K : PySem.W.Frag} {mg : Str → Option Value} {base : Heap} {T : List (Addr × Str)} {g C : Addr} {fd : FuncData}
def f_sieve (p : Addr) (n : Nat) : FT := fun ds Φ => ∃ (ns : List Str) (m : Nat), ds = [.raw (.ref p), .lst (ns.map .str), .int m] ∧ m ≤ n ∧ ns ≠ [] ∧ ns.length < 1073741824 ∧ ∀ s : Sie, s.depth ≤ m → Φ (sieD s)
theorem ok_law_sieve (bi : BI mg) (p q : Addr) (CD : CDraw P w K mg base T p q) (CP : CPick P w K mg base T p q) (n : Nat) (IH : ∀ m, m + 1 = n → Cal P w K mg base (m + 3) "_law_sieve" p__law_sieve (spD K (HpM p q) (HpI p q) T (f_sieve p m))) (F : FnT K "_law_sieve" s__law_sieve g fd) : FnOk P w K mg base CX0 (n + 3) g fd p__law_sieve (spD K (HpM p q) (HpI p q) T (f_sieve p n)) := by
  refine fn_okD (k := n + 2) (hpBd p q) F sc__law_sieve (fun ds Φ h => ?_) (by decide) (fun cdv A outer s H XE B ds Φ hM hHI hT hr hf => ?_)
  · obtain ⟨x, y, rfl, _⟩ := h; rfl
  obtain ⟨ns, dep, rfl, hdn, hne, hlt, hf⟩ := hf
  subst hT
  refine dl_cons (ds_par (ixS n__law_sieve "_law_kind") (ixS n__law_sieve "_law_name") (da_cons (dw_cal CD (cmS hM hHI) ‹Room _ _› (by omega) (da_cons (dw_v rfl (da_cons (DW.im (Φ' := fun d => ∃ m : Int, d = .int m ∧ (m = 4 ∨ m = 8 ∧ 0 < dep)) ?a fun d hd => ?b)))))) sc__law_sieve.nd)
  case a => exact dw_if (dt_gt (dw_v rfl (dw_int ⟨_, rfl, ifB_d (fun h => dw_int ⟨_, rfl, .inr ⟨rfl, by omega⟩⟩) (fun h => dw_int ⟨_, rfl, .inl rfl⟩)⟩)))
  case b =>
    obtain ⟨mk, rfl, hmk⟩ := hd
    refine da_nil ⟨mk, rfl, by omega, by omega, fun kd k0 k1 => da_cons (dw_cal CP (cmS hM hHI) ‹Room _ _› (by omega) (da_cons (dw_v rfl (da_cons (dw_v rfl (da_nil ⟨_, rfl, by simpa using hne, by rw [List.length_map]; exact hlt, fun d hd => ?c⟩))))))⟩
    obtain ⟨nm, _, rfl⟩ := List.mem_map.mp hd
    refine da_nil ⟨_, _, rfl, ?_⟩
    refine dl_cons (ds_if (dt_lt (dw_v rfl (dw_int ⟨_, rfl, ifB_d (fun h => ?h8) (fun h2 => dl_nil ?h9)⟩))))
    case h8 => exact dl_cons (ds_ret (dw_tup (da_cons (dw_str (da_nil ⟨szl, hf .all (Nat.zero_le _)⟩)))))
    case h9 =>
      refine dl_cons (ds_if (dt_eq (dw_v rfl (dw_int ⟨_, rfl, ifB_d (fun h => ?h11) (fun h3 => dl_nil ?h12)⟩))))
      case h11 => exact dl_cons (ds_ret (dw_tup (da_cons (dw_str (da_cons (dw_v rfl (da_nil ⟨szl, hf (.has nm) (Nat.zero_le _)⟩)))))))
      case h12 =>
        refine dl_cons (ds_if (dt_eq (dw_v rfl (dw_int ⟨_, rfl, ifB_d (fun h => ?h14) (fun h4 => dl_nil ?h15)⟩))))
        case h14 =>
          refine dl_cons (ds_s sc__law_sieve.nd (dw_sub (dw_cal CD (cmS hM hHI) ‹Room _ _› (by omega) (da_cons (dw_v rfl (da_cons (dw_int (da_nil ⟨_, rfl, by decide, by decide, fun r _ _ => dw_int ?h16⟩))))))))
          exact dl_cons (ds_ret (dw_tup (da_cons (dw_str (da_cons (dw_v rfl (da_cons (dw_v rfl (da_cons (dw_add (dw_v rfl (dw_cal CD (cmS hM hHI) ‹Room _ _› (by omega) (da_cons (dw_v rfl (da_cons (dw_int (da_nil ⟨_, rfl, by decide, by decide, fun r2 _ _ => da_nil ⟨szl, hf (.rng nm (r - 3) (r - 3 + r2)) (Nat.zero_le _)⟩⟩)))))))))))))))))
        case h15 =>
          obtain ⟨m, rfl⟩ : ∃ m, n = m + 1 := ⟨n - 1, by omega⟩
          obtain ⟨e, rfl⟩ : ∃ e, dep = e + 1 := ⟨dep - 1, by omega⟩
          have he : (((e + 1 : Nat) : Int) - 1) = (e : Nat) := by omega
          refine dl_cons (ds_if (dt_eq (dw_v rfl (dw_int ⟨_, rfl, ifB_d (fun h => ?h22) (fun h5 => dl_nil ?h23)⟩))))
          case h22 => exact dl_cons (ds_ret (dw_tup (da_cons (dw_str (da_cons (dw_cal (IH m rfl) (cmS hM hHI) ‹Room _ _› (by omega) (da_cons (dw_v rfl (da_cons (dw_v rfl (da_cons (dw_sub (dw_v rfl (dw_int (da_nil ⟨ns, e, congrArg (fun z => [Dt.raw (V.ref p), Dt.lst (ns.map Dt.str), Dt.int z]) he, by omega, hne, hlt, fun s hs => da_nil ⟨szl, hf (.nt s) (by simp only [Sie.depth]; omega)⟩⟩)))))))))))))))
          case h23 =>
            refine dl_cons (ds_ret (dw_tup (da_cons (dw_cal CP (cmS hM hHI) ‹Room _ _› (by omega) (da_cons (dw_v rfl (da_cons (dw_n (dn_lst (da_cons (dw_str (da_cons (dw_str (da_nil ⟨szl, da_nil ⟨_, rfl, by simp, by decide, fun wd hwd => ?h33⟩⟩))))))))))))))
            refine da_cons (dw_cal (IH m rfl) (cmS hM hHI) ‹Room _ _› (by omega) (da_cons (dw_v rfl (da_cons (dw_v rfl (da_cons (dw_sub (dw_v rfl (dw_int (da_nil ⟨ns, e, congrArg (fun z => [Dt.raw (V.ref p), Dt.lst (ns.map Dt.str), Dt.int z]) he, by omega, hne, hlt, fun s1 hs1 => ?_⟩))))))))))
            refine da_cons (dw_cal (IH m rfl) (cmS hM hHI) ‹Room _ _› (by omega) (da_cons (dw_v rfl (da_cons (dw_v rfl (da_cons (dw_sub (dw_v rfl (dw_int (da_nil ⟨ns, e, congrArg (fun z => [Dt.raw (V.ref p), Dt.lst (ns.map Dt.str), Dt.int z]) he, by omega, hne, hlt, fun s2 hs2 => da_nil ⟨szl, ?_⟩⟩))))))))))
            rcases List.mem_cons.mp hwd with rfl | hwd
            · exact hf (.an s1 s2) (by simp only [Sie.depth]; omega)
            · rcases List.mem_cons.mp hwd with rfl | hwd
              · exact hf (.orr s1 s2) (by simp only [Sie.depth]; omega)
              · cases hwd
end
end N
set_option Elab.async false
set_option linter.all false
set_option maxRecDepth 100000
set_option maxHeartbeats 1000000
namespace N
open PySem
open PySem.Spec
open PyProof.Rows
open L2
/-! DZ: a dict of the body's own. -/
def kI (l : List (Int × Dt)) : List (Key × Dt) := l.map fun q => (.inl q.1, q.2)
theorem rpk_d {K : PySem.W.Frag} {G : Hp} : ∀ {l : List (Int × Dt)} {vs : List (Key × V)}, RpK K G vs (kI l) → RpD K G vs l
  | [], _, .nil => .nil
  | (i, d) :: l, _, .cons h r => .cons h (rpk_d r)
section
variable {X : Cx} {B : Bd} {E : Ev} {Φ : Dt → Prop} {Ψ : Ed} {e a b c : Expr} {es : List Expr} {pos p1 p2 p3 : Pos} {st : Stmt} {sts body : List Stmt} {x y : Str}
theorem Stt.freezeD {K : PySem.W.Frag} {σ : L2.St} {G H : Hp} (S : Stt K B E σ G H) {i : Nat} {l : Addr} {ds : List (Int × Dt)} (hE : E[i]? = some (.ownD l (kI ds))) : ∃ G', Stt K B (E.set i (.dt (.dic ds))) σ G' H ∧ GLe G G' := by
  obtain ⟨hv, gl, h0, m, xs, hl, r⟩ := S.sl i _ hE
  have hlt : i < E.length := (List.getElem?_eq_some_iff.mp hE).1
  have gg : GLe G (upd G l (.dK xs)) := fun b o h => by
    rw [upd_ne (ne_of_none h gl)]; exact h
  refine ⟨upd G l (.dK xs), ⟨S.bok, ⟨GLe.tr S.ext.gg gg, S.ext.keep, S.ext.live, fun b o h => ?_⟩, ⟨fun b o h => ?_, fun b ps h => ?_⟩, S.tab, S.hi, fun b mb => ?_, by rw [List.length_set]; exact S.len, fun j s h => ?_, fun a b s u l' ha hb sa ub => ?_, GLe.tr S.low gg, fun p hp => ?_, fun p hp j s h => ?_, S.gnd⟩, gg⟩
  · by_cases e : b = l
    · right; rw [e]; exact h0
    · rw [upd_ne e] at h; exact S.ext.new b o h
  · by_cases e : b = l
    · rw [e] at h ⊢; rw [upd_same] at h; cases h; exact hl
    · rw [upd_ne e] at h; exact S.cln.sub b o h
  · by_cases e : b = l
    · rw [e, upd_same] at h; cases h
    · rw [upd_ne e] at h; exact S.cln.ntb b ps h
  · rw [upd_ne (fun e : b = l => m (by rw [← e]; exact mb))]; exact S.gm b mb
  · by_cases e : i = j
    · subst e
      rw [List.getElem?_set_self hlt] at h
      cases h
      exact ⟨_, hv, .dic upd_same (rpk_d (r.le gg))⟩
    · rw [List.getElem?_set_ne e] at h
      have q := S.sl j s h
      cases s with
      | un => trivial
      | dt d => obtain ⟨v, hv, r⟩ := q; exact ⟨v, hv, r.le gg⟩
      | own l2 ds2 =>
        obtain ⟨hv, g2, h02, m2, xs2, hl2, r2, z2⟩ := q
        have ne : l2 ≠ l := fun q => e (S.dis i j _ _ l hE h rfl (by rw [q]; rfl))
        exact ⟨hv, by rw [upd_ne ne]; exact g2, h02, m2, xs2, hl2, r2.le gg, z2⟩
      | ownD l2 ds2 =>
        obtain ⟨hv, g2, h02, m2, xs2, hl2, r2⟩ := q
        have ne : l2 ≠ l := fun q => e (S.dis i j _ _ l hE h rfl (by rw [q]; rfl))
        exact ⟨hv, by rw [upd_ne ne]; exact g2, h02, m2, xs2, hl2, r2.le gg⟩
  · by_cases ea : i = a
    · subst ea
      rw [List.getElem?_set_self hlt] at ha
      cases ha; cases sa
    · by_cases eb : i = b
      · subst eb
        rw [List.getElem?_set_self hlt] at hb
        cases hb; cases ub
      · rw [List.getElem?_set_ne ea] at ha
        rw [List.getElem?_set_ne eb] at hb
        exact S.dis a b s u l' ha hb sa ub
  · obtain ⟨g2, h02, m2, xs2, hl2, r2⟩ := S.gho p hp
    have ne : p.1 ≠ l := fun q => S.gdis p hp i _ hE (by rw [q]; rfl)
    exact ⟨by rw [upd_ne ne]; exact g2, h02, m2, xs2, hl2, r2.le gg⟩
  · by_cases e : i = j
    · subst e
      rw [List.getElem?_set_self hlt] at h
      cases h
      exact fun z => by cases z
    · rw [List.getElem?_set_ne e] at h
      exact S.gdis p hp j s h
theorem Stt.ownD {K : PySem.W.Frag} {σ : L2.St} {G H : Hp} (S : Stt K B E σ G H) {i : Nat} {l : Addr} {ds es : List (Key × Dt)} {ys : List (Key × V)} (hE : E[i]? = some (.ownD l ds)) (r : RpK K G ys es) : Stt K B (E.set i (.ownD l es)) σ G (upd H l (.dK ys)) := by
  obtain ⟨hv, gl, h0, m, xs, hl, _⟩ := S.sl i _ hE
  have hlt : i < E.length := (List.getElem?_eq_some_iff.mp hE).1
  have ntab : ∀ ps, H l ≠ some (.tbl ps) := fun ps q => by rw [hl] at q; cases q
  refine ⟨S.bok, ⟨S.ext.gg, fun b o hb t mb => ?_, fun b o hb => ?_, S.ext.new⟩, ⟨fun b o h => ?_, S.cln.ntb⟩, fun p hp => ?_, S.bok.stab H _ S.hi fun b mb => upd_ne (fun e : b = l => m (by rw [← e]; exact mb)), S.gm, by rw [List.length_set]; exact S.len, fun j s h => ?_, fun a b s u l' ha hb sa ub => ?_, S.low, fun p hp => ?_, fun p hp j s h => ?_, S.gnd⟩
  · rw [upd_ne (ne_of_none hb h0)]; exact S.ext.keep b o hb t mb
  · by_cases e : b = l
    · exact ⟨_, by rw [e]; exact upd_same⟩
    · obtain ⟨o', h'⟩ := S.ext.live b o hb
      exact ⟨o', by rw [upd_ne e]; exact h'⟩
  · rw [upd_ne (ne_of_none h gl)]; exact S.cln.sub b o h
  · obtain ⟨ps, hP, tr, hc⟩ := S.tab p hp
    refine ⟨ps, by rw [upd_ne (fun e => ntab ps (by rw [← e]; exact hP))]; exact hP, tr, fun po cv hcv => ?_⟩
    obtain ⟨c, e1, e2⟩ := hc po cv hcv
    refine ⟨c, e1, ?_⟩
    rw [upd_ne (fun e => ?_)]
    · exact e2
    · rw [e, hl] at e2; cases e2
  · by_cases e : i = j
    · subst e
      rw [List.getElem?_set_self hlt] at h
      cases h
      exact ⟨hv, gl, h0, m, ys, upd_same, r⟩
    · rw [List.getElem?_set_ne e] at h
      have q := S.sl j s h
      cases s with
      | un => trivial
      | dt d => exact q
      | own l2 ds2 =>
        obtain ⟨hv, g2, h02, m2, xs2, hl2, r2, z2⟩ := q
        have ne : l2 ≠ l := fun q => e (S.dis i j _ _ l hE h rfl (by rw [q]; rfl))
        exact ⟨hv, g2, h02, m2, xs2, by rw [upd_ne ne]; exact hl2, r2, z2⟩
      | ownD l2 ds2 =>
        obtain ⟨hv, g2, h02, m2, xs2, hl2, r2⟩ := q
        have ne : l2 ≠ l := fun q => e (S.dis i j _ _ l hE h rfl (by rw [q]; rfl))
        exact ⟨hv, g2, h02, m2, xs2, by rw [upd_ne ne]; exact hl2, r2⟩
  · by_cases ea : i = a
    · by_cases eb : i = b
      · rw [← ea, ← eb]
      · subst ea
        rw [List.getElem?_set_self hlt] at ha
        rw [List.getElem?_set_ne eb] at hb
        cases ha; cases sa
        exact (eb (S.dis i b _ _ l hE hb rfl ub)).elim
    · rw [List.getElem?_set_ne ea] at ha
      by_cases eb : i = b
      · subst eb
        rw [List.getElem?_set_self hlt] at hb
        cases hb; cases ub
        exact (ea (S.dis i a _ _ l hE ha rfl sa)).elim
      · rw [List.getElem?_set_ne eb] at hb
        exact S.dis a b s u l' ha hb sa ub
  · obtain ⟨g2, h02, m2, xs2, hl2, r2⟩ := S.gho p hp
    have ne : p.1 ≠ l := fun q => S.gdis p hp i _ hE (by rw [q]; rfl)
    exact ⟨g2, h02, m2, xs2, by rw [upd_ne ne]; exact hl2, r2⟩
  · by_cases e : i = j
    · subst e
      rw [List.getElem?_set_self hlt] at h
      cases h
      exact fun z => S.gdis p hp i _ hE (z : some l = some p.1)
    · rw [List.getElem?_set_ne e] at h
      exact S.gdis p hp j s h
theorem Stt.takeOwnD {K : PySem.W.Frag} {σ : L2.St} {G H : Hp} (S : Stt K B E σ G H) (i : Nat) {p : Addr} {xs : List (Key × V)} {ds : List (Key × Dt)} (hp : H p = some (.dK xs)) (gp : G p = none) (h0 : B.H0 p = none) (mp : ¬ B.M p) (old : ∀ (j : Nat) (s : Sl), E[j]? = some s → s.adr ≠ some p) (og : ∀ q ∈ B.ow, q.1 ≠ p)
    (r : RpK K G xs ds) : Stt K B (E.set i (.ownD p ds)) (σ.set i (some (.ref p))) G H := by
  refine ⟨S.bok, S.ext, S.cln, S.tab, S.hi, S.gm, by rw [List.length_set, List.length_set]; exact S.len, fun j s h => ?_, fun a b s u l' ha hb sa ub => ?_, S.low, S.gho, fun q hq j s h => ?_, S.gnd⟩
  · by_cases e : i = j
    · subst e
      have hlt : i < E.length := by have q := (List.getElem?_eq_some_iff.mp h).1; rwa [List.length_set] at q
      rw [List.getElem?_set_self hlt] at h
      cases h
      exact ⟨by rw [List.getElem?_set_self (by rw [S.len]; exact hlt)], gp, h0, mp, xs, hp, r⟩
    · rw [List.getElem?_set_ne e] at h ⊢
      exact S.sl j s h
  · by_cases ea : i = a
    · by_cases eb : i = b
      · rw [← ea, ← eb]
      · subst ea
        rw [List.getElem?_set_self (by have q := (List.getElem?_eq_some_iff.mp ha).1; rwa [List.length_set] at q)] at ha
        rw [List.getElem?_set_ne eb] at hb
        cases ha; cases sa
        exact (old b u hb ub).elim
    · rw [List.getElem?_set_ne ea] at ha
      by_cases eb : i = b
      · subst eb
        rw [List.getElem?_set_self (by have q := (List.getElem?_eq_some_iff.mp hb).1; rwa [List.length_set] at q)] at hb
        cases hb; cases ub
        exact (old a s ha sa).elim
      · rw [List.getElem?_set_ne eb] at hb
        exact S.dis a b s u l' ha hb sa ub
  · by_cases e : i = j
    · subst e
      rw [List.getElem?_set_self (by have q := (List.getElem?_eq_some_iff.mp h).1; rwa [List.length_set] at q)] at h
      cases h
      exact fun z => og q hq (Option.some.inj z).symm
    · rw [List.getElem?_set_ne e] at h
      exact S.gdis q hq j s h
theorem dl_freezeD (i : Nat) {l : Addr} {ds : List (Int × Dt)} (hE : E[i]? = some (.ownD l (kI ds))) (h : DL X B (E.set i (.dt (.dic ds))) sts Ψ) : DL X B E sts Ψ := fun σ G H D S k => by
  obtain ⟨G', S', _⟩ := S.freezeD hE
  exact h σ G' H D S' k
def kD : Key → Dt
  | .inl i => .int i
  | .inr s => .str s
def lookK (ds : List (Key × Dt)) (k : Key) : Option Dt := (ds.find? fun kv => decide (kv.1 = k)).map (·.2)
def putD (ds : List (Key × Dt)) (k : Key) (d : Dt) : List (Key × Dt) := if (ds.any fun kv => decide (kv.1 = k)) = true then ds.map (fun kv => if kv.1 = k then (kv.1, d) else kv) else ds ++ [(k, d)]
section
variable {K : PySem.W.Frag} {G : Hp}
theorem rpk_any (k : Key) : ∀ {xs : List (Key × V)} {ds : List (Key × Dt)}, RpK K G xs ds → (xs.any fun kv => decide (kv.1 = k)) = ds.any fun kv => decide (kv.1 = k)
  | _, _, .nil => rfl
  | _, _, .cons _ r => by rw [List.any_cons, List.any_cons, rpk_any k r]
theorem rpk_repl (k : Key) {v : V} {d : Dt} (rd : Rp K G v d) : ∀ {xs : List (Key × V)} {ds : List (Key × Dt)}, RpK K G xs ds → RpK K G (xs.map fun kv => if kv.1 = k then (kv.1, v) else kv) (ds.map fun kv => if kv.1 = k then (kv.1, d) else kv)
  | _, _, .nil => .nil
  | _, _, .cons (k := j) h r => by
    rw [List.map_cons, List.map_cons]
    by_cases e : j = k
    · rw [if_pos e, if_pos e]; exact .cons rd (rpk_repl k rd r)
    · rw [if_neg e, if_neg e]; exact .cons h (rpk_repl k rd r)
theorem rpk_snoc {k : Key} {v : V} {d : Dt} (rd : Rp K G v d) : ∀ {xs : List (Key × V)} {ds : List (Key × Dt)}, RpK K G xs ds → RpK K G (xs ++ [(k, v)]) (ds ++ [(k, d)])
  | _, _, .nil => .cons rd .nil
  | _, _, .cons h r => .cons h (rpk_snoc rd r)
theorem rpk_put {k : Key} {v : V} {d : Dt} {xs : List (Key × V)} {ds : List (Key × Dt)} (r : RpK K G xs ds) (rd : Rp K G v d) : RpK K G (putK xs k v) (putD ds k d) := by
  unfold putK putD
  rw [rpk_any k r]
  split
  · exact rpk_repl k rd r
  · exact rpk_snoc rd r
theorem rpk_look (k : Key) : ∀ {xs : List (Key × V)} {ds : List (Key × Dt)}, RpK K G xs ds → (valV xs k = none ∧ lookK ds k = none) ∨ ∃ v d, valV xs k = some v ∧ lookK ds k = some d ∧ Rp K G v d
  | _, _, .nil => .inl ⟨rfl, rfl⟩
  | _, _, .cons (k := j) (v := v) (d := d) h r => by
    by_cases e : j = k
    · exact .inr ⟨v, d, valV_pos e, by unfold lookK; rw [List.find?_cons_of_pos (by exact decide_eq_true e)]; rfl, h⟩
    · rw [valV_neg (r := _) (p := (j, v)) e]
      have e2 : ∀ ds, lookK ((j, d) :: ds) k = lookK ds k := fun ds => by unfold lookK; rw [List.find?_cons_of_neg (by simpa using e)]
      rw [e2]
      exact rpk_look k r
theorem rpk_len : ∀ {xs : List (Key × V)} {ds : List (Key × Dt)}, RpK K G xs ds → xs.length = ds.length
  | _, _, .nil => rfl
  | _, _, .cons _ r => congrArg (· + 1) (rpk_len r)
theorem rpk_keys : ∀ {xs : List (Key × V)} {ds : List (Key × Dt)}, RpK K G xs ds → RpA K G (xs.map fun kv => kV kv.1) (ds.map fun q => kD q.1)
  | _, _, .nil => .nil
  | _, _, .cons (k := .inl i) _ rs => .cons (.int _) (rpk_keys rs)
  | _, _, .cons (k := .inr i) _ rs => .cons (.str _) (rpk_keys rs)
theorem rp_kV {u : V} {κ : Key} (r : Rp K G u (kD κ)) : u = kV κ := by
  cases κ with
  | inl i => exact (by cases (show Rp K G u (.int i) from r); rfl)
  | inr i => exact (by cases (show Rp K G u (.str i) from r); rfl)
end
theorem Ext.kept1D {M : Addr → Prop} {H G H' G' : Hp} {p : Addr} {xs : List (Key × V)} (x : Ext M (upd H p (.dK xs)) G H' G') (gp : G p = none) (mp : ¬ M p) : H' p = some (.dK xs) ∧ G' p = none := by
  refine ⟨x.keep p _ upd_same (fun ps e => by cases e) mp, ?_⟩
  cases e : G' p with
  | none => rfl
  | some o =>
    rcases x.new p o e with h | h
    · rw [gp] at h; cases h
    · rw [upd_same] at h; cases h
/-- x = {} -/
theorem ds_dnew {p' : Pos} (i : Nat) (h : ∀ l, Ψ.nx (E.set i (.ownD l []))) (hN : X.N.Nodup) (hi : X.N[i]? = some x := by rfl) (hx : Loc X.env.scope x := by first | exact Or.inl rfl | exact Or.inr rfl)
    (hs : swapsWith (.Dict [] [] p1) (some (.Name x p')) pos.line X.env = pure false := by rfl) (hf : X.fn x = true ∨ X.env.scope.names.lookup x = some .local := by first | exact .inl rfl | exact .inr rfl) : DS X B E (.Assign [.Name x p'] (.Dict [] [] p1) pos) Ψ := fun σ G H D S k =>
  fS (ps_set hN hi hx pe_dnewK hs hf) (fun p hp => by
    obtain ⟨gp, h0, mp, old, og⟩ := S.fresh hp
    have S1 := S.grow (Grow.dirt (G := G) (o := .dK []) S.cln hp)
    exact k.nx _ _ G _ (S1.takeOwnD i upd_same gp h0 mp old og .nil) (h p))
/-- x, y = {}, e -/
theorem ds_parD {px py pt : Pos} {kt k2 : Nat} {pt2 : Pos} (i j : Nat) (h : DW X B E b fun d => ∀ l, Ψ.nx ((E.set i (.ownD l [])).set j (.dt d))) (hN : X.N.Nodup) (hij : i ≠ j := by decide) (hc : X.calm = true := by rfl)
    (hi : X.N[i]? = some x := by rfl) (hj : X.N[j]? = some y := by rfl) (hx : X.env.scope.names.lookup x = some .local := by rfl) (hy : X.env.scope.names.lookup y = some .local := by rfl)
    (hw : swappedStores [.Tuple [.Name x px, .Name y py] kt pt] (.Tuple [.Dict [] [] p1, b] k2 pt2) X.env = pure (some [x, y]) := by rfl)
    (hs : swapsWithSole [.Tuple [.Name x px, .Name y py] kt pt] (.Tuple [.Dict [] [] p1, b] k2 pt2) pos.line X.env = pure false := by rfl) (ha : starEach [.Dict [] [] p1, b] X.env = (false, eval (.Dict [] [] p1) X.env) :: starEach [b] X.env := by rfl) (hb : starEach [b] X.env = (false, eval b X.env) :: starEach [] X.env := by rfl) :
    DS X B E (.Assign [.Tuple [.Name x px, .Name y py] kt pt] (.Tuple [.Dict [] [] p1, b] k2 pt2) pos) Ψ := fun σ G H D S k =>
  fS (L2.ps_par hc hN hi hj hij hx hy (pa_cons pe_dnewK (pa_cons qE pa_nil hb) ha) hw hs) (fun p hp => by
    obtain ⟨gp, h0, mp, old, og⟩ := S.fresh hp
    have S1 := S.grow (Grow.dirt (G := G) (o := .dK []) S.cln hp)
    refine h σ G _ _ S1 fun v d G2 H2 S2 x2 r2 f2 => ?_
    obtain ⟨hp2, gp2⟩ := x2.kept1D gp mp
    refine ⟨.ref p, v, rfl, ?_⟩
    have Sp := S2.takeOwnD i hp2 gp2 h0 mp old og .nil
    exact k.nx _ _ G2 _ (Sp.set j r2) (f2 p))
/-- d[k] = e, d own -/
theorem ds_dput (i : Nat) (hu : X.A.units + 1 < cLine) {l : Addr} {ds : List (Key × Dt)} (hE : E[i]? = some (.ownD l ds)) (h : DW X B E e fun d => DW X B E b fun z => ∃ κ, z = kD κ ∧ ds.length < sizeLine ∧ Ψ.nx (E.set i (.ownD l (putD ds κ d)))) (hN : X.N[i]? = some x := by rfl)
    (hv : Vis X.env.scope x := by first | exact Or.inl rfl | exact Or.inr (Or.inl rfl) | exact Or.inr (Or.inr rfl)) (hd : (x == ("__debug__" : Str)) = false := by decide) (hcd : (x == ("__classdict__" : Str)) = false := by decide)
    (hs : swapsWith e (some (.Subscript (.Name x p1) b p2)) pos.line X.env = pure false := by rfl) : DS X B E (.Assign [.Subscript (.Name x p1) b p2] e pos) Ψ := fun σ G H D S k =>
  fS (ps_dput hu (pe_var (i := i) hN hv hd hcd) qE qE hs) (h σ G H _ S fun v d G1 H1 S1 x1 r1 f1 => by
    obtain ⟨hv, _⟩ := S1.sl i _ hE
    refine ⟨_, hv, f1 σ G1 H1 _ S1 fun u z G2 H2 S2 x2 r2 f2 => ?_⟩
    obtain ⟨κ, rfl, hz, f⟩ := f2
    obtain ⟨_, _, _, _, xs, hl, r⟩ := S2.sl i _ hE
    cases rp_kV r2
    exact ⟨l, _, rfl, DPut.k hl (by rw [rpk_len r]; exact hz), k.nx _ σ G2 _ (S2.ownD hE (rpk_put r (r1.le x2.gg))) f⟩)
/-- d[k], d own -/
theorem dw_ownGet (i : Nat) (hu : X.A.units + 1 < cLine) {l : Addr} {ds : List (Key × Dt)} (hE : E[i]? = some (.ownD l ds)) (h : DW X B E b fun z => ∃ κ d, z = kD κ ∧ lookK ds κ = some d ∧ Φ d) (hs : NoSl b := by exact fun _ _ => rfl) (hN : X.N[i]? = some x := by rfl)
    (hv : Vis X.env.scope x := by first | exact Or.inl rfl | exact Or.inr (Or.inl rfl) | exact Or.inr (Or.inr rfl)) (hd : (x == ("__debug__" : Str)) = false := by decide) (hcd : (x == ("__classdict__" : Str)) = false := by decide) : DW X B E (.Subscript (.Name x p1) b pos) Φ := fun σ G H Q S q =>
  fE (pe_dget hu (pe_var (i := i) hN hv hd hcd) qE hs) (by
    obtain ⟨hv, _⟩ := S.sl i _ hE
    refine ⟨_, hv, h σ G H _ S fun u z G2 H2 S2 x2 r2 f2 => ?_⟩
    obtain ⟨κ, d, rfl, hl, f⟩ := f2
    obtain ⟨_, _, _, _, xs, hx, r⟩ := S2.sl i _ hE
    cases rp_kV r2
    rcases rpk_look κ r with ⟨_, n⟩ | ⟨v, d', h1, h2, rv⟩
    · rw [hl] at n; cases n
    · rw [hl] at h2
      cases h2
      exact ⟨l, v, rfl, by rw [← h1]; exact DGet.k hx, q v d G2 H2 S2 x2 rv f⟩)
/-- d.get(k, e), d own -/
theorem dw_ownGet2 (i : Nat) (hu : X.A.units + 1 < cLine) {l : Addr} {ds : List (Key × Dt)} (hE : E[i]? = some (.ownD l ds)) (h : DW X B E b fun z => DW X B E c fun d => ∃ κ, z = kD κ ∧ Φ ((lookK ds κ).getD d)) (hN : X.N[i]? = some x := by rfl)
    (hv : Vis X.env.scope x := by first | exact Or.inl rfl | exact Or.inr (Or.inl rfl) | exact Or.inr (Or.inr rfl)) (hd : (x == ("__debug__" : Str)) = false := by decide) (hcd : (x == ("__classdict__" : Str)) = false := by decide)
    (m : M2 X (.Name x p1) "get" p2 b c pos := by exact ⟨rfl, rfl, rfl, rfl⟩) : DW X B E (.Call (.Attribute (.Name x p1) "get" p2) [b, c] [] pos) Φ := fun σ G H Q S q =>
  fE (pe_dget2 hu (pe_var (i := i) hN hv hd hcd) qE qE m) (by
    obtain ⟨hv, _, _, _, xs0, hx0, _⟩ := S.sl i _ hE
    refine ⟨_, hv, l, rfl, .inl ⟨xs0, .inl hx0⟩, h σ G H _ S fun u z G2 H2 S2 x2 r2 f2 => ?_⟩
    refine f2 σ G2 H2 _ S2 fun w d G3 H3 S3 x3 r3 f3 => ?_
    obtain ⟨κ, rfl, f⟩ := f3
    obtain ⟨_, _, _, _, xs, hx, r⟩ := S3.sl i _ hE
    cases rp_kV r2
    refine ⟨_, DGet.k hx, ?_⟩
    rcases rpk_look κ r with ⟨n, n2⟩ | ⟨v, d', h1, h2, rv⟩
    · rw [n]
      rw [n2] at f
      exact q _ _ G3 H3 S3 (x2.tr x3) r3 f
    · rw [h1]
      rw [h2] at f
      exact q _ _ G3 H3 S3 (x2.tr x3) rv f)
end
end N
set_option Elab.async false
set_option linter.all false
set_option maxRecDepth 100000
set_option maxHeartbeats 1000000
namespace N
open PySem
open PySem.Spec
open PyProof.Rows
open L2
/-! R12: _law_state. -/
def putI (st : List (Int × Itm)) (k : Int) (x : Itm) : List (Int × Itm) := if (st.any fun q => decide (q.1 = k)) = true then st.map (fun q => if q.1 = k then (q.1, x) else q) else st ++ [(k, x)]
abbrev stK (st : List (Int × Itm)) : List (Key × Dt) := kI (st.map fun q => (q.1, itmD q.2))
theorem put_st (st : List (Int × Itm)) (k : Int) (x : Itm) : putD (stK st) (.inl k) (itmD x) = stK (putI st k x) := by
  have ha : ((stK st).any fun kv => decide (kv.1 = (Sum.inl k : Key))) = st.any fun q => decide (q.1 = k) := by
    unfold stK kI
    rw [List.any_map, List.any_map]
    congr 1
    funext q
    show decide ((Sum.inl q.1 : Key) = Sum.inl k) = decide (q.1 = k)
    exact decide_eq_decide.mpr ⟨fun h => by injection h, fun h => by rw [h]⟩
  unfold putD putI
  rw [ha]
  split
  · unfold stK kI
    simp only [List.map_map]
    refine List.map_congr_left fun q _ => ?_
    by_cases e : q.1 = k
    · simp [e]
    · simp [e]
  · unfold stK kI
    simp
theorem putI_len (st : List (Int × Itm)) (k : Int) (x : Itm) : (putI st k x).length ≤ st.length + 1 := by
  unfold putI
  split
  · rw [List.length_map]; omega
  · rw [List.length_append]; exact Nat.le_refl _
theorem putI_mem {st : List (Int × Itm)} {k : Int} {x : Itm} {q : Int × Itm} (h : q ∈ putI st k x) : q ∈ st ∨ q = (k, x) := by
  unfold putI at h
  split at h
  · obtain ⟨z, hz, e⟩ := List.mem_map.mp h
    by_cases e2 : z.1 = k
    · rw [if_pos e2] at e; right; rw [← e, e2]
    · rw [if_neg e2] at e; left; rw [← e]; exact hz
  · rcases List.mem_append.mp h with h | h
    · exact .inl h
    · exact .inr (List.mem_singleton.mp h)
theorem putI_nodup {st : List (Int × Itm)} {k : Int} {x : Itm} (h : (st.map (·.1)).Nodup) : ((putI st k x).map (·.1)).Nodup := by
  unfold putI
  split
  · have e : (st.map (fun q => if q.1 = k then (q.1, x) else q)).map (·.1) = st.map (·.1) := by
      rw [List.map_map]
      refine List.map_congr_left fun q _ => ?_
      show (if q.1 = k then (q.1, x) else q).1 = q.1
      split <;> rfl
    rw [e]; exact h
  · rename_i hn
    rw [List.map_append, List.nodup_append]
    refine ⟨h, by simp, fun a ha b hb e => ?_⟩
    obtain ⟨q, hq, rfl⟩ := List.mem_map.mp ha
    have hb : b = k := by simpa using hb
    refine hn (List.any_eq_true.mpr ⟨q, hq, decide_eq_true (e.trans hb)⟩)
/-- what _law_state makes -/
structure StS (st : List (Int × Itm)) (m : Nat) (w : Int) (ns : List Str) : Prop where
  nd : (st.map (·.1)).Nodup
  it : ∀ q ∈ st, 0 ≤ q.1 ∧ q.2.key = q.1 ∧ q.2.vec.length = m ∧ (∀ i ∈ q.2.vec, -w ≤ i ∧ i ≤ w) ∧ (q.2.labs.map (·.1)).Sublist ns
  up : ∀ q ∈ st, q.1 ≤ 1000000000 ∧ ∀ x ∈ q.2.labs, -3 ≤ x.2 ∧ x.2 ≤ 3
theorem StS.put {st : List (Int × Itm)} {m : Nat} {w : Int} {ns : List Str} (h : StS st m w ns) {k : Int} {v : List Int} {ls : List (Str × Int)} (h0 : 0 ≤ k) (h1 : v.length = m) (h2 : ∀ i ∈ v, -w ≤ i ∧ i ≤ w) (h3 : (ls.map (·.1)).Sublist ns) (h4 : k ≤ 1000000000) (h5 : ∀ x ∈ ls, -3 ≤ x.2 ∧ x.2 ≤ 3) : StS (putI st k ⟨k, v, ls⟩) m w ns :=
  ⟨putI_nodup h.nd, fun q hq => by
    rcases putI_mem hq with hq | rfl
    · exact h.it q hq
    · exact ⟨h0, rfl, h1, h2, h3⟩, fun q hq => by
    rcases putI_mem hq with hq | rfl
    · exact h.up q hq
    · exact ⟨h4, h5⟩⟩
theorem lb_snoc {ls : List (Str × Int)} {nm : Str} {r : Int} (h : ∀ x ∈ ls, -3 ≤ x.2 ∧ x.2 ≤ 3) (h0 : 0 ≤ r) (h1 : r < 7) : ∀ x ∈ ls ++ [(nm, r - 3)], -3 ≤ x.2 ∧ x.2 ≤ 3 := fun x hx => by
  rcases List.mem_append.mp hx with hx | hx
  · exact h x hx
  · rw [List.mem_singleton.mp hx]; exact ⟨by show -3 ≤ r - 3; omega, by show r - 3 ≤ 3; omega⟩
section
variable {P : Program} {w : World} {K : PySem.W.Frag} {mg : Str → Option Value} {base : Heap} {T : List (Addr × Str)} {g C : Addr} {fd : FuncData}
abbrev CVec (P : Program) (w : World) (K : PySem.W.Frag) (mg : Str → Option Value) (base : Heap) (T : List (Addr × Str)) (p q : Addr) : Prop := Cal P w K mg base 2 "_law_vector" p__law_vector (spD K (HpM p q) (HpI p q) T (f_vector p))
def f_state (p : Addr) : FT := fun ds Φ => ∃ (n m : Nat) (wd : Int) (ns : List Str), ds = [.raw (.ref p), .int n, .int m, .int wd, .lst (ns.map .str)] ∧ n ≤ 100 ∧ m ≤ 100 ∧ 0 ≤ wd ∧ wd ≤ 1000 ∧ ∀ st : List (Int × Itm), st.length ≤ m → StS st n wd ns → Φ (stD st)
theorem ok_law_state (bi : BI mg) (p q : Addr) (CD : CDraw P w K mg base T p q) (CP : CPick P w K mg base T p q) (CV : CVec P w K mg base T p q) (F : FnT K "_law_state" s__law_state g fd) : FnOk P w K mg base CX0 3 g fd p__law_state (spD K (HpM p q) (HpI p q) T (f_state p)) := by
  refine fn_okD (k := 2) (hpBd p q) F sc__law_state (fun ds Φ h => ?_) (by decide) (fun cdv A outer s H XE B ds Φ hM hHI hT hr hf => ?_)
  · obtain ⟨_, _, _, _, rfl, _⟩ := h; rfl
  obtain ⟨n, m, wd, ns, rfl, hn, hm, hw0, hw1, hf⟩ := hf
  subst hT
  refine dl_cons (ds_parD 5 6 (dw_cal CV (cmS hM hHI) ‹Room _ _› (by omega) (da_cons (dw_v rfl (da_cons (dw_v rfl (da_cons (dw_v rfl (da_nil ⟨n, wd, rfl, by omega, by omega, hw0, hw1, fun v0 hv0 hb0 l => ?_⟩)))))))) sc__law_state.nd)
  refine dl_cons (ds_for PassesOwn.never (fun _ _ => dg_v sc__law_state.nd) (di_rng1 bi.range (da_cons (dw_v rfl (da_nil ⟨m, rfl, by omega, by omega, fun i E' => ∃ (st : List (Int × Itm)) (v : List Int) (l : Addr) (s7 s8 s9 s10 : Sl), E' = [.dt (.raw (.ref p)), .dt (.int n), .dt (.int m), .dt (.int wd), .dt (.lst (ns.map .str)), .ownD l (stK st), .dt (vecD v), s7, s8, s9, s10] ∧ st.length ≤ i ∧ StS st n wd ns ∧ v.length = n ∧ (∀ i ∈ v, -wd ≤ i ∧ i ≤ wd), ?j0, ?jt, ?je⟩)))))
  case j0 => exact ⟨[], v0, l, _, _, _, _, rfl, Nat.le_refl _, ⟨List.nodup_nil, fun q h => (by cases h), fun q h => (by cases h)⟩, by omega, hb0⟩
  case je =>
    rintro E' ⟨st, v, l, s7, s8, s9, s10, rfl, hl, hS, _⟩
    refine dl_freezeD 5 rfl (dl_cons (ds_ret (dw_v rfl (hf st ?_ hS))))
    rw [rngD_len] at hl; omega
  case jt =>
    intro gl i d E' hd hJ
    obtain ⟨hi, rfl⟩ := rngD_get hd
    obtain ⟨st, v, l, s7, s8, s9, s10, rfl, hl, hS, hvl, hvb⟩ := hJ
    have hu1 : _ + 1 < cLine := Nat.lt_of_le_of_lt (Nat.add_le_add_left (by decide : 1 ≤ 64) _) hr.units
    refine dl_cons (ds_s sc__law_state.nd (dw_cal CP (cmS hM hHI) ‹Room _ _› (by omega) (da_cons (dw_v rfl (da_cons (dw_n (dn_lst (da_cons (dw_v rfl (da_cons (dw_addI (dw_mul (dw_int (dw_v rfl ⟨.inl ⟨by omega, by omega⟩, dw_int (da_cons (dw_addI (dw_pow (dw_int (dw_int ⟨⟨by decide, by decide, by decide⟩, dw_v rfl (da_cons (dw_addI (dw_int (dw_v rfl (da_nil ⟨szl, da_nil ⟨_, rfl, by simp, (show 4 < 1073741824 by decide), fun d hd => ?k⟩⟩)))))⟩)))))⟩))))))))))))))
    have hk : ∃ k : Int, d = .int k ∧ 0 ≤ k ∧ k ≤ 1000000000 := by
      simp only [List.mem_cons, List.not_mem_nil, or_false] at hd
      rcases hd with rfl | rfl | rfl | rfl
      · exact ⟨_, rfl, by omega, by omega⟩
      · exact ⟨_, rfl, by omega, by omega⟩
      · refine ⟨_, rfl, ?_⟩
        have : (10 : Int) ^ (8 : Int).toNat = 100000000 := by decide
        rw [this]
        omega
      · exact ⟨_, rfl, by omega, by omega⟩
    obtain ⟨k, rfl, hk, hku⟩ := hk
    refine dl_cons (ds_s sc__law_state.nd (DW.im (Φ' := fun d => ∃ v : List Int, d = vecD v ∧ v.length = n ∧ ∀ i ∈ v, -wd ≤ i ∧ i ≤ wd) ?l fun d hd => ?_))
    case l =>
      refine dw_if (dt_eq (dw_cal CD (cmS hM hHI) ‹Room _ _› (by omega) (da_cons (dw_v rfl (da_cons (dw_int (da_nil ⟨4, rfl, by decide, by decide, fun r h0 h1 => dw_int ⟨_, rfl, ifB_d (fun _ => dw_v rfl ⟨v, rfl, hvl, hvb⟩) (fun _ => ?_)⟩⟩)))))))
      exact dw_cal CV (cmS hM hHI) ‹Room _ _› (by omega) (da_cons (dw_v rfl (da_cons (dw_v rfl (da_cons (dw_v rfl (da_nil ⟨n, wd, rfl, by omega, by omega, hw0, hw1, fun v' h1 h2 => ⟨v', rfl, by omega, h2⟩⟩)))))))
    obtain ⟨v', rfl, hv1, hv2⟩ := hd
    refine dl_cons (ds_setLd (ixS n__law_state "_law_labels") [("_law_name", 10)] sc__law_state.nd (show BlkOk n__law_state (defScope s__law_state) _ _ from ⟨rfl, by decide +kernel, by decide +kernel, by decide +kernel, by decide +kernel⟩) (lc_l [("_law_name", 10)] (fun _ _ _ _ _ _ _ => dg_name 10 sc__law_state.nd) (by decide) (di_lst (dw_v rfl ⟨_, rfl, fun i acc => ∃ ls : List (Str × Int), acc = ls.map labD ∧ (ls.map (·.1)).Sublist (ns.take i) ∧ ∀ x ∈ ls, -3 ≤ x.2 ∧ x.2 ≤ 3, ⟨[], rfl, List.nil_sublist _, fun x h => by cases h⟩, ?t, ?f⟩))))
    case t =>
      intro gl ow i d acc hd hacc
      rw [List.getElem?_map] at hd
      cases hx : ns[i]? with
      | none => rw [hx] at hd; cases hd
      | some nm =>
        rw [hx] at hd
        cases hd
        obtain ⟨ls, rfl, hsub, hlb⟩ := hacc
        have ht : ns.take (i + 1) = ns.take i ++ [nm] := by rw [List.take_add_one, hx]; rfl
        refine fun s H C cl fp => dq_one (dt_eq (dw_cal CD (cmS hM hHI) ‹Room _ _› (by omega) (da_cons (dw_v rfl (da_cons (dw_int (da_nil ⟨2, rfl, by decide, by decide, fun r h0 h1 => dw_int ⟨_, rfl, ifB_d (fun _ s H C cl fp => ?y) (fun _ => ?nol)⟩⟩)))))))
        case nol => exact ⟨ls, rfl, by rw [ht]; exact hsub.trans (List.sublist_append_left _ _), hlb⟩
        case y => exact dw_tup (da_cons (dw_v rfl (da_cons (dw_sub (dw_cal CD (cmS hM hHI) ‹Room _ _› (by omega) (da_cons (dw_v rfl (da_cons (dw_int (da_nil ⟨7, rfl, by decide, by decide, fun r h0 h1 => dw_int (da_nil ⟨szl, ls ++ [(nm, r - 3)], by rw [List.map_append]; rfl, by rw [ht, List.map_append]; exact hsub.append (List.Sublist.refl _), lb_snoc hlb h0 h1⟩)⟩))))))))))
    case f =>
      rintro acc ⟨ls, rfl, hsub, hlb⟩
      rw [List.length_map, List.take_length] at hsub
      refine dl_one (ds_dput 5 hu1 rfl (dw_tup (da_cons (dw_v rfl (da_cons (dw_v rfl (da_cons (dw_tuple bi.tuple (da_cons (dw_v rfl (da_nil (.inl ⟨_, rfl, da_nil ⟨szl, dw_v rfl ⟨.inl k, rfl, ?len, ?_⟩⟩⟩))))))))))))
      case len =>
        unfold stK kI
        rw [List.length_map, List.length_map]
        exact Nat.lt_of_lt_of_le (show _ < 1000 by omega) szl
      refine ⟨putI st k ⟨k, v', ls⟩, v', l, .dt (.int (0 + (i : Int))), .dt (.int k), .dt (.lst (ls.map labD)), s10, ?_, ?_, hS.put hk hv1 hv2 hsub hku hlb, hv1, hv2⟩
      · rw [← put_st]; rfl
      · have := putI_len st k ⟨k, v', ls⟩; omega
end
end N
set_option Elab.async false
set_option linter.all false
set_option maxRecDepth 100000
set_option maxHeartbeats 1000000
namespace N
open PySem
open PySem.Spec
open PyProof.Rows
open L2
/-! R13: _law_summary. -/
/-- what the items hold of a label -/
def valsOf (st : List (Int × Itm)) (ks : List Int) (n : Str) : List Int := ks.flatMap fun i => ((getI st i).labs.filter fun q => decide (q.1 = n)).map (·.2)
/-- a summary told by what it must say -/
def SmyOf (st : List (Int × Itm)) (ks : List Int) (s : Smy) : Prop := s.many = ks.length ∧ (s.rows.length ≤ 10 ∧ ∀ r ∈ s.rows, 0 < r.many ∧ r.many = (valsOf st ks r.name).length ∧ r.least ∈ valsOf st ks r.name ∧ r.greatest ∈ valsOf st ks r.name) ∧ ∀ n, match rowOf s.rows n with
  | none => valsOf st ks n = []
  | some r => r.many = (valsOf st ks n).length ∧ r.least ∈ valsOf st ks n ∧ r.greatest ∈ valsOf st ks n ∧ ∀ x ∈ valsOf st ks n, r.least ≤ x ∧ x ≤ r.greatest
abbrev Vals := List (Str × List Int)
abbrev valK (kv : Vals) : List (Key × Dt) := kv.map fun q => (.inr q.1, .lst (q.2.map .int))
def lookV (kv : Vals) (n : Str) : List Int := ((kv.find? fun q => decide (q.1 = n)).map (·.2)).getD []
def putV (kv : Vals) (n : Str) (x : List Int) : Vals := if (kv.any fun q => decide (q.1 = n)) = true then kv.map (fun q => if q.1 = n then (q.1, x) else q) else kv ++ [(n, x)]
theorem look_val (kv : Vals) (n : Str) : ((lookK (valK kv) (.inr n)).getD (.lst [])) = .lst ((lookV kv n).map .int) ∧ (n ∈ kv.map (·.1) → lookK (valK kv) (.inr n) = some (.lst ((lookV kv n).map .int))) := by
  induction kv with
  | nil => exact ⟨rfl, fun h => by cases h⟩
  | cons a r ih =>
    by_cases e : a.1 = n
    · have e1 : lookK (valK (a :: r)) (.inr n) = some (.lst (a.2.map .int)) := by
        unfold lookK
        rw [show valK (a :: r) = (.inr a.1, .lst (a.2.map .int)) :: valK r from rfl, List.find?_cons_of_pos (by simp [e])]; rfl
      have e2 : lookV (a :: r) n = a.2 := by unfold lookV; rw [List.find?_cons_of_pos (by simp [e])]; rfl
      rw [e1, e2]
      exact ⟨rfl, fun _ => rfl⟩
    · have e1 : lookK (valK (a :: r)) (.inr n) = lookK (valK r) (.inr n) := by
        unfold lookK
        rw [show valK (a :: r) = (.inr a.1, .lst (a.2.map .int)) :: valK r from rfl, List.find?_cons_of_neg (by simp [e])]
      have e2 : lookV (a :: r) n = lookV r n := by unfold lookV; rw [List.find?_cons_of_neg (by simp [e])]
      rw [e1, e2]
      refine ⟨ih.1, fun h => ih.2 ?_⟩
      rw [List.map_cons] at h
      rcases List.mem_cons.mp h with h | h
      · exact (e h.symm).elim
      · exact h
theorem put_val (kv : Vals) (n : Str) (x : List Int) : putD (valK kv) (.inr n) (.lst (x.map .int)) = valK (putV kv n x) := by
  have ha : ((valK kv).any fun q => decide (q.1 = (Sum.inr n : Key))) = kv.any fun q => decide (q.1 = n) := by
    unfold valK
    rw [List.any_map]
    congr 1
    funext q
    show decide ((Sum.inr q.1 : Key) = Sum.inr n) = decide (q.1 = n)
    exact decide_eq_decide.mpr ⟨fun h => by injection h, fun h => by rw [h]⟩
  unfold putD putV
  rw [ha]
  split
  · unfold valK
    rw [List.map_map, List.map_map]
    refine List.map_congr_left fun q _ => ?_
    by_cases e : q.1 = n
    · simp [e]
    · simp [e]
  · simp
theorem look_map (kv : Vals) (n m : Str) (x : List Int) : lookV (kv.map fun q => if q.1 = n then (q.1, x) else q) m = if m = n ∧ m ∈ kv.map (·.1) then x else lookV kv m := by
  induction kv with
  | nil => simp [lookV]
  | cons a r ih =>
    rw [List.map_cons]
    by_cases e : a.1 = m
    · by_cases e2 : a.1 = n
      · rw [if_pos e2, if_pos ⟨e.symm.trans e2, by simp [e]⟩]
        unfold lookV; rw [List.find?_cons_of_pos (by simp [e])]; rfl
      · rw [if_neg e2, if_neg (fun h => e2 (e.trans h.1))]
        unfold lookV; rw [List.find?_cons_of_pos (by simp [e]), List.find?_cons_of_pos (by simp [e])]
    · have e1 : ∀ b : Str × List Int, b.1 = a.1 → ∀ l, lookV (b :: l) m = lookV l m := fun b hb l => by unfold lookV; rw [List.find?_cons_of_neg (by simp [hb, e])]
      rw [e1 _ (by split <;> rfl), e1 _ rfl, ih]
      have : (m ∈ (a :: r).map (·.1)) ↔ m ∈ r.map (·.1) := by
        rw [List.map_cons, List.mem_cons]
        exact ⟨fun h => h.elim (fun h => (e h.symm).elim) id, .inr⟩
      by_cases q : m = n ∧ m ∈ r.map (·.1)
      · rw [if_pos q, if_pos ⟨q.1, this.mpr q.2⟩]
      · rw [if_neg q, if_neg (fun z => q ⟨z.1, this.mp z.2⟩)]
theorem look_snoc (kv : Vals) (n m : Str) (x : List Int) (h : n ∉ kv.map (·.1)) : lookV (kv ++ [(n, x)]) m = if m = n then x else lookV kv m := by
  induction kv with
  | nil =>
    by_cases e : m = n
    · simp [lookV, e]
    · have : ¬ n = m := fun q => e q.symm
      simp [lookV, e, this]
  | cons a r ih =>
    rw [List.map_cons] at h
    have ih := ih fun q => h (List.mem_cons_of_mem _ q)
    rw [List.cons_append]
    by_cases e : a.1 = m
    · have hm : ¬ m = n := fun q => h (by rw [← q, ← e]; exact List.mem_cons_self)
      rw [if_neg hm]
      unfold lookV; rw [List.find?_cons_of_pos (by simp [e]), List.find?_cons_of_pos (by simp [e])]
    · have e1 : ∀ l, lookV (a :: l) m = lookV l m := fun l => by unfold lookV; rw [List.find?_cons_of_neg (by simp [e])]
      rw [e1, e1, ih]
theorem any_mem (kv : Vals) (n : Str) : (kv.any fun q => decide (q.1 = n)) = true ↔ n ∈ kv.map (·.1) := by
  rw [List.any_eq_true, List.mem_map]
  exact ⟨fun ⟨q, h, e⟩ => ⟨q, h, of_decide_eq_true e⟩, fun ⟨q, h, e⟩ => ⟨q, h, decide_eq_true e⟩⟩
theorem look_put (kv : Vals) (n m : Str) (x : List Int) : lookV (putV kv n x) m = if m = n then x else lookV kv m := by
  unfold putV
  split
  · rename_i h
    rw [look_map]
    by_cases e : m = n
    · rw [if_pos e, if_pos ⟨e, by rw [e]; exact (any_mem kv n).mp h⟩]
    · rw [if_neg e, if_neg (fun q => e q.1)]
  · rename_i h
    exact look_snoc kv n m x fun q => h ((any_mem kv n).mpr q)
theorem keys_put (kv : Vals) (n : Str) (x : List Int) : (putV kv n x).map (·.1) = if n ∈ kv.map (·.1) then kv.map (·.1) else kv.map (·.1) ++ [n] := by
  unfold putV
  split
  · rename_i h
    rw [if_pos ((any_mem kv n).mp h), List.map_map]
    refine List.map_congr_left fun q _ => ?_
    show (if q.1 = n then (q.1, x) else q).1 = q.1
    split <;> rfl
  · rename_i h
    rw [if_neg (fun q => h ((any_mem kv n).mpr q)), List.map_append]; rfl
theorem nodup_le {α : Type} [DecidableEq α] : ∀ {l m : List α}, l.Nodup → (∀ x ∈ l, x ∈ m) → l.length ≤ m.length
  | [], _, _, _ => Nat.zero_le _
  | a :: l, m, nd, h => by
    obtain ⟨ha, nd⟩ := List.nodup_cons.mp nd
    have hm : a ∈ m := h a List.mem_cons_self
    have := nodup_le (m := m.erase a) nd fun x hx => (List.mem_erase_of_ne (fun e => ha (by rw [← e]; exact hx))).mpr (h x (List.mem_cons_of_mem _ hx))
    rw [List.length_erase_of_mem hm] at this
    have := List.length_pos_of_mem hm
    rw [List.length_cons]; omega
/-- the dict while it grows: f tells what is held of each name -/
structure VkOk (kv : Vals) (f : Str → List Int) (ns : List Str) : Prop where
  nd : (kv.map (·.1)).Nodup
  sub : ∀ n ∈ kv.map (·.1), n ∈ ns
  val : ∀ n, lookV kv n = f n
  ne : ∀ n, n ∈ kv.map (·.1) ↔ f n ≠ []
theorem VkOk.put {kv : Vals} {f f' : Str → List Int} {ns : List Str} (h : VkOk kv f ns) {n : Str} {i : Int} (hn : n ∈ ns) (e : ∀ m, f' m = if m = n then f n ++ [i] else f m) : VkOk (putV kv n (lookV kv n ++ [i])) f' ns where
  nd := by
    rw [keys_put]
    split
    · exact h.nd
    · rename_i hno
      rw [List.nodup_append]
      exact ⟨h.nd, by simp, fun a ha b hb q => hno (by rw [← List.mem_singleton.mp hb, ← q]; exact ha)⟩
  sub := fun m hm => by
    rw [keys_put] at hm
    split at hm
    · exact h.sub m hm
    · rcases List.mem_append.mp hm with hm | hm
      · exact h.sub m hm
      · rw [List.mem_singleton.mp hm]; exact hn
  val := fun m => by rw [look_put, e, h.val, h.val]
  ne := fun m => by
    rw [keys_put, e]
    by_cases q : m = n
    · subst q
      rw [if_pos rfl]
      refine ⟨fun _ => by simp, fun _ => ?_⟩
      split
      · assumption
      · simp
    · rw [if_neg q, ← h.ne]
      split
      · rfl
      · rw [List.mem_append, List.mem_singleton]
        exact ⟨fun z => z.elim id (fun z => (q z).elim), .inl⟩
theorem VkOk.len {kv : Vals} {f : Str → List Int} {ns : List Str} (h : VkOk kv f ns) : kv.length ≤ ns.length := by
  have := nodup_le h.nd h.sub
  rwa [List.length_map] at this
end N
set_option Elab.async false
set_option linter.all false
set_option maxRecDepth 100000
set_option maxHeartbeats 1000000
namespace N
open PySem
open PySem.Spec
open PyProof.Rows
open L2
/-! R14: _law_summary. -/
section
variable {X : Cx} {B : Bd} {E : Ev} {pos p p1 : Pos} {x : Str}
/-- list(d), d own -/
theorem dn_listOwn {Θ : List Dt → Prop} (i : Nat) (hm : X.mg "list" = none) {l : Addr} {ds : List (Key × Dt)} (hE : E[i]? = some (.ownD l ds)) (h : ds.length ≤ sizeLine ∧ Θ (ds.map fun q => kD q.1)) (hc : X.calm = true := by rfl) (hg : Gl X "list" := by rfl) (hN : X.N[i]? = some x := by rfl)
    (hv : Vis X.env.scope x := by first | exact Or.inl rfl | exact Or.inr (Or.inl rfl) | exact Or.inr (Or.inr rfl)) (hd : (x == ("__debug__" : Str)) = false := by decide) (hcd : (x == ("__classdict__" : Str)) = false := by decide)
    (he : starEach [.Name x p1] X.env = (false, eval (.Name x p1) X.env) :: starEach [] X.env := by rfl) (hpl : (backTo pos (starEach [] X.env)).any (·.1) = false := by rfl) : DN X B E (.Call (.Name "list" p) [.Name x p1] [] pos) Θ := fun σ G H Q S q =>
  fE (pe_callTy (call_list_dK hc) hg hm (by decide +kernel) (pa_cons (pe_var (i := i) hN hv hd hcd) pa_nil he) (by decide) (by decide) he hpl) (by
    obtain ⟨hv, gl, h0, m, xs, hl, r⟩ := S.sl i _ hE
    exact ⟨_, hv, l, xs, rfl, hl, fun p hp => q p _ _ G H S (Ext.rf H G) hp (rpk_keys r) (by rw [List.length_map]; exact h.1) h.2⟩)
end
theorem rowOf_none : ∀ {rs : List Row} {n : Str}, rowOf rs n = none → n ∉ rs.map (·.name)
  | [], _, _ => by simp
  | r :: rs, n, h => by
    unfold rowOf at h
    by_cases e : r.name = n
    · rw [if_pos e] at h; cases h
    · rw [if_neg e] at h
      rw [List.map_cons, List.mem_cons]
      exact fun q => q.elim (fun q => e q.symm) (rowOf_none h)
theorem rowOf_some : ∀ {rs : List Row} {n : Str} {r : Row}, rowOf rs n = some r → r ∈ rs ∧ r.name = n
  | [], _, _, h => by cases h
  | a :: rs, n, r, h => by
    unfold rowOf at h
    by_cases e : a.name = n
    · rw [if_pos e] at h; cases h; exact ⟨List.mem_cons_self, e⟩
    · rw [if_neg e] at h
      obtain ⟨h1, h2⟩ := rowOf_some h
      exact ⟨List.mem_cons_of_mem _ h1, h2⟩
def RowGood (f : Str → List Int) (r : Row) : Prop := f r.name ≠ [] ∧ r.many = (f r.name).length ∧ r.least ∈ f r.name ∧ r.greatest ∈ f r.name ∧ ∀ x ∈ f r.name, r.least ≤ x ∧ x ≤ r.greatest
theorem smy_of {st : List (Int × Itm)} {ks : List Int} {kv : Vals} {ns ms : List Str} {rows : List Row} (h : VkOk kv (valsOf st ks) ns) (hp : ms.Perm (kv.map (·.1))) (hr : rows.map (·.name) = ms) (hg : ∀ r ∈ rows, RowGood (valsOf st ks) r) (hnl : ns.length < 10) : SmyOf st ks ⟨ks.length, rows⟩ := by
  refine ⟨rfl, ⟨?_, fun r hr => ?_⟩, fun n => ?_⟩
  · have h1 := h.len
    have h2 := hp.length_eq
    rw [← hr, List.length_map, List.length_map] at h2
    show rows.length ≤ 10
    omega
  · obtain ⟨h0, h1, h2, h3, _⟩ := hg r hr
    have := List.length_pos_iff.mpr h0
    exact ⟨by omega, h1, h2, h3⟩
  · show match rowOf rows n with | none => _ | some r => _
    cases e : rowOf rows n with
    | none =>
      have hn := rowOf_none e
      rw [hr] at hn
      show valsOf st ks n = []
      refine Classical.byContradiction fun q => hn (hp.mem_iff.mpr ((h.ne n).mpr q))
    | some r =>
      obtain ⟨h1, rfl⟩ := rowOf_some e
      exact (hg r h1).2
theorem vals_len (st : List (Int × Itm)) {b : Nat} : ∀ (ks : List Int) (n : Str), (∀ i ∈ ks, (getI st i).labs.length ≤ b) → (valsOf st ks n).length ≤ ks.length * b
  | [], _, _ => Nat.zero_le _
  | i :: ks, n, h => by
    have ih := vals_len st ks n fun j hj => h j (List.mem_cons_of_mem _ hj)
    have h0 := h i List.mem_cons_self
    have hf := List.length_filter_le (fun q : Str × Int => decide (q.1 = n)) (getI st i).labs
    unfold valsOf at ih ⊢
    rw [List.flatMap_cons, List.length_append, List.length_map, List.length_cons, Nat.succ_mul]
    omega
section
variable {P : Program} {w : World} {K : PySem.W.Frag} {mg : Str → Option Value} {base : Heap} {T : List (Addr × Str)} {g C : Addr} {fd : FuncData}
def f_summary : FT := fun ds Φ => ∃ (st : List (Int × Itm)) (ks : List Int) (ns : List Str), ds = [stD st, .lst (ks.map .int)] ∧ ks.length ≤ 100 ∧ (∀ i ∈ ks, ∃ d, look st i = some d) ∧ (∀ q ∈ st, (q.2.labs.map (·.1)).Sublist ns) ∧ ns.length < 10 ∧ ∀ s : Smy, SmyOf st ks s → Φ (smyD s)
theorem ok_law_summary (bi : BI mg) (F : FnT K "_law_summary" s__law_summary g fd) : FnOk P w K mg base CX0 1 g fd p__law_summary (spP K T f_summary) := by
  refine fn_okD bdOk0 F sc__law_summary (fun ds Φ h => ?_) (by decide) (fun cdv A outer s H XE B ds Φ hM hHI hT hr hf => ?_)
  · obtain ⟨_, _, _, rfl, _⟩ := h; rfl
  obtain ⟨st, ks, ns, rfl, hkl, hk, hns, hnl, hf⟩ := hf
  subst hT
  have hu1 : _ + 1 < cLine := Nat.lt_of_le_of_lt (Nat.add_le_add_left (by decide : 1 ≤ 64) _) hr.units
  have hlab : ∀ i ∈ ks, ((getI st i).labs.map (·.1)).Sublist ns := fun i hi => by
    obtain ⟨d, hd⟩ := hk i hi
    rw [getI_ok hd]
    exact hns _ (look_mem hd)
  have hlen : ∀ i ∈ ks, (getI st i).labs.length ≤ 10 := fun i hi => by
    have := (hlab i hi).length_le
    rw [List.length_map] at this
    omega
  refine dl_cons (ds_dnew 2 (fun l => ?_) sc__law_summary.nd)
  refine dl_cons (ds_for PassesOwn.never (fun _ _ => dg_v sc__law_summary.nd) (di_lst (dw_v rfl ⟨_, rfl, fun i E' => ∃ (kv : Vals) (l : Addr) (s3 s4 s5 : Sl), E' = [.dt (stD st), .dt (.lst (ks.map .int)), .ownD l (valK kv), s3, s4, s5] ∧ VkOk kv (valsOf st (ks.take i)) ns, ?j0, ?jt, ?je⟩)))
  case j0 => exact ⟨[], l, _, _, _, rfl, List.nodup_nil, fun n h => (by cases h), fun n => rfl, fun n => ⟨fun h => (by cases h), fun h => (h rfl).elim⟩⟩
  case jt =>
    intro gl i d E' hd hJ
    obtain ⟨kv, l, s3, s4, s5, rfl, hv⟩ := hJ
    rw [List.getElem?_map] at hd
    cases hx : ks[i]? with
    | none => rw [hx] at hd; cases hd
    | some k =>
      rw [hx] at hd
      cases hd
      have hkm : k ∈ ks := List.mem_of_getElem? hx
      obtain ⟨it, hit⟩ := hk k hkm
      have hl : lookD (st.map fun q => (q.1, itmD q.2)) k = some (itmD it) := by rw [look_st, hit]; rfl
      have hgi := getI_ok hit
      have ht : ∀ n, valsOf st (ks.take (i + 1)) n = valsOf st (ks.take i) n ++ (it.labs.filter fun q => decide (q.1 = n)).map (·.2) := fun n => by
        have : ks.take (i + 1) = ks.take i ++ [k] := by rw [List.take_add_one, hx]; rfl
        rw [this]
        unfold valsOf
        rw [List.flatMap_append, List.flatMap_cons, List.flatMap_nil, List.append_nil, hgi]
      refine dl_one (ds_for PassesOwn.never (fun _ _ => dg_tup (n := 2) rfl (dgs_cons (dg_v sc__law_summary.nd) (dgs_cons (dg_v sc__law_summary.nd) dgs_nil))) (di_tup (dw_at (dw_dget hu1 (dw_v rfl (dw_v rfl ⟨_, _, _, rfl, rfl, hl, dw_int ⟨_, rfl, _, rfl, fun j E' => ∃ (kv : Vals) (l : Addr) (s4 s5 : Sl), E' = [.dt (stD st), .dt (.lst (ks.map .int)), .ownD l (valK kv), .dt (.int k), s4, s5] ∧ VkOk kv (fun n => valsOf st (ks.take i) n ++ ((it.labs.take j).filter fun q => decide (q.1 = n)).map (·.2)) ns, ?k0, ?kt, ?ke⟩⟩))))))
      case k0 =>
        refine ⟨kv, l, s4, s5, rfl, ?_⟩
        have e : (fun n => valsOf st (ks.take i) n ++ ((it.labs.take 0).filter fun q => decide (q.1 = n)).map (·.2)) = valsOf st (ks.take i) := by funext n; simp
        rw [e]; exact hv
      case ke =>
        rintro E' ⟨kv, l, s4, s5, rfl, hv⟩
        rw [List.length_map, List.take_length] at hv
        refine ⟨kv, l, .dt (.int k), s4, s5, rfl, ?_⟩
        have e : (fun n => valsOf st (ks.take i) n ++ (it.labs.filter fun q => decide (q.1 = n)).map (·.2)) = valsOf st (ks.take (i + 1)) := funext fun n => (ht n).symm
        rw [e] at hv; exact hv
      case kt =>
        intro gl j d E' hd hJ
        obtain ⟨kv, l, s4, s5, rfl, hv⟩ := hJ
        rw [List.getElem?_map] at hd
        cases hy : it.labs[j]? with
        | none => rw [hy] at hd; cases hd
        | some q =>
          rw [hy] at hd
          cases hd
          obtain ⟨nm, x⟩ := q
          have hnm : nm ∈ ns := by
            have := hlab k hkm
            rw [hgi] at this
            exact this.subset (List.mem_map.mpr ⟨_, List.mem_of_getElem? hy, rfl⟩)
          have hz : (lookV kv nm).length ≤ 2000 := by
            rw [hv.val, List.length_append, List.length_map]
            have h1 := vals_len st (ks.take i) nm fun z hz => hlen z (List.mem_of_mem_take hz)
            have h2 : (ks.take i).length ≤ 100 := by rw [List.length_take]; omega
            have h3 := List.length_filter_le (fun q : Str × Int => decide (q.1 = nm)) (it.labs.take j)
            have h4 : (it.labs.take j).length ≤ 10 := by
              have := hlen k hkm
              rw [hgi] at this
              rw [List.length_take]; omega
            omega
          have hk2 := hv.len
          refine ⟨rfl, rfl, dl_one (ds_dput 2 hu1 rfl (dw_add (dw_ownGet2 2 hu1 rfl (dw_v rfl (dw_n (dn_lst (da_nil ⟨szl, .inr nm, rfl, ?gtt⟩)))))))⟩
          case gtt =>
            rw [(look_val kv nm).1]
            refine dw_n (dn_lst (da_cons (dw_v rfl (da_nil ⟨szl, ?z1, dw_v rfl ⟨.inr nm, rfl, ?z2, ?fin⟩⟩))))
            case z1 =>
              rw [List.length_map, List.length_singleton]
              exact Nat.le_trans (show _ ≤ 3000 by omega) szl
            case z2 =>
              rw [List.length_map]
              exact Nat.lt_of_lt_of_le (show _ < 1000 by omega) szl
            case fin =>
              refine ⟨putV kv nm (lookV kv nm ++ [x]), l, .dt (.str nm), .dt (.int x), ?_, hv.put hnm fun m => ?_⟩
              · rw [← put_val, List.map_append]; rfl
              · have ht2 : it.labs.take (j + 1) = it.labs.take j ++ [(nm, x)] := by rw [List.take_add_one, hy]; rfl
                rw [ht2, List.filter_append, List.map_append, ← List.append_assoc]
                by_cases e : m = nm
                · rw [if_pos e, e]; simp
                · rw [if_neg e]
                  have : ¬ nm = m := fun q => e q.symm
                  simp [this]
  case je =>
    rintro E' ⟨kv, l, s3, s4, s5, rfl, hv⟩
    rw [List.length_map, List.take_length] at hv
    have hk2 := hv.len
    refine dl_cons (ds_ret (dw_tup (da_cons (dw_len bi.len (da_cons (dw_v rfl (da_nil (.inl ⟨_, rfl, da_cons (dw_tuple bi.tuple (da_cons (dw_n (dn_l [("_law_name", 4)] sc__law_summary.nd (show BlkOk n__law_summary (defScope s__law_summary) _ _ from ⟨rfl, by decide +kernel, by decide +kernel, by decide +kernel, by decide +kernel⟩) (lc_l [("_law_name", 4)] (fun _ _ _ _ _ _ _ => dg_name 4 sc__law_summary.nd) (by decide) (di_lst (dw_n (dn_sortS bi.sorted (da_cons (dw_n (dn_listOwn 2 bi.list rfl ⟨?z1, da_nil ⟨kv.map (·.1), ?z2, ?z3, fun ms hp _ => ⟨_, rfl, fun i acc => ∃ rows : List Row, acc = rows.map rowD ∧ rows.map (·.name) = ms.take i ∧ ∀ r ∈ rows, RowGood (valsOf st ks) r, ⟨[], rfl, rfl, fun r h => (by cases h)⟩, ?t, ?f⟩⟩⟩)))))))))))⟩))))))))
    case z1 => rw [List.length_map]; exact Nat.le_trans (show _ ≤ 1000 by omega) szl
    case z2 => rw [List.map_map, List.map_map]; rfl
    case z3 => rw [List.length_map]; omega
    case f =>
      rintro acc ⟨rows, rfl, hr, hg⟩
      rw [List.length_map, List.take_length] at hr
      refine da_nil (.inl ⟨_, rfl, da_nil ⟨szl, ?_⟩⟩)
      have := hf ⟨ks.length, rows⟩ (smy_of hv hp hr hg hnl)
      rw [List.length_map]
      exact this
    case t =>
      intro gl ow i d acc hd hacc
      rw [List.getElem?_map] at hd
      cases hx : ms[i]? with
      | none => rw [hx] at hd; cases hd
      | some nm =>
        rw [hx] at hd
        cases hd
        obtain ⟨rows, rfl, hr, hg⟩ := hacc
        have ht : ms.take (i + 1) = ms.take i ++ [nm] := by rw [List.take_add_one, hx]; rfl
        have hm : nm ∈ kv.map (·.1) := hp.mem_iff.mp (List.mem_of_getElem? hx)
        have hlk := (look_val kv nm).2 hm
        have hne := (hv.ne nm).mp hm
        rw [hv.val] at hlk
        refine fun s H C cl fp => dq_nil (ifB_t fun s H C cl fp => ?_)
        refine dw_tup (da_cons (dw_v rfl (da_cons (dw_len bi.len (da_cons (dw_ownGet 2 hu1 rfl (dw_v rfl ⟨.inr nm, _, rfl, hlk, da_nil (.inl ⟨_, rfl, ?y⟩)⟩)))))))
        refine da_cons (dw_minL bi.min (da_cons (dw_ownGet 2 hu1 rfl (dw_v rfl ⟨.inr nm, _, rfl, hlk, da_nil ⟨_, rfl, List.length_pos_iff.mpr hne, fun a ha1 ha2 => ?y2⟩⟩))))
        refine da_cons (dw_maxL bi.max (da_cons (dw_ownGet 2 hu1 rfl (dw_v rfl ⟨.inr nm, _, rfl, hlk, da_nil ⟨_, rfl, List.length_pos_iff.mpr hne, fun b hb1 hb2 => da_nil ⟨szl, ?y3⟩⟩⟩))))
        refine ⟨rows ++ [⟨nm, (valsOf st ks nm).length, a, b⟩], ?_, ?_, fun r hr => ?_⟩
        · rw [List.map_append, List.length_map]; rfl
        · rw [List.map_append, hr, ht]; rfl
        · rcases List.mem_append.mp hr with hr | hr
          · exact hg r hr
          · rw [List.mem_singleton.mp hr]
            exact ⟨hne, rfl, ha1, hb1, fun x hx => ⟨ha2 x hx, hb2 x hx⟩⟩
end
end N
set_option Elab.async false
set_option linter.all false
set_option maxRecDepth 100000
set_option maxHeartbeats 1000000
namespace N
open PySem
open PySem.Spec
open PyProof.Rows
open L2
/-! R15: _law_region. -/
/-- what a region must hold -/
def RegFor (k : Kd) (vs : List (List Int)) : Reg → Prop
  | .box lo hi => ∀ v ∈ vs, lo.length = v.length ∧ hi.length = v.length ∧ ∀ i, i < v.length → lo.getD i 0 ≤ v.getD i 0 ∧ v.getD i 0 ≤ hi.getD i 0
  | .ball c r => ∀ v ∈ vs, c.length = v.length ∧ dist k c v ≤ r
  | .cell c a b => ∀ v ∈ vs, c.length = v.length ∧ a ≤ dist k c v ∧ dist k c v ≤ b
section
variable {P : Program} {w : World} {K : PySem.W.Frag} {mg : Str → Option Value} {base : Heap} {T : List (Addr × Str)} {g C : Addr} {fd : FuncData}
abbrev scR (f : Str) : Scope := { kind := .function, names := [(".0", .local), ("_law_at", .cell), (f, .globalImplicit), ("_law_pick", .globalImplicit), ("_law_heap_here", .cell), ("_law_vectors", .cell)], isGenerator := false, isCoroutine := false }
def Sv2 (m : Nat) (v : List Int) : Prop := v.length = m ∧ ∀ i ∈ v, -900 ≤ i ∧ i ≤ 900
theorem Sv2.sv {m : Nat} {v : List Int} (h : Sv2 m v) (hm : m ≤ 100) : Sv' v := ⟨by rw [h.1]; exact hm, fun x hx => by have := h.2 x hx; omega⟩
theorem Sv2.get {m : Nat} {v : List Int} (h : Sv2 m v) {i : Nat} (hi : i < m) : v[i]? = some (v.getD i 0) ∧ -900 ≤ v.getD i 0 ∧ v.getD i 0 ≤ 900 := by
  have hl : i < v.length := by rw [h.1]; exact hi
  have e : v.getD i 0 = v[i] := by simp [List.getD, List.getElem?_eq_getElem hl]
  rw [e]
  exact ⟨List.getElem?_eq_getElem hl, h.2 _ (List.getElem_mem hl)⟩
theorem Sv2.at' {m : Nat} {v : List Int} (h : Sv2 m v) {i : Nat} (hi : i < m) : atI (v.map Dt.int) (0 + (i : Int)) = some (.int (v.getD i 0)) := by
  rw [Int.zero_add]
  exact atI_nat (by rw [List.getElem?_map, (h.get hi).1]; rfl)
theorem getD_left {l m : List Int} {j : Nat} (h : j < l.length) : (l ++ m).getD j 0 = l.getD j 0 := by
  unfold List.getD
  rw [List.getElem?_append_left h]
theorem getD_last {l : List Int} {x : Int} : (l ++ [x]).getD l.length 0 = x := by
  unfold List.getD
  rw [List.getElem?_append_right (Nat.le_refl _), Nat.sub_self]; rfl
theorem dist_b9 (k : Kd) {a b : List Int} (ha : Sv' a) (hb : Sv' b) : 0 ≤ dist k a b ∧ dist k a b ≤ 900000000 := by
  have hl : ((diffs a b).map (partOf k)).length ≤ 100 := by rw [List.length_map]; exact Nat.le_trans (diffs_len a b) ha.1
  have h : ∀ x ∈ (diffs a b).map (partOf k), 0 ≤ x ∧ x ≤ 9000000 := fun x hx => by
    obtain ⟨i, hi, rfl⟩ := List.mem_map.mp hx
    exact partOf_bound k (diffs_mem ha hb hi)
  refine ⟨(dist_bound k ha hb).1, ?_⟩
  unfold dist
  generalize (diffs a b).map (partOf k) = l at hl h
  have hs : l.sum ≤ 900000000 := by
    have := sum_bound (b := 9000000) (by decide) h
    have : (l.length : Int) ≤ 100 := by omega
    omega
  cases k <;> first | exact hs | skip
  show maxD0 l ≤ _
  cases l with
  | nil => decide
  | cons a t =>
    show t.foldl max a ≤ _
    rcases foldl_max_mem t a with e | e
    · have q := h a List.mem_cons_self
      rw [e]; omega
    · have q := h _ (List.mem_cons_of_mem a e)
      omega
def f_region (p : Addr) : FT := fun ds Φ => ∃ (k : Kd) (form : Str) (vs : List (List Int)) (m : Nat), ds = [.raw (.ref p), .str (kS k), .str form, .lst (vs.map vecD)] ∧ vs ≠ [] ∧ vs.length ≤ 100 ∧ 1 ≤ m ∧ m ≤ 100 ∧ (∀ v ∈ vs, Sv2 m v) ∧ ∀ r : Reg, RgOk r → RegFor k vs r → Φ (regD r)
theorem ok_law_region (bi : BI mg) (p q : Addr) (CP : CPick P w K mg base T p q) (C_law_distance : Cal P w K mg base 1 "_law_distance" p__law_distance (spP K T f_law_distance)) (F : FnT K "_law_region" s__law_region g fd) : FnOk P w K mg base CX0 3 g fd p__law_region (spD K (HpM p q) (HpI p q) T (f_region p)) := by
  refine fn_okD (k := 2) (hpBd p q) F sc__law_region (fun ds Φ h => ?_) (by decide) (fun cdv A outer s H XE B ds Φ hM hHI hT hr hf => ?_)
  · obtain ⟨_, _, _, _, rfl, _⟩ := h; rfl
  obtain ⟨k, form, vs, m, rfl, hne, hvl, hm1, hm2, hv, hf⟩ := hf
  subst hT
  obtain ⟨v0, vr, rfl⟩ : ∃ v0 vr, vs = v0 :: vr := by cases vs with | nil => exact (hne rfl).elim | cons a r => exact ⟨a, r, rfl⟩
  have hv0 := hv v0 List.mem_cons_self
  have h00 : atI (((v0 :: vr).map vecD)) 0 = some (vecD v0) := atI_nat (i := 0) rfl
  refine dl_cons (ds_if (dt_eq (dw_v rfl (dw_str ⟨_, rfl, ifB_d (fun h => ?h1) (fun h => dl_nil ?h2)⟩))))
  case h1 =>
    refine dl_cons (ds_s sc__law_region.nd (dw_tuple bi.tuple (da_cons (dw_n (dn_l [("_law_at", 6)] sc__law_region.nd (show BlkOk n__law_region (defScope s__law_region) _ _ from ⟨rfl, by decide +kernel, by decide +kernel, by decide +kernel, by decide +kernel⟩) (lc_l [("_law_at", 6)] (fun _ _ _ _ _ _ _ => dg_name 6 sc__law_region.nd) (by decide) (di_rng1 bi.range (da_cons (dw_len bi.len (da_cons (dw_at (dw_v rfl (dw_int ⟨_, h00, da_nil (.inr (.inl ⟨_, rfl, da_nil ⟨_, rfl, ?r1, ?r2, fun i acc => ∃ lo : List Int, acc = lo.map .int ∧ lo.length = i ∧ (∀ x ∈ lo, -1000 ≤ x ∧ x ≤ 1000) ∧ ∀ j < i, ∀ v ∈ v0 :: vr, lo.getD j 0 ≤ v.getD j 0, ?j0, ?jt, ?je⟩⟩))⟩)))))))))))))
    case r1 => rw [List.length_map, hv0.1]; omega
    case r2 => omega
    case j0 => exact ⟨[], rfl, rfl, fun x h => (by cases h), fun j h => (by omega)⟩
    case jt =>
      intro gl ow i d acc hd hacc
      obtain ⟨hi, rfl⟩ := rngD_get hd
      obtain ⟨lo, rfl, hl, hb, hlo⟩ := hacc
      rw [List.length_map, hv0.1, Int.toNat_natCast] at hi
      refine fun s H C cl fp => dq_nil (ifB_t fun s H C cl fp => ?_)
      refine dw_sub (dw_minL bi.min (da_cons (dw_n (dn_l [("_law_vector_here", 5)] sc__law_region.nd (show BlkOk n__law_region (scR "min") _ _ from ⟨rfl, by decide +kernel, by decide +kernel, by decide +kernel, by decide +kernel⟩) (lcE (α := List Int) [("_law_vector_here", 5)] (fun _ _ _ _ _ _ _ => dg_name 5 sc__law_region.nd) (by decide) (di_lst (dw_v rfl ⟨_, rfl, v0 :: vr, vecD, fun _ => true, fun v => .int (v.getD i 0), rfl, ?tlo, ?flo⟩)))))))
      case tlo =>
        intro gl ow v hvm
        exact fun s H C cl fp => dq_nil ⟨rfl, fun _ s H C cl fp => dw_at (dw_v rfl (dw_v rfl ⟨_, (hv v hvm).at' hi, rfl⟩))⟩
      case flo =>
        refine da_nil ⟨(v0 :: vr).map fun v => v.getD i 0, by rw [filter_tt, List.map_map]; rfl, by rw [List.length_map]; exact Nat.succ_pos _, fun mn h1 h2 => dw_cal CP (cmS hM hHI) ‹Room _ _› (by omega) (da_cons (dw_v rfl (da_cons (dw_n (dn_lst (da_cons (dw_int (da_cons (dw_int (da_cons (dw_int (da_nil ⟨szl, da_nil ⟨_, rfl, by simp, (show 3 < 1073741824 by decide), fun d hd => ?_⟩⟩))))))))))))⟩
        have hd : ∃ e : Int, d = .int e ∧ 0 ≤ e ∧ e ≤ 2 := by
          simp only [List.mem_cons, List.not_mem_nil, or_false] at hd
          rcases hd with rfl | rfl | rfl <;> exact ⟨_, rfl, by decide, by decide⟩
        obtain ⟨e, rfl, he0, he1⟩ := hd
        have hm' : -900 ≤ mn ∧ mn ≤ 900 := by
          obtain ⟨v, hvm, rfl⟩ := List.mem_map.mp h1
          exact ((hv v hvm).get hi).2
        refine ⟨lo ++ [mn - e], by rw [List.map_append]; rfl, by rw [List.length_append, hl]; rfl, fun x hx => ?_, fun j hj v hvm => ?_⟩
        · rcases List.mem_append.mp hx with hx | hx
          · exact hb x hx
          · rw [List.mem_singleton.mp hx]; omega
        · by_cases hji : j < i
          · rw [getD_left (by omega)]; exact hlo j hji v hvm
          · have : j = i := by omega
            subst this
            rw [← hl, getD_last, hl]
            have := h2 _ (List.mem_map.mpr ⟨v, hvm, rfl⟩)
            omega
    case je =>
      rintro acc ⟨lo, rfl, hl, hb, hlo⟩
      rw [rngD_len, List.length_map, hv0.1, Int.toNat_natCast] at hl
      rw [rngD_len, List.length_map, hv0.1, Int.toNat_natCast] at hlo
      refine da_nil (.inl ⟨_, rfl, ?_⟩)
      refine dl_cons (ds_ret (dw_tup (da_cons (dw_str (da_cons (dw_v rfl (da_cons (dw_tuple bi.tuple (da_cons (dw_n (dn_l [("_law_at", 6)] sc__law_region.nd (show BlkOk n__law_region (defScope s__law_region) _ _ from ⟨rfl, by decide +kernel, by decide +kernel, by decide +kernel, by decide +kernel⟩) (lc_l [("_law_at", 6)] (fun _ _ _ _ _ _ _ => dg_name 6 sc__law_region.nd) (by decide) (di_rng1 bi.range (da_cons (dw_len bi.len (da_cons (dw_at (dw_v rfl (dw_int ⟨_, h00, da_nil (.inr (.inl ⟨_, rfl, da_nil ⟨_, rfl, ?r3, ?r4, fun i acc => ∃ lo : List Int, acc = lo.map .int ∧ lo.length = i ∧ (∀ x ∈ lo, -1000 ≤ x ∧ x ≤ 1000) ∧ ∀ j < i, ∀ v ∈ v0 :: vr, v.getD j 0 ≤ lo.getD j 0, ?j2, ?jt2, ?je2⟩⟩))⟩)))))))))))))))))))
      case r3 => rw [List.length_map, hv0.1]; omega
      case r4 => omega
      case j2 => exact ⟨[], rfl, rfl, fun x h => (by cases h), fun j h => (by omega)⟩
      case je2 =>
        rintro acc ⟨up, rfl, hl2, hb2, hup⟩
        rw [rngD_len, List.length_map, hv0.1, Int.toNat_natCast] at hl2
        rw [rngD_len, List.length_map, hv0.1, Int.toNat_natCast] at hup
        refine da_nil (.inl ⟨_, rfl, da_nil ⟨szl, hf (.box lo up) ⟨⟨by omega, hb⟩, ⟨by omega, hb2⟩⟩ fun v hvm => ?_⟩⟩)
        have := (hv v hvm).1
        exact ⟨by omega, by omega, fun i hi => ⟨hlo i (by omega) v hvm, hup i (by omega) v hvm⟩⟩
      case jt2 =>
        intro gl ow i d acc hd hacc
        obtain ⟨hi, rfl⟩ := rngD_get hd
        obtain ⟨lo, rfl, hl, hb, hlo⟩ := hacc
        rw [List.length_map, hv0.1, Int.toNat_natCast] at hi
        refine fun s H C cl fp => dq_nil (ifB_t fun s H C cl fp => ?_)
        refine dw_addI (dw_maxL bi.max (da_cons (dw_n (dn_l [("_law_vector_here", 5)] sc__law_region.nd (show BlkOk n__law_region (scR "max") _ _ from ⟨rfl, by decide +kernel, by decide +kernel, by decide +kernel, by decide +kernel⟩) (lcE (α := List Int) [("_law_vector_here", 5)] (fun _ _ _ _ _ _ _ => dg_name 5 sc__law_region.nd) (by decide) (di_lst (dw_v rfl ⟨_, rfl, v0 :: vr, vecD, fun _ => true, fun v => .int (v.getD i 0), rfl, ?thi, ?fhi⟩)))))))
        case thi =>
          intro gl ow v hvm
          exact fun s H C cl fp => dq_nil ⟨rfl, fun _ s H C cl fp => dw_at (dw_v rfl (dw_v rfl ⟨_, (hv v hvm).at' hi, rfl⟩))⟩
        case fhi =>
          refine da_nil ⟨(v0 :: vr).map fun v => v.getD i 0, by rw [filter_tt, List.map_map]; rfl, by rw [List.length_map]; exact Nat.succ_pos _, fun mx h1 h2 => dw_cal CP (cmS hM hHI) ‹Room _ _› (by omega) (da_cons (dw_v rfl (da_cons (dw_n (dn_lst (da_cons (dw_int (da_cons (dw_int (da_cons (dw_int (da_nil ⟨szl, da_nil ⟨_, rfl, by simp, (show 3 < 1073741824 by decide), fun d hd => ?_⟩⟩))))))))))))⟩
          have hd : ∃ e : Int, d = .int e ∧ 0 ≤ e ∧ e ≤ 2 := by
            simp only [List.mem_cons, List.not_mem_nil, or_false] at hd
            rcases hd with rfl | rfl | rfl <;> exact ⟨_, rfl, by decide, by decide⟩
          obtain ⟨e, rfl, he0, he1⟩ := hd
          have hm' : -900 ≤ mx ∧ mx ≤ 900 := by
            obtain ⟨v, hvm, rfl⟩ := List.mem_map.mp h1
            exact ((hv v hvm).get hi).2
          refine ⟨lo ++ [mx + e], by rw [List.map_append]; rfl, by rw [List.length_append, hl]; rfl, fun x hx => ?_, fun j hj v hvm => ?_⟩
          · rcases List.mem_append.mp hx with hx | hx
            · exact hb x hx
            · rw [List.mem_singleton.mp hx]; omega
          · by_cases hji : j < i
            · rw [getD_left (by omega)]; exact hlo j hji v hvm
            · have : j = i := by omega
              subst this
              rw [← hl, getD_last, hl]
              have := h2 _ (List.mem_map.mpr ⟨v, hvm, rfl⟩)
              omega
  case h2 =>
    refine dl_cons (ds_s sc__law_region.nd (dw_cal CP (cmS hM hHI) ‹Room _ _› (by omega) (da_cons (dw_v rfl (da_cons (dw_add (dw_v rfl (dw_n (dn_lst (da_cons (dw_tuple bi.tuple (da_cons (dw_n (dn_l [("_law_part", 8)] sc__law_region.nd (show BlkOk n__law_region (defScope s__law_region) _ _ from ⟨rfl, by decide +kernel, by decide +kernel, by decide +kernel, by decide +kernel⟩) (lcE (α := Int) [("_law_part", 8)] (fun _ _ _ _ _ _ _ => dg_name 8 sc__law_region.nd) (by decide) (di_tup (dw_at (dw_v rfl (dw_int ⟨_, h00, _, rfl, v0, .int, fun _ => true, fun i => .int (i + 2), rfl, ?tc, ?fc⟩)))))))))))))))))))
    case tc =>
      intro gl ow i hi
      exact fun s H C cl fp => dq_nil ⟨rfl, fun _ s H C cl fp => dw_addI (dw_v rfl (dw_int rfl))⟩
    case fc =>
      refine da_nil (.inl ⟨_, rfl, da_nil ⟨szl, ?zc, da_nil ⟨_, rfl, by simp, ?zd, fun d hd => ?_⟩⟩⟩)
      case zc => rw [List.length_map]; exact Nat.le_trans (show _ ≤ 1000 by simp only [List.length_singleton]; omega) szl
      case zd => rw [List.length_append, List.length_map]; exact Nat.lt_of_le_of_lt (show _ ≤ 1000 by simp only [List.length_singleton]; omega) (by decide)
      have hc : ∃ c : List Int, d = vecD c ∧ c.length = m ∧ ∀ i ∈ c, -1000 ≤ i ∧ i ≤ 1000 := by
        rcases List.mem_append.mp hd with hd | hd
        · obtain ⟨c, hcm, rfl⟩ := List.mem_map.mp hd
          exact ⟨c, rfl, (hv c hcm).1, fun i hi => by have := (hv c hcm).2 i hi; omega⟩
        · rw [List.mem_singleton.mp hd]
          refine ⟨v0.map (· + 2), by rw [filter_tt, vecD, List.map_map]; rfl, by rw [List.length_map]; exact hv0.1, fun i hi => ?_⟩
          obtain ⟨j, hj, rfl⟩ := List.mem_map.mp hi
          have := hv0.2 j hj
          omega
      clear hd
      obtain ⟨c, rfl, hcl, hcb⟩ := hc
      have hcs : Sv' c := ⟨by omega, hcb⟩
      refine dl_cons (ds_setLd (ixS n__law_region "_law_away") [("_law_vector_here", 5)] sc__law_region.nd (show BlkOk n__law_region (defScope s__law_region) _ _ from ⟨rfl, by decide +kernel, by decide +kernel, by decide +kernel, by decide +kernel⟩) (lcE (α := List Int) [("_law_vector_here", 5)] (fun _ _ _ _ _ _ _ => dg_name 5 sc__law_region.nd) (by decide) (di_lst (dw_v rfl ⟨_, rfl, v0 :: vr, vecD, fun _ => true, fun v => .int (dist k c v), rfl, ?ta, ?fa⟩))))
      case ta =>
        intro gl ow v hvm
        have h1 := (hv v hvm).1
        exact fun s H C cl fp => dq_nil ⟨rfl, fun _ s H C cl fp => dw_calP C_law_distance ‹Room _ _› (by omega) (da_cons (dw_v rfl (da_cons (dw_v rfl (da_cons (dw_v rfl (da_nil ⟨k, c, v, rfl, hcs, (hv v hvm).sv hm2, by omega, fun e => (by rw [e] at hcl; cases m <;> simp at hcl hm1), rfl⟩)))))))⟩
      case fa =>
        rw [filter_tt]
        have hmap : (v0 :: vr).map (fun v => Dt.int (dist k c v)) = ((v0 :: vr).map fun v => dist k c v).map .int := by rw [List.map_map]; rfl
        rw [hmap]
        have hb9 : ∀ z ∈ (v0 :: vr).map (fun v => dist k c v), 0 ≤ z ∧ z ≤ 900000000 := fun z hz => by
          obtain ⟨v, hvm, rfl⟩ := List.mem_map.mp hz
          exact dist_b9 k hcs ((hv v hvm).sv hm2)
        have hpos : 0 < ((v0 :: vr).map (fun v => dist k c v)).length := by rw [List.length_map]; exact Nat.succ_pos _
        refine dl_cons (ds_if (dt_eq (dw_v rfl (dw_str ⟨_, rfl, ifB_d (fun h => ?b1) (fun h => dl_nil ?b2)⟩))))
        case b1 =>
          refine dl_cons (ds_ret (dw_tup (da_cons (dw_str (da_cons (dw_v rfl (da_cons (dw_addI (dw_maxL bi.max (da_cons (dw_v rfl (da_nil ⟨_, rfl, hpos, fun mx x1 x2 => dw_cal CP (cmS hM hHI) ‹Room _ _› (by omega) (da_cons (dw_v rfl (da_cons (dw_n (dn_lst (da_cons (dw_int (da_cons (dw_int (da_cons (dw_int (da_cons (dw_int (da_nil ⟨szl, da_nil ⟨_, rfl, by simp, (show 4 < 1073741824 by decide), fun d hd => ?_⟩⟩))))))))))))))⟩))))))))))))
          have hd : ∃ e : Int, d = .int e ∧ 0 ≤ e ∧ e ≤ 3 := by
            simp only [List.mem_cons, List.not_mem_nil, or_false] at hd
            rcases hd with rfl | rfl | rfl | rfl <;> exact ⟨_, rfl, by decide, by decide⟩
          obtain ⟨e, rfl, he0, he1⟩ := hd
          have hx := hb9 mx x1
          refine da_nil ⟨szl, hf (.ball c (mx + e)) ⟨hcs, by unfold Rad; omega⟩ fun v hvm => ?_⟩
          have h1 := (hv v hvm).1
          have h2 := x2 _ (List.mem_map.mpr ⟨v, hvm, rfl⟩)
          exact ⟨by omega, by omega⟩
        case b2 =>
          refine dl_cons (ds_ret (dw_tup (da_cons (dw_str (da_cons (dw_v rfl (da_cons (dw_max2 bi.max (da_cons (dw_int (da_cons (dw_sub (dw_minL bi.min (da_cons (dw_v rfl (da_nil ⟨_, rfl, hpos, fun mn n1 n2 => dw_cal CP (cmS hM hHI) ‹Room _ _› (by omega) (da_cons (dw_v rfl (da_cons (dw_n (dn_lst (da_cons (dw_int (da_cons (dw_int (da_cons (dw_int (da_nil ⟨szl, da_nil ⟨_, rfl, by simp, (show 3 < 1073741824 by decide), fun d hd => ?_⟩⟩))))))))))))⟩))))))))))))))))
          have hd : ∃ e : Int, d = .int e ∧ 0 ≤ e ∧ e ≤ 1 := by
            simp only [List.mem_cons, List.not_mem_nil, or_false] at hd
            rcases hd with rfl | rfl | rfl <;> exact ⟨_, rfl, by decide, by decide⟩
          obtain ⟨e, rfl, he0, he1⟩ := hd
          refine da_nil ⟨_, _, rfl, ?_⟩
          refine da_cons (dw_addI (dw_maxL bi.max (da_cons (dw_v rfl (da_nil ⟨_, rfl, hpos, fun mx x1 x2 => dw_cal CP (cmS hM hHI) ‹Room _ _› (by omega) (da_cons (dw_v rfl (da_cons (dw_n (dn_lst (da_cons (dw_int (da_cons (dw_int (da_cons (dw_int (da_nil ⟨szl, da_nil ⟨_, rfl, by simp, (show 3 < 1073741824 by decide), fun d hd => ?_⟩⟩))))))))))))⟩)))))
          have hd : ∃ e : Int, d = .int e ∧ 0 ≤ e ∧ e ≤ 2 := by
            simp only [List.mem_cons, List.not_mem_nil, or_false] at hd
            rcases hd with rfl | rfl | rfl <;> exact ⟨_, rfl, by decide, by decide⟩
          obtain ⟨f, rfl, hf0, hf1⟩ := hd
          have hn := hb9 mn n1
          have hx := hb9 mx x1
          refine da_nil ⟨szl, hf (.cell c (if mn - e > 0 then mn - e else 0) (mx + f)) ⟨hcs, ?_, by unfold Rad; omega⟩ fun v hvm => ?_⟩
          · unfold Rad; split <;> omega
          · have h1 := (hv v hvm).1
            have h2 := x2 _ (List.mem_map.mpr ⟨v, hvm, rfl⟩)
            have h3 := n2 _ (List.mem_map.mpr ⟨v, hvm, rfl⟩)
            have h4 := hb9 _ (List.mem_map.mpr ⟨v, hvm, rfl⟩)
            refine ⟨by omega, ?_, by omega⟩
            split <;> omega
end
end N
set_option Elab.async false
set_option linter.all false
set_option maxRecDepth 100000
set_option maxHeartbeats 1000000
namespace N
open PySem
open PySem.Spec
open PyProof.Rows
open L2
/-! R16: _law_some_steps. -/
section
variable {P : Program} {w : World} {K : PySem.W.Frag} {mg : Str → Option Value} {base : Heap} {T : List (Addr × Str)} {g C : Addr} {fd : FuncData}
abbrev stepJ (k : Kd) (v : List Int) (sv : Sie) (reach : Option Int) : Dt → Lot → Bool := fun d l => isStepD d k v sv reach l
def f_some_steps (p : Addr) (n : Nat) : FT := fun ds Φ => ∃ (lot : Lot) (st : List (Int × Itm)) (k : Kd) (v : List Int) (many : Int) (sv : Sie) (reach : Option Int), ds = [.raw (.ref p), lotD lot, qD k v many sv, optD reach] ∧
  LotOk st lot ∧ lot.cnt ≤ 99 ∧ Sv' v ∧ sv.depth ≤ n ∧ ∀ (ws : List Str) (op : List Lot), ws.length ≤ 99 → walk (stepJ k v sv reach) 0 (ws.map .str) [lot] [] = (op, none) → Φ (wdsD ws)
theorem ok_law_some_steps (bi : BI mg) (p q : Addr) (n : Nat) (CP : CPick P w K mg base T p q) (C_law_right_words : Cal P w K mg base (n + 6) "_law_right_words" p__law_right_words (spP K T (f_law_right_words n))) (C_law_lots : Cal P w K mg base 1 "_law_lots" p__law_lots (spP K T f_lots_in)) (F : FnT K "_law_some_steps" s__law_some_steps g fd) : FnOk P w K mg base CX0 (n + 7) g fd p__law_some_steps (spD K (HpM p q) (HpI p q) T (f_some_steps p n)) := by
  refine fn_okD (k := n + 6) (hpBd p q) F sc__law_some_steps (fun ds Φ h => ?_) (by decide) (fun cdv A outer s H XE B ds Φ hM hHI hT hr hf => ?_)
  · obtain ⟨_, _, _, _, _, _, _, rfl, _⟩ := h; rfl
  obtain ⟨lot, st, k, v, many, sv, reach, rfl, hlot, hcnt, hv, hn, hf⟩ := hf
  subst hT
  have hu := hr.units0
  refine dl_cons (ds_parO (ixS n__law_some_steps "_law_todo") (ixS n__law_some_steps "_law_found") (dn_lst (da_cons (dw_v rfl (da_nil ⟨szl, dn_lst (da_nil ⟨szl, fun l m => ?_⟩)⟩)))) sc__law_some_steps.nd)
  refine dl_cons (ds_for PassesOwn.never (fun _ _ => dg_v sc__law_some_steps.nd) (di_rng1 bi.range (da_cons (dw_int (da_nil ⟨99, rfl, by omega, by omega, fun i E' => ∃ (st' : List Lot) (ws : List Str) (op : List Lot) (s5 s6 : Sl) (l m : Addr), E' = [.dt (.raw (.ref p)), .dt (lotD lot), .dt (qD k v many sv), .dt (optD reach), .own l (st'.reverse.map lotD), .own m (ws.map .str), s5, s6] ∧ (∀ l ∈ st', LotOk st l) ∧ cntL st' ≤ 99 - i ∧ ws.length ≤ i ∧ (∀ ws2 : List Str, walk (stepJ k v sv reach) 0 ((ws ++ ws2).map .str) [lot] [] = walk (stepJ k v sv reach) ws.length (ws2.map .str) st' op), ?j0, ?jt, ?je⟩)))))
  case j0 => exact ⟨[lot], [], [], .un, .un, l, m, rfl, fun l h => by rw [List.mem_singleton.mp h]; exact hlot, by rw [cntL, cntL]; exact hcnt, Nat.le_refl _, fun ws2 => rfl⟩
  case jt =>
    intro gl i d E' hd hJ
    obtain ⟨hi, rfl⟩ := rngD_get hd
    have hi : i < 99 := hi
    obtain ⟨st', ws, op, s5, s6, l, m, rfl, hso, hcn, hwl, hw⟩ := hJ
    cases st' with
    | nil =>
      refine dl_cons (ds_if (dt_ownNNil 4 hu rfl (ifB_f (dl_nil (dl_nil ⟨[], ws, op, _, _, _, _, rfl, hso, Nat.zero_le _, by omega, hw⟩)))))
    | cons a r =>
      have hE3 : (a :: r).reverse.map lotD = r.reverse.map lotD ++ [lotD a] := by rw [List.reverse_cons, List.map_append]; rfl
      have hne : ((a :: r).reverse.map lotD).isEmpty = false := by rw [hE3]; simp
      have ha := hso a List.mem_cons_self
      rw [cntL] at hcn
      have hca := cnt_kids a
      have hrl := cntL_len r
      have hkl := cntL_len a.kids
      refine dl_cons (ds_if (dt_ownNNil 4 hu rfl ?_))
      rw [hne, hE3]
      refine ifB_t (dl_cons (ds_setPop 7 4 rfl ?_ sc__law_some_steps.nd))
      refine dl_cons (ds_append 5 rfl (dw_cal CP (cmS hM hHI) ‹Room _ _› (by omega) (da_cons (dw_v rfl (da_cons (dw_add (dw_calP C_law_right_words ‹Room _ _› (by omega) (da_cons (dw_v rfl (da_cons (dw_v rfl (da_cons (dw_v rfl (da_nil ⟨k, v, many, sv, reach, a, rfl, hn, ha.reg, hv, dw_n (dn_lst (da_cons (dw_str (da_nil ⟨szl, ?y1, da_nil ⟨_, rfl, by simp, ?y2, fun d hd => ?_⟩⟩))))⟩))))))))))))))
      case y1 =>
        have : (rightW k v sv reach a).length ≤ 4 := List.length_filter_le _ _
        rw [List.length_map]
        exact Nat.le_trans (show _ ≤ 1000 by simp only [List.length_singleton]; omega) szl
      case y2 =>
        have : (rightW k v sv reach a).length ≤ 4 := List.length_filter_le _ _
        rw [List.length_append, List.length_map]
        exact Nat.lt_of_le_of_lt (show _ ≤ 1000 by simp only [List.length_singleton]; omega) (by decide)
      have hd : ∃ wd : Str, d = .str wd ∧ isStep wd k v sv reach a = true := by
        rcases List.mem_append.mp hd with hd | hd
        · obtain ⟨x, hx, rfl⟩ := List.mem_map.mp hd
          exact ⟨x, rfl, (List.mem_filter.mp hx).2⟩
        · exact ⟨"open", List.mem_singleton.mp hd, rfl⟩
      obtain ⟨wd, rfl, hwd⟩ := hd
      refine ⟨?s1, ?_⟩
      case s1 => rw [List.length_map]; exact Nat.lt_of_lt_of_le (show _ < 2000 by omega) szl
      have hlw : ws.map Dt.str ++ [.str wd] = (ws ++ [wd]).map .str := by rw [List.map_append]; rfl
      have hw2 : ∀ ws2 : List Str, walk (stepJ k v sv reach) 0 (((ws ++ [wd]) ++ ws2).map .str) [lot] [] = if wd = "open" then walk (stepJ k v sv reach) (ws ++ [wd]).length (ws2.map .str) (a.kids ++ r) (op ++ [a]) else walk (stepJ k v sv reach) (ws ++ [wd]).length (ws2.map .str) r op := fun ws2 => by
        rw [List.append_assoc, hw]
        show walk (stepJ k v sv reach) ws.length (.str wd :: ws2.map .str) (a :: r) op = _
        rw [walk_cons]
        have e1 : stepJ k v sv reach (.str wd) a = true := hwd
        rw [e1, if_pos rfl, List.length_append]
        by_cases e : wd = "open"
        · subst e; rfl
        · rw [if_neg e]
          have : isOpen (.str wd) = false := by simpa [isOpen] using e
          rw [this]; rfl
      refine dl_cons (ds_setN (hN := sc__law_some_steps.nd) 4 (dn_catO 4 rfl (dw_if (dt_eq (dw_ownIx 5 rfl (dw_neg (dw_int ⟨_, rfl, _, .str wd, rfl, atI_last _ _, dw_str ⟨_, rfl, ifB_d (fun h => ?a) (fun h => ?b)⟩⟩)))))))
      case a =>
        simp only [if_pos h] at hw2
        refine dw_n (dn_list bi.list (da_cons (dw_revT (dw_calP C_law_lots ‹Room _ _› (by omega) (da_cons (dw_v rfl (da_nil ⟨a, rfl, _, rfl, da_nil (.inr ⟨_, rfl, _, rfl, ?s2, fun l2 => dl_nil (dl_nil ?_)⟩)⟩)))))))
        case s2 => rw [List.length_map, List.length_reverse, List.length_reverse, List.length_map]; exact Nat.le_trans (show _ ≤ 2000 by omega) szl
        refine ⟨a.kids ++ r, ws ++ [wd], op ++ [a], .dt (.int (0 + (i : Nat))), .dt (lotD a), l2, m, ?_, fun l hl => (List.mem_append.mp hl).elim (ha.kids l) fun h => hso l (List.mem_cons_of_mem _ h), by rw [cntL_app]; omega, by rw [List.length_append, List.length_singleton]; omega, hw2⟩
        have e1 : (a.kids ++ r).reverse.map lotD = r.reverse.map lotD ++ (a.kids.map lotD).reverse := by rw [List.reverse_append, List.map_append, List.map_reverse, List.map_reverse]
        rw [← hlw, e1]; rfl
      case b =>
        simp only [if_neg h] at hw2
        refine dw_n (dn_lst (da_nil ⟨szl, _, rfl, ?s2, fun l2 => dl_nil (dl_nil ?_)⟩))
        case s2 => rw [List.length_map, List.length_reverse]; exact Nat.le_trans (show _ ≤ 2000 by simp only [List.length_nil]; omega) szl
        refine ⟨r, ws ++ [wd], op, .dt (.int (0 + (i : Nat))), .dt (lotD a), l2, m, ?_, fun l hl => hso l (List.mem_cons_of_mem _ hl), by omega, by rw [List.length_append, List.length_singleton]; omega, hw2⟩
        rw [← hlw, List.append_nil]; rfl
  case je =>
    rintro E' ⟨st', ws, op, s5, s6, l, m, rfl, hso, hcn, hwl, hw⟩
    rw [rngD_len] at hcn hwl
    have hcn : cntL st' ≤ 99 - 99 := hcn
    have hwl : ws.length ≤ 99 := hwl
    have he : st' = [] := by
      cases st' with
      | nil => rfl
      | cons a r => rw [cntL] at hcn; have := cnt_kids a; omega
    subst he
    have h2 := hw []
    rw [List.append_nil] at h2
    refine dl_freeze 5 rfl (dl_cons (ds_ret (dw_tuple bi.tuple (da_cons (dw_v rfl (da_nil (.inl ⟨_, rfl, hf ws op hwl h2⟩)))))))
end
end N
set_option Elab.async false
set_option linter.all false
set_option maxRecDepth 100000
set_option maxHeartbeats 1000000
namespace N
open PySem
open PySem.Spec
open PyProof.Rows
open L2
/-! R17: what _law_lot makes. -/
abbrev vecsOf (st : List (Int × Itm)) (ks : List Int) : List (List Int) := ks.map fun i => (getI st i).vec
mutual
inductive LotFor (st : List (Int × Itm)) (k : Kd) : List Int → Lot → Prop
  | items {ks ms : List Int} {r : Reg} {s : Smy} : RgOk r → RegFor k (vecsOf st ks) r → SmyOf st ks s → ms.Perm ks → LotFor st k ks (.items r s ms)
  | lots {ks : List Int} {r : Reg} {s : Smy} {ls : List Lot} : RgOk r → RegFor k (vecsOf st ks) r → SmyOf st ks s → LotsFor st k ks ls → LotFor st k ks (.lots r s ls)
inductive LotsFor (st : List (Int × Itm)) (k : Kd) : List Int → List Lot → Prop
  | nil : LotsFor st k [] []
  | cons {a b : List Int} {l : Lot} {ls : List Lot} : LotFor st k a l → LotsFor st k b ls → LotsFor st k (a ++ b) (l :: ls)
end
theorem LotsFor.snoc {st : List (Int × Itm)} {k : Kd} {b : List Int} {l : Lot} (h2 : LotFor st k b l) : ∀ {ls : List Lot} {a : List Int}, LotsFor st k a ls → LotsFor st k (a ++ b) (ls ++ [l])
  | _, _, .nil => by
    have h := LotsFor.cons h2 .nil
    rw [List.append_nil] at h
    exact h
  | _, _, .cons h r => by
    rw [List.append_assoc]
    exact .cons h (LotsFor.snoc h2 r)
mutual
theorem LotFor.ok {st : List (Int × Itm)} {k : Kd} : ∀ {l : Lot} {ks : List Int}, LotFor st k ks l → ks.length ≤ 100 → (∀ i ∈ ks, ∃ d, look st i = some d) → LotOk st l
  | _, _, .items h1 _ _ hp, hl, hk => .items h1 (fun i hi => hk i (hp.mem_iff.mp hi)) (by rw [hp.length_eq]; exact hl)
  | _, _, .lots h1 _ _ hs, hl, hk => .lots h1 (LotsFor.ok hs hl hk)
theorem LotsFor.ok {st : List (Int × Itm)} {k : Kd} : ∀ {ls : List Lot} {ks : List Int}, LotsFor st k ks ls → ks.length ≤ 100 → (∀ i ∈ ks, ∃ d, look st i = some d) → ∀ l ∈ ls, LotOk st l
  | _, _, .nil, _, _ => fun l h => by cases h
  | _, _, .cons h r, hl, hk => fun l hm =>
    have h1 := LotFor.ok h (by rw [List.length_append] at hl; omega) fun i hi => hk i (List.mem_append_left _ hi)
    have h2 := LotsFor.ok r (by rw [List.length_append] at hl; omega) (fun i hi => hk i (List.mem_append_right _ hi))
    (List.mem_cons.mp hm).elim (fun e => e ▸ h1) (fun hm => h2 l hm)
end
end N
set_option Elab.async false
set_option linter.all false
set_option maxRecDepth 100000
set_option maxHeartbeats 1000000
namespace N
open PySem
open PySem.Spec
open PyProof.Rows
open L2
/-! R18: _law_lot. -/
/-- sorted marks between 0 and n, both there -/
theorem marks_ok {ms ns : List Int} {n : Int} (hp : ms.Perm ns) (hs : ms.Pairwise (· ≤ ·)) (h0 : (0 : Int) ∈ ns) (h1 : n ∈ ns) (hb : ∀ x ∈ ns, 0 ≤ x ∧ x ≤ n) : ms.getD 0 0 = 0 ∧ ms.getD (ms.length - 1) 0 = n ∧ (∀ i, i < ms.length → 0 ≤ ms.getD i 0 ∧ ms.getD i 0 ≤ n) ∧ ∀ i, i + 1 < ms.length → ms.getD i 0 ≤ ms.getD (i + 1) 0 := by
  have hg : ∀ i (h : i < ms.length), ms.getD i 0 = ms[i] := fun i h => by simp [List.getD, List.getElem?_eq_getElem h]
  have hbm : ∀ i, i < ms.length → 0 ≤ ms.getD i 0 ∧ ms.getD i 0 ≤ n := fun i h => by
    rw [hg i h]
    exact hb _ (hp.mem_iff.mp (List.getElem_mem h))
  have hmono : ∀ i j (hi : i < ms.length) (hj : j < ms.length), i ≤ j → ms[i] ≤ ms[j] := fun i j hi hj hij => by
    rcases Nat.lt_or_eq_of_le hij with h | h
    · exact List.pairwise_iff_getElem.mp hs i j hi hj h
    · subst h; exact Int.le_refl _
  obtain ⟨a, ha, ea⟩ := List.mem_iff_getElem.mp (hp.mem_iff.mpr h0)
  obtain ⟨b, hb', eb⟩ := List.mem_iff_getElem.mp (hp.mem_iff.mpr h1)
  have hl : 0 < ms.length := by omega
  refine ⟨?_, ?_, hbm, fun i hi => ?_⟩
  · have := hmono 0 a hl ha (Nat.zero_le _)
    have := hbm 0 hl
    rw [hg 0 hl] at this ⊢
    omega
  · have := hmono b (ms.length - 1) hb' (by omega) (by omega)
    have := hbm (ms.length - 1) (by omega)
    rw [hg _ (by omega)] at this ⊢
    omega
  · rw [hg i (by omega), hg (i + 1) hi]
    exact hmono _ _ _ _ (by omega)
theorem at_ints {ms : List Int} {i : Nat} (h : i < ms.length) : atI (ms.map Dt.int) (i : Int) = some (.int (ms.getD i 0)) := by
  refine atI_nat ?_
  rw [List.getElem?_map, List.getElem?_eq_getElem h]
  simp [List.getD, List.getElem?_eq_getElem h]
theorem cut_ab {ks : List Int} {a b : Int} (h0 : 0 ≤ a) (h1 : a ≤ b) (h2 : b ≤ (ks.length : Int)) : cutD (ks.map Dt.int) (some a) (some b) = ((ks.drop a.toNat).take (b.toNat - a.toNat)).map Dt.int := by
  rw [cutD_map]
  congr 1
  have e1 : HT.sIx ks.length 0 (some a) = a.toNat := by
    show (if a < 0 then (a + (ks.length : Int)).toNat else min a.toNat ks.length) = _
    rw [if_neg (by omega)]; omega
  have e2 : HT.sIx ks.length ks.length (some b) = b.toNat := by
    show (if b < 0 then (b + (ks.length : Int)).toNat else min b.toNat ks.length) = _
    rw [if_neg (by omega)]; omega
  unfold cutD
  rw [e1, e2]
section
variable {P : Program} {w : World} {K : PySem.W.Frag} {mg : Str → Option Value} {base : Heap} {T : List (Addr × Str)} {g C : Addr} {fd : FuncData}
def f_lot (p : Addr) (n : Nat) : FT := fun ds Φ => ∃ (k : Kd) (form : Str) (st : List (Int × Itm)) (ks : List Int) (d m : Nat) (ns : List Str), ds = [.raw (.ref p), .str (kS k), .str form, stD st, .lst (ks.map .int), .int d] ∧ d ≤ n ∧ ks ≠ [] ∧ ks.length ≤ 100 ∧ (∀ i ∈ ks, ∃ d, look st i = some d) ∧ 1 ≤ m ∧ m ≤ 100 ∧ (∀ q ∈ st, Sv2 m q.2.vec) ∧ (∀ q ∈ st, (q.2.labs.map (·.1)).Sublist ns) ∧ ns.length < 10 ∧
  ∀ l : Lot, LotFor st k ks l → l.cnt ≤ ks.length * (d + 1) → Φ (lotD l)
theorem ok_law_lot (bi : BI mg) (p q : Addr) (CD : CDraw P w K mg base T p q) (CP : CPick P w K mg base T p q) (CR : Cal P w K mg base 3 "_law_region" p__law_region (spD K (HpM p q) (HpI p q) T (f_region p))) (CS : Cal P w K mg base 1 "_law_summary" p__law_summary (spP K T f_summary)) (n : Nat) (IH : ∀ m, m + 1 = n → Cal P w K mg base (m + 4) "_law_lot" p__law_lot (spD K (HpM p q) (HpI p q) T (f_lot p m))) (F : FnT K "_law_lot" s__law_lot g fd) : FnOk P w K mg base CX0 (n + 4) g fd p__law_lot (spD K (HpM p q) (HpI p q) T (f_lot p n)) := by
  refine fn_okD (k := n + 3) (hpBd p q) F sc__law_lot (fun ds Φ h => ?_) (by decide) (fun cdv A outer s H XE B ds Φ hM hHI hT hr hf => ?_)
  · obtain ⟨_, _, _, _, _, _, _, rfl, _⟩ := h; rfl
  obtain ⟨k, form, st, ks, d, m, ns, rfl, hdn, hne, hkl, hk, hm1, hm2, hsv, hns, hnl, hf⟩ := hf
  subst hT
  have hu1 : _ + 1 < cLine := Nat.lt_of_le_of_lt (Nat.add_le_add_left (by decide : 1 ≤ 64) _) hr.units
  have hvec : ∀ v ∈ vecsOf st ks, Sv2 m v := fun v hv => by
    obtain ⟨i, hi, rfl⟩ := List.mem_map.mp hv
    obtain ⟨it, hit⟩ := hk i hi
    show Sv2 m (getI st i).vec
    rw [getI_ok hit]
    exact hsv _ (look_mem hit)
  refine dl_cons (ds_s sc__law_lot.nd (dw_cal CR (cmS hM hHI) ‹Room _ _› (by omega) (da_cons (dw_v rfl (da_cons (dw_v rfl (da_cons (dw_v rfl (da_cons (dw_n (dn_l [("_law_key", 7)] sc__law_lot.nd (show BlkOk n__law_lot (defScope s__law_lot) _ _ from ⟨rfl, by decide +kernel, by decide +kernel, by decide +kernel, by decide +kernel⟩) (lcE (α := Int) [("_law_key", 7)] (fun _ _ _ _ _ _ _ => dg_name 7 sc__law_lot.nd) (by decide) (di_lst (dw_v rfl ⟨_, rfl, ks, .int, fun _ => true, fun i => vecD (getI st i).vec, rfl, ?tvec, ?fvec⟩))))))))))))))
  case tvec =>
    intro gl ow i hi
    obtain ⟨it, hit⟩ := hk i hi
    have hl : lookD (st.map fun q => (q.1, itmD q.2)) i = some (itmD it) := by rw [look_st, hit]; rfl
    exact fun s H C cl fp => dq_nil ⟨rfl, fun _ s H C cl fp => dw_at (dw_dget hu1 (dw_v rfl (dw_v rfl ⟨_, _, _, rfl, rfl, hl, dw_int ⟨_, rfl, by show vecD it.vec = vecD (getI st i).vec; rw [getI_ok hit]⟩⟩)))⟩
  case fvec =>
    refine da_nil ⟨k, form, vecsOf st ks, m, by rw [filter_tt, List.map_map]; rfl, by simpa using hne, by rw [List.length_map]; exact hkl, hm1, hm2, hvec, fun rg hrg hrf => ?_⟩
    have hpos := List.length_pos_iff.mpr hne
    refine dl_cons (ds_if (DT.im (Ψ' := fun z => z = true ∨ (z = false ∧ 0 < d ∧ 2 ≤ ks.length)) ?tst fun z hz => ?_))
    case tst =>
      refine dt_w (dtw_or (dt_eq (dw_v rfl (dw_int ⟨_, rfl, ifB_d (fun h => .inl rfl) (fun h0 => dtw_or (dt_lt (dw_len bi.len (da_cons (dw_v rfl (da_nil (.inl ⟨_, rfl, dw_int ⟨_, rfl, ifB_d (fun h => .inl rfl) (fun h1 => dtw_or1 ?tst2)⟩⟩)))))))⟩))))
      case tst2 =>
        rw [List.length_map] at h1
        refine dt_eq (dw_cal CD (cmS hM hHI) ‹Room _ _› (by omega) (da_cons (dw_v rfl (da_cons (dw_int (da_nil ⟨6, rfl, by decide, by decide, fun r _ _ => dw_int ⟨_, rfl, ?_⟩⟩))))))
        by_cases hr0 : r = 0
        · exact .inl (decide_eq_true hr0)
        · exact .inr ⟨decide_eq_false hr0, by omega, by omega⟩
    rcases hz with rfl | ⟨rfl, hd0, hk2⟩
    · refine ifB_t ?_
      refine dl_cons (ds_ret (dw_tup (da_cons (dw_v rfl (da_cons (dw_calP CS ‹Room _ _› (by omega) (da_cons (dw_v rfl (da_cons (dw_v rfl (da_nil ⟨st, ks, ns, rfl, hkl, hk, hns, hnl, fun sm hsm => da_cons (dw_tup (da_cons (dw_str (da_cons (dw_tuple bi.tuple (da_cons (dw_n (dn_sortI bi.sorted (da_cons (dw_v rfl (da_nil ⟨ks, rfl, fun ms hp hs => da_nil (.inl ⟨_, rfl, da_nil ⟨szl, da_nil ⟨szl, ?_⟩⟩⟩)⟩)))))))))))⟩)))))))))))
      refine hf (.items rg sm ms) (.items hrg hrf hsm hp) ?_
      rw [Lot.cnt]
      exact Nat.le_trans (show 1 ≤ ks.length * 1 by omega) (Nat.mul_le_mul_left _ (by omega))
    · refine ifB_f (dl_nil ?_)
      refine dl_cons (ds_setLd (ixS n__law_lot "_law_more") [("_law_turn", 9)] sc__law_lot.nd (show BlkOk n__law_lot (defScope s__law_lot) _ _ from ⟨rfl, by decide +kernel, by decide +kernel, by decide +kernel, by decide +kernel⟩) (lcR0 [("_law_turn", 9)] (fun _ _ _ _ _ _ _ => dg_name 9 sc__law_lot.nd) (by decide) (di_rng1 bi.range (da_cons (dw_cal CP (cmS hM hHI) ‹Room _ _› (by omega) (da_cons (dw_v rfl (da_cons (dw_n (dn_lst (da_cons (dw_int (da_cons (dw_int (da_cons (dw_int (da_nil ⟨szl, da_nil ⟨_, rfl, by simp, (show 3 < 1073741824 by decide), fun dd hdd => ?_⟩⟩)))))))))))))))))
      have hdd : ∃ e : Int, dd = .int e ∧ 0 ≤ e ∧ e ≤ 4 := by
        simp only [List.mem_cons, List.not_mem_nil, or_false] at hdd
        rcases hdd with rfl | rfl | rfl <;> exact ⟨_, rfl, by decide, by decide⟩
      obtain ⟨mr, rfl, hmr0, hmr1⟩ := hdd
      refine da_nil ⟨mr, rfl, by omega, by omega, fun y => ∃ e : Nat, y = .int e ∧ e ≤ ks.length, ?tmore, fun ys hys hyP => ?_⟩
      case tmore =>
        intro gl ow z hz
        refine fun s H C cl fp => dw_cal CD (cmS hM hHI) ‹Room _ _› (by omega) (da_cons (dw_v rfl (da_cons (dw_addI (dw_len bi.len (da_cons (dw_v rfl (da_nil (.inl ⟨_, rfl, dw_int (da_nil ⟨_, rfl, by omega, ?lt1, fun r h0 h1 => ⟨r.toNat, ?e1, ?e2⟩⟩)⟩)))))))))
        case lt1 => rw [List.length_map]; omega
        case e1 => show Dt.int r = Dt.int ((r.toNat : Nat) : Int); rw [Int.toNat_of_nonneg h0]
        case e2 => rw [List.length_map] at h1; omega
      have hmore : ∃ es : List Nat, ys = (es.map Int.ofNat).map .int ∧ es.length = ys.length ∧ ∀ e ∈ es, e ≤ ks.length := by
        clear hys
        induction ys with
        | nil => exact ⟨[], rfl, rfl, fun e h => by cases h⟩
        | cons y ys ih =>
          obtain ⟨e, rfl, he⟩ := hyP y List.mem_cons_self
          obtain ⟨es, rfl, hl, hes⟩ := ih fun z hz => hyP z (List.mem_cons_of_mem _ hz)
          refine ⟨e :: es, rfl, by rw [List.length_cons, List.length_cons, hl], fun j hj => ?_⟩
          rcases List.mem_cons.mp hj with rfl | hj
          · exact he
          · exact hes j hj
      obtain ⟨es, rfl, hesl, hes⟩ := hmore
      refine dl_cons (ds_parO (hN := sc__law_lot.nd) 10 11 (dn_sortI bi.sorted (da_cons (dw_add (dw_n (dn_lst (da_cons (dw_int (da_cons (dw_addI (dw_int (dw_cal CD (cmS hM hHI) ‹Room _ _› (by omega) (da_cons (dw_v rfl (da_cons (dw_sub (dw_len bi.len (da_cons (dw_v rfl (da_nil (.inl ⟨_, rfl, dw_int (da_nil ⟨_, rfl, ?lt2, ?lt3, fun r hr0 hr1 => ?rest⟩)⟩)))))))))))))))))))))
      case lt2 => rw [List.length_map]; omega
      case lt3 => rw [List.length_map]; omega
      case rest =>
       rw [List.length_map] at hr1
       refine da_cons (dw_len bi.len (da_cons (dw_v rfl (da_nil (.inl ⟨_, rfl, da_nil ⟨szl, dw_v rfl ⟨?zz, da_nil ⟨0 :: (1 + r) :: (ks.length : Int) :: es.map Int.ofNat, ?eqq, fun ms hp hs => dn_lst (da_nil ⟨szl, fun l l2 => dl_freeze 10 rfl ?_⟩)⟩⟩⟩⟩)))))
       case zz =>
        rw [hys, rngD_len]
        exact Nat.le_trans (show _ ≤ 1000 by simp only [List.length_cons, List.length_nil]; omega) szl
       case eqq =>
        rw [List.length_map]; rfl
       have hmk := marks_ok (n := (ks.length : Int)) hp hs List.mem_cons_self (by simp) (fun x hx => by
        simp only [List.mem_cons] at hx
        rcases hx with rfl | rfl | rfl | hx
        · omega
        · omega
        · omega
        · obtain ⟨e, he, rfl⟩ := List.mem_map.mp hx
          have := hes e he
          exact ⟨Int.natCast_nonneg e, Int.ofNat_le.mpr this⟩)
       obtain ⟨hm0, hml, hmb, hmm⟩ := hmk
       have hmlen : ms.length ≤ 10 := by
        have := hp.length_eq
        simp only [List.length_cons, List.length_map] at this
        rw [rngD_len] at hys
        omega
       refine dl_cons (ds_for PassesOwn.never (fun _ _ => dg_v sc__law_lot.nd) (di_rng1 bi.range (da_cons (dw_sub (dw_len bi.len (da_cons (dw_v rfl (da_nil (.inl ⟨_, rfl, dw_int (da_nil ⟨_, rfl, ?lb1, ?lb2, fun i E' => ∃ (ls : List Lot) (l : Addr) (s7 s8 s9 s12 : Sl), E' = [.dt (.raw (.ref p)), .dt (.str (kS k)), .dt (.str form), .dt (stD st), .dt (.lst (ks.map .int)), .dt (.int d), .dt (regD rg), s7, s8, s9, .dt (.lst (ms.map .int)), .own l (ls.map lotD), s12] ∧ LotsFor st k (ks.take (ms.getD i 0).toNat) ls ∧ cntL ls ≤ (ms.getD i 0).toNat * d ∧ ls.length ≤ i, ?jl0, ?jlt, ?jle⟩)⟩)))))))))
       case lb1 => rw [List.length_map]; omega
       case lb2 => rw [List.length_map]; omega
       case jl0 => exact ⟨[], l2, _, _, _, _, rfl, by rw [hm0]; exact .nil, Nat.zero_le _, Nat.le_refl _⟩
       case jle =>
        rintro E' ⟨ls, l, s7, s8, s9, s12, rfl, hL, hcnt, hll⟩
        have hlast : (((ms.map Dt.int).length : Int) - 1).toNat = ms.length - 1 := by rw [List.length_map]; omega
        rw [rngD_len] at hL hcnt hll
        rw [hlast, hml, Int.toNat_natCast, List.take_length] at hL
        rw [hlast, hml, Int.toNat_natCast] at hcnt
        refine dl_freeze 11 rfl (dl_cons (ds_ret (dw_tup (da_cons (dw_v rfl (da_cons (dw_calP CS ‹Room _ _› (by omega) (da_cons (dw_v rfl (da_cons (dw_v rfl (da_nil ⟨st, ks, ns, rfl, hkl, hk, hns, hnl, fun sm hsm => da_cons (dw_tup (da_cons (dw_str (da_cons (dw_tuple bi.tuple (da_cons (dw_v rfl (da_nil (.inl ⟨_, rfl, da_nil ⟨szl, da_nil ⟨szl, ?fin⟩⟩⟩)))))))))⟩))))))))))))
        have hq := hf (.lots rg sm ls) (.lots hrg hrf hsm hL) (by rw [Lot.cnt, Nat.mul_add]; omega)
        rw [lotD, lotsD_map] at hq
        exact hq
       case jlt =>
        intro gl i dd E' hd hJ
        obtain ⟨hi, hdd⟩ := rngD_get hd
        rw [Int.zero_add] at hdd
        subst hdd
        have hlast : (((ms.map Dt.int).length : Int) - 1).toNat = ms.length - 1 := by rw [List.length_map]; omega
        rw [hlast] at hi
        obtain ⟨ls, l, s7, s8, s9, s12, rfl, hL, hcnt, hll⟩ := hJ
        have ha := at_ints (ms := ms) (i := i) (by omega)
        have hb := at_ints (ms := ms) (i := i + 1) (by omega)
        rw [Int.natCast_add] at hb
        have hb : atI (ms.map Dt.int) ((i : Int) + 1) = some (.int (ms.getD (i + 1) 0)) := hb
        have hba := hmb i (by omega)
        have hbb := hmb (i + 1) (by omega)
        have hmo := hmm i (by omega)
        generalize hA : ms.getD i 0 = a at *
        generalize hB : ms.getD (i + 1) 0 = b at *
        refine dl_cons (ds_if (dt_lt (dw_at (dw_v rfl (dw_v rfl ⟨_, ha, dw_at (dw_v rfl (dw_addI (dw_v rfl (dw_int ⟨_, hb, _, rfl, ifB_d (fun h => ?jyes) (fun h => dl_nil (dl_nil ?jno))⟩))))⟩)))))
        case jno =>
         have hab : a = b := by omega
         exact ⟨ls, l, s7, s8, s9, _, rfl, by rw [hB, ← hab]; exact hL, by rw [hB, ← hab]; exact hcnt, by omega⟩
        case jyes =>
         obtain ⟨e, rfl⟩ : ∃ e, d = e + 1 := ⟨d - 1, by omega⟩
         obtain ⟨n', rfl⟩ : ∃ n', n = n' + 1 := ⟨n - 1, by omega⟩
         have hcut : cutD (ks.map Dt.int) (some a) (some b) = ((ks.drop a.toNat).take (b.toNat - a.toNat)).map Dt.int := cut_ab hba.1 hmo hbb.2
         have hplen : ((ks.drop a.toNat).take (b.toNat - a.toNat)).length = b.toNat - a.toNat := by rw [List.length_take, List.length_drop]; omega
         have hpne : (ks.drop a.toNat).take (b.toNat - a.toNat) ≠ [] := fun z => by rw [z, List.length_nil] at hplen; omega
         have hpk : ∀ i ∈ (ks.drop a.toNat).take (b.toNat - a.toNat), ∃ d, look st i = some d := fun i hi => hk i (List.mem_of_mem_drop (List.mem_of_mem_take hi))
         have htk : ks.take b.toNat = ks.take a.toNat ++ (ks.drop a.toNat).take (b.toNat - a.toNat) := by
          have : b.toNat = a.toNat + (b.toNat - a.toNat) := by omega
          rw [this, List.take_add]
          congr 2
          omega
         refine dl_cons (ds_append 11 rfl (dw_cal (IH n' rfl) (cmS hM hHI) ‹Room _ _› (by omega) (da_cons (dw_v rfl (da_cons (dw_v rfl (da_cons (dw_v rfl (da_cons (dw_v rfl (da_cons (dw_n (dn_slL (dw_v rfl ⟨_, rfl, do_some (dw_at (dw_v rfl (dw_v rfl ⟨_, ha, _, rfl, do_some (dw_at (dw_v rfl (dw_addI (dw_v rfl (dw_int ⟨_, hb, _, rfl, da_cons (dw_sub (dw_v rfl (dw_int (da_nil ⟨k, form, st, _, e, m, ns, ?geq, by omega, hpne, by omega, hpk, hm1, hm2, hsv, hns, hnl, fun l' hl' hc' => ⟨?glen, dl_nil (dl_nil ?gfin)⟩⟩))))⟩)))))⟩)))⟩))))))))))))))
         case geq => rw [hcut]; simp
         case glen => rw [List.length_map]; exact Nat.lt_of_lt_of_le (show _ < 1000 by omega) szl
         case gfin =>
          refine ⟨ls ++ [l'], l, s7, s8, s9, _, by rw [List.map_append]; rfl, ?_, ?_, by rw [List.length_append, List.length_singleton]; omega⟩
          · rw [hB, htk]
            exact hL.snoc hl'
          · rw [hB, cntL_app, cntL, cntL]
            rw [hplen] at hc'
            have hsum : b.toNat * (e + 1) = a.toNat * (e + 1) + (b.toNat - a.toNat) * (e + 1) := by rw [← Nat.add_mul]; congr 1; omega
            omega
end
end N
set_option Elab.async false
set_option linter.all false
set_option maxRecDepth 100000
set_option maxHeartbeats 1000000
namespace N
open PySem
open PySem.Spec
open PyProof.Rows
open L2
/-! L0: distances, plainly. -/
theorem msn (x : Int) : 0 ≤ x * x := by
  rcases Int.le_total 0 x with h | h
  · exact Int.mul_nonneg h h
  · have e : x * x = (-x) * (-x) := by grind
    rw [e]
    exact Int.mul_nonneg (by omega) (by omega)
theorem maxD0_cons (a : Int) (l : List Int) (h : ∀ x ∈ a :: l, 0 ≤ x) : maxD0 (a :: l) = max a (maxD0 l) := by
  have gen : ∀ (l : List Int) (a b : Int), l.foldl max (max a b) = max a (l.foldl max b) := by
    intro l
    induction l with
    | nil => intro a b; rfl
    | cons x l ih => intro a b; rw [List.foldl_cons, List.foldl_cons, ← ih]; congr 1; omega
  cases l with
  | nil => have := h a List.mem_cons_self; show a = max a 0; omega
  | cons x l => show List.foldl max (max a x) l = max a (List.foldl max x l); exact gen l a x
theorem part_nn (k : Kd) (d : Int) : 0 ≤ partOf k d := by
  cases k with
  | square => exact msn d
  | sum => show 0 ≤ iabs d; unfold iabs; split <;> omega
  | most => show 0 ≤ iabs d; unfold iabs; split <;> omega
  | unlike => show 0 ≤ (if d ≠ 0 then (1 : Int) else 0); split <;> omega
theorem parts_nn (k : Kd) (l : List Int) : ∀ x ∈ l.map (partOf k), 0 ≤ x := by
  intro x hx
  obtain ⟨d, _, rfl⟩ := List.mem_map.mp hx
  exact part_nn k d
/-- how parts join, one by one -/
def joinI (k : Kd) (a b : Int) : Int := if k = .most then max a b else a + b
theorem joined_cons (k : Kd) (a : Int) (l : List Int) (h : ∀ x ∈ a :: l, 0 ≤ x) : joined k (a :: l) = joinI k a (joined k l) := by
  cases k with
  | most => exact maxD0_cons a l h
  | square => exact List.sum_cons
  | sum => exact List.sum_cons
  | unlike => exact List.sum_cons
theorem joined_nil (k : Kd) : joined k [] = 0 := by cases k <;> rfl
theorem dist_nil (k : Kd) (b : List Int) : dist k [] b = 0 := by
  show joined k [] = 0
  exact joined_nil k
theorem dist_cons (k : Kd) (x y : Int) (a b : List Int) : dist k (x :: a) (y :: b) = joinI k (partOf k (x - y)) (dist k a b) := by
  show joined k (partOf k (x - y) :: (diffs a b).map (partOf k)) = _
  exact joined_cons k _ _ (parts_nn k ((x - y) :: diffs a b))
theorem dist_nn (k : Kd) : ∀ a b : List Int, 0 ≤ dist k a b
  | [], b => by rw [dist_nil]; exact Int.le_refl _
  | x :: a, [] => by
    show 0 ≤ joined k []
    rw [joined_nil]; exact Int.le_refl _
  | x :: a, y :: b => by
    rw [dist_cons]
    have h1 := part_nn k (x - y)
    have h2 := dist_nn k a b
    unfold joinI
    split <;> omega
theorem part_neg (k : Kd) (d : Int) : partOf k (-d) = partOf k d := by
  cases k with
  | square => show -d * -d = d * d; exact Int.neg_mul_neg d d
  | sum => show iabs (-d) = iabs d; unfold iabs; split <;> split <;> omega
  | most => show iabs (-d) = iabs d; unfold iabs; split <;> split <;> omega
  | unlike => show (if -d ≠ 0 then (1 : Int) else 0) = if d ≠ 0 then 1 else 0; split <;> split <;> omega
theorem dist_symm (k : Kd) : ∀ a b : List Int, a.length = b.length → dist k a b = dist k b a
  | [], [], _ => rfl
  | x :: a, [], h => by cases h
  | [], y :: b, h => by cases h
  | x :: a, y :: b, h => by
    rw [dist_cons, dist_cons, dist_symm k a b (Nat.succ.inj h), ← part_neg k (x - y)]
    congr 2
    omega
theorem part_tri {k : Kd} (hk : k ≠ .square) (d e : Int) : partOf k (d + e) ≤ partOf k d + partOf k e := by
  cases k with
  | square => exact (hk rfl).elim
  | sum => show iabs (d + e) ≤ iabs d + iabs e; unfold iabs; split <;> split <;> split <;> omega
  | most => show iabs (d + e) ≤ iabs d + iabs e; unfold iabs; split <;> split <;> split <;> omega
  | unlike => show (if d + e ≠ 0 then (1 : Int) else 0) ≤ (if d ≠ 0 then 1 else 0) + if e ≠ 0 then 1 else 0; split <;> split <;> split <;> omega
theorem dist_tri {k : Kd} (hk : k ≠ .square) : ∀ a b c : List Int, a.length = b.length → b.length = c.length → dist k a c ≤ dist k a b + dist k b c
  | [], b, c, _, _ => by rw [dist_nil, dist_nil]; have := dist_nn k b c; omega
  | x :: a, [], _, h, _ => by cases h
  | x :: a, y :: b, [], _, h => by cases h
  | x :: a, y :: b, z :: c, h1, h2 => by
    rw [dist_cons, dist_cons, dist_cons]
    have ih := dist_tri hk a b c (Nat.succ.inj h1) (Nat.succ.inj h2)
    have ht := part_tri hk (x - y) (y - z)
    rw [show x - y + (y - z) = x - z by omega] at ht
    have h1 := part_nn k (x - y)
    have h2 := part_nn k (y - z)
    have h3 := dist_nn k a b
    have h4 := dist_nn k b c
    unfold joinI
    split <;> omega
/-! ### the square -/
theorem sq_le {x y : Int} (hy : 0 ≤ y) (h : x * x ≤ y * y) : x ≤ y := by
  apply Int.not_lt.mp
  intro hxy
  have e : x * x - y * y = (x - y) * (x + y) := by grind
  have := Int.mul_pos (show 0 < x - y by omega) (show 0 < x + y by omega)
  omega
def dotD : List Int → List Int → List Int → Int
  | c :: cs, x :: xs, v :: vs => (c - x) * (c - v) + dotD cs xs vs
  | _, _, _ => 0
theorem dist_sq (x y : Int) (a b : List Int) : dist .square (x :: a) (y :: b) = (x - y) * (x - y) + dist .square a b := dist_cons .square x y a b
theorem dot_eq : ∀ c x v : List Int, c.length = x.length → x.length = v.length → dist .square c v + dist .square c x - dist .square v x = 2 * dotD c x v
  | [], [], [], _, _ => rfl
  | c :: cs, x :: xs, v :: vs, h1, h2 => by
    have ih := dot_eq cs xs vs (Nat.succ.inj h1) (Nat.succ.inj h2)
    rw [dist_sq, dist_sq, dist_sq, dotD]
    grind
  | [], x :: xs, _, h, _ => by cases h
  | c :: cs, [], _, h, _ => by cases h
  | [], [], v :: vs, _, h => by cases h
  | c :: cs, x :: xs, [], _, h => by cases h
theorem cs_step {P A B u w : Int} (hA : 0 ≤ A) (hB : 0 ≤ B) (h : P * P ≤ A * B) : (u * w + P) * (u * w + P) ≤ (u * u + A) * (w * w + B) := by
  have key : 2 * (P * (u * w)) ≤ A * (w * w) + B * (u * u) := by
    have n1 : 0 ≤ A * (w * w) := Int.mul_nonneg hA (msn w)
    have n2 : 0 ≤ B * (u * u) := Int.mul_nonneg hB (msn u)
    refine sq_le (by omega) ?_
    have e1 : 2 * (P * (u * w)) * (2 * (P * (u * w))) = 4 * ((P * P) * ((u * w) * (u * w))) := by grind
    have e2 : (A * (w * w) + B * (u * u)) * (A * (w * w) + B * (u * u)) = (A * (w * w) - B * (u * u)) * (A * (w * w) - B * (u * u)) + 4 * ((A * B) * ((u * w) * (u * w))) := by grind
    have e3 := msn (A * (w * w) - B * (u * u))
    have e4 := Int.mul_le_mul_of_nonneg_right h (msn (u * w))
    rw [e1, e2]
    omega
  have e5 : (u * w + P) * (u * w + P) = (u * u) * (w * w) + 2 * (P * (u * w)) + P * P := by grind
  have e6 : (u * u + A) * (w * w + B) = (u * u) * (w * w) + (A * (w * w) + B * (u * u)) + A * B := by grind
  rw [e5, e6]
  omega
theorem dot_cs : ∀ c x v : List Int, c.length = x.length → x.length = v.length → dotD c x v * dotD c x v ≤ dist .square c x * dist .square c v
  | [], [], [], _, _ => Int.le_refl _
  | c :: cs, x :: xs, v :: vs, h1, h2 => by
    have ih := dot_cs cs xs vs (Nat.succ.inj h1) (Nat.succ.inj h2)
    rw [dist_sq, dist_sq, dotD]
    exact cs_step (dist_nn _ _ _) (dist_nn _ _ _) ih
  | [], x :: xs, _, h, _ => by cases h
  | c :: cs, [], _, h, _ => by cases h
  | [], [], v :: vs, _, h => by cases h
  | c :: cs, x :: xs, [], _, h => by cases h
/-- (S + A - D)² ≤ 4 S A -/
theorem sq_main (c x v : List Int) (h1 : c.length = x.length) (h2 : x.length = v.length) : (dist .square c v + dist .square c x - dist .square v x) * (dist .square c v + dist .square c x - dist .square v x) ≤ 4 * dist .square c v * dist .square c x := by
  have e := dot_eq c x v h1 h2
  have h := dot_cs c x v h1 h2
  rw [e]
  have e1 : 2 * dotD c x v * (2 * dotD c x v) = 4 * (dotD c x v * dotD c x v) := by grind
  have e2 : 4 * dist .square c v * dist .square c x = 4 * (dist .square c x * dist .square c v) := by grind
  rw [e1, e2]
  omega
/-- farther out: A ≤ r ≤ S -/
theorem sq_out {S A D r : Int} (hA : 0 ≤ A) (hD : 0 ≤ D) (h : (S + A - D) * (S + A - D) ≤ 4 * S * A) (h1 : A ≤ r) (h2 : r ≤ S) : (S + r - D) * (S + r - D) ≤ 4 * S * r := by
  have e : (S + r - D) * (S + r - D) - 4 * S * r = (S + A - D) * (S + A - D) - 4 * S * A - (r - A) * (2 * (S + D) - r - A) := by grind
  have hn : 0 ≤ (r - A) * (2 * (S + D) - r - A) := Int.mul_nonneg (by omega) (by omega)
  omega
/-- nearer in: S ≤ a ≤ A -/
theorem sq_in {S A D a : Int} (hS : 0 ≤ S) (hD : 0 ≤ D) (h : (S + A - D) * (S + A - D) ≤ 4 * S * A) (h1 : S ≤ a) (h2 : a ≤ A) : S + a - D ≤ 0 ∨ (S + a - D) * (S + a - D) ≤ 4 * S * a := by
  by_cases h0 : S + a - D ≤ 0
  · exact .inl h0
  refine .inr (Int.not_lt.mp fun hc => ?_)
  have e : (S + A - D) * (S + A - D) - 4 * S * A - ((S + a - D) * (S + a - D) - 4 * S * a) = (A - a) * (A + a - 2 * (S + D)) := by grind
  have hlt : A + a - 2 * (S + D) < 0 := by
    apply Int.not_le.mp
    intro hn
    have := Int.mul_nonneg (show 0 ≤ A - a by omega) hn
    omega
  -- the lower point
  by_cases hSD : S ≤ D
  · have e2 : (S + a - D) * (S + a - D) - 4 * S * a = (a - (D - S)) * (a + (D - S) - 2 * (S + D)) - 4 * S * (D - S) := by grind
    have n1 : 0 ≤ 4 * S * (D - S) := Int.mul_nonneg (by omega) (by omega)
    have n2 : (a - (D - S)) * (a + (D - S) - 2 * (S + D)) ≤ 0 := by
      have := Int.mul_nonneg (show 0 ≤ a - (D - S) by omega) (show 0 ≤ -(a + (D - S) - 2 * (S + D)) by omega)
      rw [Int.mul_neg] at this
      omega
    omega
  · have e2 : (S + a - D) * (S + a - D) - 4 * S * a = (a - S) * (a + S - 2 * (S + D)) - D * (4 * S - D) := by grind
    have n1 : 0 ≤ D * (4 * S - D) := Int.mul_nonneg hD (by omega)
    have n2 : (a - S) * (a + S - 2 * (S + D)) ≤ 0 := by
      have := Int.mul_nonneg (show 0 ≤ a - S by omega) (show 0 ≤ -(a + S - 2 * (S + D)) by omega)
      rw [Int.mul_neg] at this
      omega
    omega
/-! ### boxes -/
theorem gap_nn (a b c : Int) : 0 ≤ gapTo a b c := by unfold gapTo; split; omega; split <;> omega
theorem part_gap (k : Kd) {a b c x : Int} (h1 : a ≤ x) (h2 : x ≤ b) : partOf k (gapTo a b c) ≤ partOf k (c - x) := by
  have hg : 0 ≤ gapTo a b c ∧ (gapTo a b c ≤ c - x ∨ gapTo a b c ≤ x - c) := by
    unfold gapTo; split; omega; split <;> omega
  cases k with
  | square =>
    show gapTo a b c * gapTo a b c ≤ (c - x) * (c - x)
    rcases hg.2 with h | h
    · exact Int.mul_le_mul h h hg.1 (by omega)
    · have := Int.mul_le_mul h h hg.1 (by omega : 0 ≤ x - c)
      have e : (x - c) * (x - c) = (c - x) * (c - x) := by grind
      omega
  | sum => show iabs _ ≤ iabs _; unfold iabs; split <;> split <;> omega
  | most => show iabs _ ≤ iabs _; unfold iabs; split <;> split <;> omega
  | unlike => show (if _ ≠ _ then (1 : Int) else 0) ≤ if _ ≠ _ then 1 else 0; split <;> split <;> omega
theorem box_floor (k : Kd) : ∀ lo hi v x : List Int, lo.length = x.length → hi.length = x.length → v.length = x.length → (∀ i, i < x.length → lo.getD i 0 ≤ x.getD i 0 ∧ x.getD i 0 ≤ hi.getD i 0) → joined k ((gaps3 lo hi v).map (partOf k)) ≤ dist k v x
  | [], hi, v, x, _, _, _, _ => by
    show joined k [] ≤ _
    rw [joined_nil]; exact dist_nn _ _ _
  | l :: lo, [], v, x, h1, h2, _, _ => by rw [← h2] at h1; cases h1
  | l :: lo, h :: hi, [], x, h1, _, h3, _ => by rw [← h3] at h1; cases h1
  | l :: lo, h :: hi, c :: v, [], h1, _, _, _ => by cases h1
  | l :: lo, h :: hi, c :: v, y :: x, h1, h2, h3, hb => by
    have ih := box_floor k lo hi v x (Nat.succ.inj h1) (Nat.succ.inj h2) (Nat.succ.inj h3) fun i hi' => by
      have := hb (i + 1) (Nat.succ_lt_succ hi')
      simpa using this
    have h0 := hb 0 (Nat.zero_lt_succ _)
    have hp := part_gap k (c := c) h0.1 h0.2
    show joined k (partOf k (gapTo l h c) :: (gaps3 lo hi v).map (partOf k)) ≤ _
    rw [joined_cons k _ _ (parts_nn k (gapTo l h c :: gaps3 lo hi v)), dist_cons]
    simp only [List.getD_cons_zero] at hp
    unfold joinI
    split <;> omega
end N
set_option Elab.async false
set_option linter.all false
set_option maxRecDepth 100000
set_option maxHeartbeats 1000000
namespace N
open PySem
open PySem.Spec
open PyProof.Rows
open L2
/-! L1: floors and verdicts are sound. -/
theorem droot_ge {a b n : Int} (ha : 0 ≤ a) (hb : 0 ≤ b) (h : n ≤ 0 ∨ n * n ≤ 4 * a * b) : n ≤ droot a b := by
  have hd : 0 ≤ droot a b := Int.natCast_nonneg _
  by_cases h0 : n ≤ 0
  · omega
  have h : n * n ≤ 4 * a * b := h.resolve_left h0
  apply Int.not_lt.mp
  intro hc
  have hs := (Float64.isqrt_spec (4 * a * b).toNat).2
  have hn : 0 ≤ 4 * a * b := Int.mul_nonneg (by omega) hb
  have h1 : droot a b + 1 ≤ n := by omega
  have h2 := Int.mul_le_mul h1 h1 (by omega) (by omega : 0 ≤ n)
  have h3 : (4 * a * b) < (droot a b + 1) * (droot a b + 1) := by
    have : (((4 * a * b).toNat : Nat) : Int) < (((Float64.isqrt (4 * a * b).toNat + 1) * (Float64.isqrt (4 * a * b).toNat + 1) : Nat) : Int) := Int.ofNat_lt.mpr hs
    rw [Int.toNat_of_nonneg hn, Int.natCast_mul] at this
    exact this
  omega
theorem floor_sound {k : Kd} {vs : List (List Int)} {r : Reg} (hr : RegFor k vs r) (hk : RgOk r) {v x : List Int} (hx : x ∈ vs) (hl : v.length = x.length) : floorOf k r v ≤ dist k v x := by
  have hD := dist_nn k v x
  cases r with
  | box lo hi =>
    obtain ⟨h1, h2, h3⟩ := hr x hx
    exact box_floor k lo hi v x h1 h2 hl h3
  | ball c r =>
    obtain ⟨h1, h2⟩ := hr x hx
    have hS := dist_nn k c v
    have hA := dist_nn k c x
    have hr0 : 0 ≤ r := hk.2.1
    show floorShell k (0, r) (dist k c v) (dist k c v) ≤ _
    unfold floorShell
    split
    · rename_i h
      have h : dist k c v > r := h
      unfold leastBeyond
      rw [if_pos h]
      unfold gapOf
      split
      · rename_i e
        subst e
        have hm := sq_main c x v h1 hl.symm
        have := sq_out hA hD hm h2 (Int.le_of_lt h)
        have := droot_ge (n := dist .square c v + r - dist .square v x) hS hr0 (.inr this)
        show dist .square c v + r - droot (dist .square c v) r ≤ dist .square v x
        omega
      · rename_i e
        have ht := dist_tri e c x v h1 hl.symm
        rw [dist_symm k x v hl.symm] at ht
        show iabs (dist k c v - r) ≤ _
        unfold iabs
        split <;> omega
    · split
      · rename_i h
        have h : dist k c v < 0 := h
        omega
      · exact hD
  | cell c a b =>
    obtain ⟨h1, h2, h3⟩ := hr x hx
    have hS := dist_nn k c v
    have hA := dist_nn k c x
    have ha0 : 0 ≤ a := hk.2.1.1
    have hb0 : 0 ≤ b := hk.2.2.1
    show floorShell k (a, b) (dist k c v) (dist k c v) ≤ _
    unfold floorShell
    split
    · rename_i h
      have h : dist k c v > b := h
      unfold leastBeyond
      rw [if_pos h]
      unfold gapOf
      split
      · rename_i e
        subst e
        have hm := sq_main c x v h1 hl.symm
        have := sq_out hA hD hm h3 (Int.le_of_lt h)
        have := droot_ge (n := dist .square c v + b - dist .square v x) hS hb0 (.inr this)
        show dist .square c v + b - droot (dist .square c v) b ≤ dist .square v x
        omega
      · rename_i e
        have ht := dist_tri e c x v h1 hl.symm
        rw [dist_symm k x v hl.symm] at ht
        show iabs (dist k c v - b) ≤ _
        unfold iabs
        split <;> omega
    · split
      · rename_i h
        have h : dist k c v < a := h
        unfold gapOf
        split
        · rename_i e
          subst e
          have hm := sq_main c x v h1 hl.symm
          have hm2 := sq_in hS hD hm (Int.le_of_lt h) h2
          have e1 : dist .square c v + a = a + dist .square c v := Int.add_comm _ _
          have e2 : 4 * dist .square c v * a = 4 * a * dist .square c v := by grind
          rw [e1, e2] at hm2
          have := droot_ge (n := a + dist .square c v - dist .square v x) ha0 hS hm2
          show a + dist .square c v - droot a (dist .square c v) ≤ dist .square v x
          omega
        · rename_i e
          have ht := dist_tri e c v x (h1.trans hl.symm) hl
          show iabs (a - dist k c v) ≤ _
          unfold iabs
          split <;> omega
      · exact hD
/-! ### verdicts -/
theorem label_vals {l : List (Str × Int)} {n : Str} (hn : (l.map (·.1)).Nodup) : (l.filter fun q => decide (q.1 = n)).map (·.2) = (match labelIn l n with | none => [] | some v => [v]) := by
  induction l with
  | nil => rfl
  | cons q r ih =>
    obtain ⟨m, v⟩ := q
    rw [List.map_cons, List.nodup_cons] at hn
    rw [List.filter_cons, labelIn]
    by_cases e : m = n
    · subst e
      rw [if_pos (decide_eq_true rfl), if_pos rfl]
      have : r.filter (fun q => decide (q.1 = m)) = [] := by
        rw [List.filter_eq_nil_iff]
        intro q hq hc
        have : q.1 = m := of_decide_eq_true hc
        exact hn.1 (List.mem_map.mpr ⟨q, hq, this⟩)
      rw [List.map_cons, this]; rfl
    · rw [if_neg (by simpa using e), if_neg e]
      exact ih hn.2
section
variable {st : List (Int × Itm)} {ks : List Int}
/-- each item's labels have names of their own -/
def LabNd (st : List (Int × Itm)) (ks : List Int) : Prop := ∀ i ∈ ks, ((getI st i).labs.map (·.1)).Nodup
theorem vals_cons (h : LabNd st (i :: ks)) (n : Str) : valsOf st (i :: ks) n = (match labelIn (getI st i).labs n with | none => [] | some v => [v]) ++ valsOf st ks n := by
  unfold valsOf
  rw [List.flatMap_cons, label_vals (h i List.mem_cons_self)]
theorem vals_mem (h : LabNd st ks) {n : Str} {x : Int} : x ∈ valsOf st ks n ↔ ∃ i ∈ ks, labelIn (getI st i).labs n = some x := by
  induction ks with
  | nil => exact ⟨fun q => (by cases q), fun ⟨i, hi, _⟩ => (by cases hi)⟩
  | cons i ks ih =>
    have ih := ih fun j hj => h j (List.mem_cons_of_mem _ hj)
    rw [vals_cons h, List.mem_append, ih]
    constructor
    · rintro (q | ⟨j, hj, e⟩)
      · cases e : labelIn (getI st i).labs n with
        | none => rw [e] at q; cases q
        | some v => rw [e] at q; exact ⟨i, List.mem_cons_self, by rw [e, List.mem_singleton.mp q]⟩
      · exact ⟨j, List.mem_cons_of_mem _ hj, e⟩
    · rintro ⟨j, hj, e⟩
      rcases List.mem_cons.mp hj with rfl | hj
      · rw [e]; exact .inl (List.mem_singleton.mpr rfl)
      · exact .inr ⟨j, hj, e⟩
theorem vals_le (h : LabNd st ks) (n : Str) : (valsOf st ks n).length ≤ ks.length ∧ ((valsOf st ks n).length = ks.length → ∀ i ∈ ks, ∃ v, labelIn (getI st i).labs n = some v) := by
  induction ks with
  | nil => exact ⟨Nat.le_refl _, fun _ i hi => (by cases hi)⟩
  | cons i ks ih =>
    have ih := ih fun j hj => h j (List.mem_cons_of_mem _ hj)
    rw [vals_cons h, List.length_append, List.length_cons]
    cases e : labelIn (getI st i).labs n with
    | none =>
      simp only [List.length_nil]
      exact ⟨by omega, fun q => by omega⟩
    | some v =>
      simp only [List.length_singleton]
      refine ⟨by omega, fun q j hj => ?_⟩
      rcases List.mem_cons.mp hj with rfl | hj
      · exact ⟨v, e⟩
      · exact ih.2 (by omega) j hj
/-- two different values of at most two -/
theorem two_vals {l : List Int} {a b x : Int} (h : l.length ≤ 2) (ha : a ∈ l) (hb : b ∈ l) (hab : a ≠ b) (hx : x ∈ l) : x = a ∨ x = b := by
  match l, h with
  | [], _ => cases ha
  | [p], _ => 
    rw [List.mem_singleton] at *
    omega
  | [p, q], _ =>
    simp only [List.mem_cons, List.not_mem_nil, or_false] at *
    omega
  | _ :: _ :: _ :: _, h => simp only [List.length_cons] at h; omega
theorem opp_none {v : Vd} : opp v = .none ↔ v = .all := by cases v <;> decide
theorem opp_all {v : Vd} : opp v = .all ↔ v = .none := by cases v <;> decide
theorem vAll_none {a b : Vd} : vAll [a, b] = .none ↔ a = .none ∨ b = .none := by cases a <;> cases b <;> decide
theorem vAll_all {a b : Vd} : vAll [a, b] = .all ↔ a = .all ∧ b = .all := by cases a <;> cases b <;> decide
theorem verd_sound (hn : LabNd st ks) {t : Smy} (ht : SmyOf st ks t) : ∀ s : Sie, (verd s t = .none → ∀ i ∈ ks, lets s (getI st i).labs = false) ∧ (verd s t = .all → ∀ i ∈ ks, lets s (getI st i).labs = true) := by
  have hm := ht.1
  by_cases h0 : t.many = 0
  · have : ks = [] := by
      cases ks with
      | nil => rfl
      | cons a r => rw [List.length_cons] at hm; omega
    subst this
    exact fun s => ⟨fun _ i hi => (by cases hi), fun _ i hi => (by cases hi)⟩
  intro s
  induction s with
  | all =>
    rw [verd, if_neg h0]
    exact ⟨fun h => (by cases h), fun _ i _ => rfl⟩
  | has n =>
    rw [verd, if_neg h0]
    have hr := ht.2.2 n
    cases e : rowOf t.rows n with
    | none =>
      rw [e] at hr
      refine ⟨fun _ i hi => ?_, fun h => (by cases h)⟩
      show (labelIn (getI st i).labs n).isSome = false
      cases e2 : labelIn (getI st i).labs n with
      | none => rfl
      | some v =>
        have := (vals_mem hn).mpr ⟨i, hi, e2⟩
        rw [hr] at this; cases this
    | some r =>
      rw [e] at hr
      show ((if r.many = t.many then Vd.all else Vd.some) = .none → _) ∧ ((if r.many = t.many then Vd.all else Vd.some) = .all → _)
      refine ⟨fun h => ?_, fun h i hi => ?_⟩
      · split at h <;> cases h
      · split at h
        · rename_i hc
          obtain ⟨v, hv⟩ := (vals_le hn n).2 (by have := hr.1; omega) i hi
          show (labelIn (getI st i).labs n).isSome = true
          rw [hv]; rfl
        · cases h
  | rng n lo hi =>
    rw [verd, if_neg h0]
    have hr := ht.2.2 n
    have hL : ∀ i, lets (.rng n lo hi) (getI st i).labs = match labelIn (getI st i).labs n with | none => false | some v => decide (lo ≤ v ∧ v ≤ hi) := fun i => rfl
    cases e : rowOf t.rows n with
    | none =>
      rw [e] at hr
      refine ⟨fun _ i hi' => ?_, fun h => (by cases h)⟩
      rw [hL]
      cases e2 : labelIn (getI st i).labs n with
      | none => rfl
      | some v =>
        have := (vals_mem hn).mpr ⟨i, hi', e2⟩
        rw [hr] at this; cases this
    | some r =>
      rw [e] at hr
      obtain ⟨r1, r2, r3, r4⟩ := hr
      show (rngV lo hi r t.many = .none → _) ∧ (rngV lo hi r t.many = .all → _)
      unfold rngV
      split
      · rename_i hc
        refine ⟨fun _ i hi' => ?_, fun h => (by cases h)⟩
        rw [hL]
        cases e2 : labelIn (getI st i).labs n with
        | none => rfl
        | some x =>
          have hx := (vals_mem hn).mpr ⟨i, hi', e2⟩
          have hb := r4 x hx
          refine decide_eq_false fun q => ?_
          rcases hc with hc | hc | ⟨h1, h2, h3⟩
          · omega
          · omega
          · by_cases hlg : r.least = r.greatest
            · omega
            · have := two_vals (by omega) r2 r3 hlg hx
              omega
      · split
        · rename_i hc
          refine ⟨fun h => (by cases h), fun _ i hi' => ?_⟩
          rw [hL]
          obtain ⟨x, hx⟩ := (vals_le hn n).2 (by omega) i hi'
          rw [hx]
          have hb := r4 x ((vals_mem hn).mpr ⟨i, hi', hx⟩)
          exact decide_eq_true ⟨by omega, by omega⟩
        · exact ⟨fun h => (by cases h), fun h => (by cases h)⟩
  | nt a iha =>
    rw [verd, if_neg h0]
    show (opp (verd a t) = .none → _) ∧ (opp (verd a t) = .all → _)
    rw [opp_none, opp_all]
    refine ⟨fun h i hi => ?_, fun h i hi => ?_⟩
    · show (!lets a (getI st i).labs) = false
      rw [iha.2 h i hi]; rfl
    · show (!lets a (getI st i).labs) = true
      rw [iha.1 h i hi]; rfl
  | an a b iha ihb =>
    rw [verd, if_neg h0]
    show (vAll [verd a t, verd b t] = .none → _) ∧ (vAll [verd a t, verd b t] = .all → _)
    rw [vAll_none, vAll_all]
    refine ⟨fun h i hi => ?_, fun h i hi => ?_⟩
    · show (lets a (getI st i).labs && lets b (getI st i).labs) = false
      rcases h with h | h
      · rw [iha.1 h i hi]; rfl
      · rw [ihb.1 h i hi, Bool.and_false]
    · show (lets a (getI st i).labs && lets b (getI st i).labs) = true
      rw [iha.2 h.1 i hi, ihb.2 h.2 i hi]; rfl
  | orr a b iha ihb =>
    rw [verd, if_neg h0]
    show (opp (vAll [opp (verd a t), opp (verd b t)]) = .none → _) ∧ (opp (vAll [opp (verd a t), opp (verd b t)]) = .all → _)
    rw [opp_none, opp_all, vAll_none, vAll_all, opp_all, opp_all, opp_none, opp_none]
    refine ⟨fun h i hi => ?_, fun h i hi => ?_⟩
    · show (lets a (getI st i).labs || lets b (getI st i).labs) = false
      rw [iha.1 h.1 i hi, ihb.1 h.2 i hi]; rfl
    · show (lets a (getI st i).labs || lets b (getI st i).labs) = true
      rcases h with h | h
      · rw [iha.2 h i hi]; rfl
      · rw [ihb.2 h i hi, Bool.or_true]
theorem may_sound (hn : LabNd st ks) {t : Smy} (ht : SmyOf st ks t) {s : Sie} (h : mayPass s t = false) : ∀ i ∈ ks, lets s (getI st i).labs = false := (verd_sound hn ht s).1 (by
  unfold mayPass at h
  exact Decidable.byContradiction (of_decide_eq_false h))
end
end N
set_option Elab.async false
set_option linter.all false
set_option maxRecDepth 100000
set_option maxHeartbeats 1000000
namespace N
open PySem
open PySem.Spec
open PyProof.Rows
open L2
/-! L2: a walk that ends finds all within the reach. -/
def inR (reach : Option Int) (q : Int × Int) : Bool := match reach with
  | none => true
  | some r => decide (q.1 ≤ r)
section
variable {st : List (Int × Itm)} {k : Kd} {v : List Int} {s : Sie} {reach : Option Int}
theorem pairs_app (a b : List Int) : pairsOf st k v s (a ++ b) = pairsOf st k v s a ++ pairsOf st k v s b := by
  unfold pairsOf
  rw [List.map_append, List.filter_append, List.map_append]
theorem pairs_perm {a b : List Int} (h : a.Perm b) : (pairsOf st k v s a).Perm (pairsOf st k v s b) := ((h.map _).filter _).map _
theorem LotsFor.app {b : List Int} {ms : List Lot} (h2 : LotsFor st k b ms) : ∀ {ls : List Lot} {a : List Int}, LotsFor st k a ls → LotsFor st k (a ++ b) (ls ++ ms)
  | _, _, .nil => h2
  | _, _, .cons h r => by
    rw [List.append_assoc]
    exact .cons h (LotsFor.app h2 r)
theorem LotFor.facts {ks : List Int} {l : Lot} (h : LotFor st k ks l) : RgOk l.reg ∧ RegFor k (vecsOf st ks) l.reg ∧ SmyOf st ks l.smy := by
  cases h with
  | items h1 h2 h3 _ => exact ⟨h1, h2, h3⟩
  | lots h1 h2 h3 _ => exact ⟨h1, h2, h3⟩
theorem LotFor.opened {ks : List Int} {l : Lot} (h : LotFor st k ks l) : ∃ c, LotsFor st k c l.kids ∧ (l.keys ++ c).Perm ks := by
  cases h with
  | items _ _ _ hp => exact ⟨[], .nil, by rw [List.append_nil]; exact hp⟩
  | lots _ _ _ hs => exact ⟨ks, hs, List.Perm.refl _⟩
/-- what the law's state gives of the keys -/
def KeysOk (st : List (Int × Itm)) (m : Nat) (ks : List Int) : Prop := ∀ i ∈ ks, ((getI st i).labs.map (·.1)).Nodup ∧ (getI st i).vec.length = m
theorem closed_none {ks : List Int} {l : Lot} {w : Str} (h : LotFor st k ks l) (hk : KeysOk st v.length ks) (hw : w ≠ "open") (hs : isStep w k v s reach l = true) : (pairsOf st k v s ks).filter (inR reach) = [] := by
  obtain ⟨h1, h2, h3⟩ := h.facts
  have nil_of : (∀ i ∈ ks, lets s (getI st i).labs = false) → (pairsOf st k v s ks).filter (inR reach) = [] := fun hn => by
    have : (ks.map (getI st)).filter (fun i => lets s i.labs) = [] := by
      rw [List.filter_eq_nil_iff]
      intro x hx
      obtain ⟨i, hi, rfl⟩ := List.mem_map.mp hx
      rw [hn i hi]; decide
    unfold pairsOf
    rw [this]; rfl
  unfold isStep at hs
  split at hs
  · have h0 := of_decide_eq_true hs
    have : ks = [] := by
      have := h3.1
      cases ks with
      | nil => rfl
      | cons a r => rw [List.length_cons] at this; omega
    subst this
    rfl
  · split at hs
    · exact nil_of (may_sound (fun i hi => (hk i hi).1) h3 (by simpa using hs))
    · split at hs
      · cases reach with
        | none => cases hs
        | some r =>
          have hf : floorOf k l.reg v > r := by
            have hs : (decide (l.smy.many > 0) && decide (floorOf k l.reg v > r)) = true := hs
            rw [Bool.and_eq_true] at hs
            exact of_decide_eq_true hs.2
          rw [List.filter_eq_nil_iff]
          intro q hq
          unfold pairsOf at hq
          obtain ⟨x, hx, rfl⟩ := List.mem_map.mp hq
          obtain ⟨i, hi, rfl⟩ := List.mem_map.mp (List.mem_filter.mp hx).1
          have := floor_sound (v := v) h2 h1 (List.mem_map_of_mem hi) (hk i hi).2.symm
          intro hc
          have hc : dist k v (getI st i).vec ≤ r := of_decide_eq_true hc
          omega
      · exact (hw (of_decide_eq_true hs)).elim
theorem found_cons (l : Lot) (op : List Lot) : foundOf st k v s (l :: op) = pairsOf st k v s l.keys ++ foundOf st k v s op := by
  unfold foundOf; rw [List.flatMap_cons]
theorem walk_all : ∀ (ws : List Dt) (i : Nat) (stk : List Lot) (ks : List Int) (op op' : List Lot), LotsFor st k ks stk → KeysOk st v.length ks → walk (fun d l => isStepD d k v s reach l) i ws stk op = (op', none) →
    ∃ op2, op' = op ++ op2 ∧ ((foundOf st k v s op2).filter (inR reach)).Perm ((pairsOf st k v s ks).filter (inR reach))
  | [], i, stk, ks, op, op', hL, hk, h => by
    cases hL with
    | nil =>
      have h : (op, (none : Option Int)) = (op', none) := h
      cases h
      exact ⟨[], (List.append_nil _).symm, List.Perm.refl _⟩
    | cons _ _ => 
      injection h with h1 h2
      cases h2
  | w :: ws, i, stk, ks, op, op', hL, hk, h => by
    cases hL with
    | nil =>
      injection h with h1 h2
      cases h2
    | @cons a b l r hl hr =>
      rw [walk_cons] at h
      have ka : KeysOk st v.length a := fun i hi => hk i (List.mem_append_left _ hi)
      have kb : KeysOk st v.length b := fun i hi => hk i (List.mem_append_right _ hi)
      cases hj : isStepD w k v s reach l with
      | false =>
        rw [hj, if_neg (by decide)] at h
        injection h with h1 h2
        cases h2
      | true =>
        rw [hj, if_pos rfl] at h
        cases ho : isOpen w with
        | true =>
          rw [ho, if_pos rfl] at h
          obtain ⟨c, hc, hp⟩ := hl.opened
          have kc : KeysOk st v.length (c ++ b) := fun i hi => (List.mem_append.mp hi).elim (fun q => ka i (hp.mem_iff.mp (List.mem_append_right _ q))) (kb i)
          obtain ⟨op2, rfl, hq⟩ := walk_all ws (i + 1) (l.kids ++ r) (c ++ b) (op ++ [l]) op' (hr.app hc) kc h
          refine ⟨l :: op2, by rw [List.append_assoc]; rfl, ?_⟩
          rw [found_cons, List.filter_append]
          refine (List.Perm.append_left _ hq).trans ?_
          rw [← List.filter_append, ← pairs_app, ← List.append_assoc]
          exact (pairs_perm (List.Perm.append_right _ hp)).filter _
        | false =>
          rw [ho, if_neg (by decide)] at h
          obtain ⟨op2, rfl, hq⟩ := walk_all ws (i + 1) r b op op' hr kb h
          refine ⟨op2, rfl, ?_⟩
          have hcl : (pairsOf st k v s a).filter (inR reach) = [] := by
            cases w with
            | str x =>
              refine closed_none hl ka (fun e => ?_) hj
              have : decide (x = "open") = false := ho
              exact (of_decide_eq_false this) e
            | _ => cases hj
          rw [pairs_app, List.filter_append, hcl, List.nil_append]
          exact hq
/-- the answer, by any steps that end -/
theorem due_walk {ks : List Int} {lot : Lot} {ws : List Dt} {op : List Lot} (hL : LotFor st k ks lot) (hk : KeysOk st v.length ks) (h : walk (fun d l => isStepD d k v s reach l) 0 ws [lot] [] = (op, none)) : (sortP (foundOf st k v s op)).filter (inR reach) = (sortP (pairsOf st k v s ks)).filter (inR reach) := by
  have hL1 : LotsFor st k ks [lot] := by
    have := LotsFor.cons hL .nil
    rwa [List.append_nil] at this
  obtain ⟨op2, rfl, hp⟩ := walk_all ws 0 [lot] ks [] op hL1 hk h
  refine srt_unique ?_ ((sortP_sorted _).filter _) ((sortP_sorted _).filter _)
  exact ((sortP_perm _).filter _).trans (hp.trans ((sortP_perm _).filter _).symm)
/-! ### reaches -/
/-- r is within the reach -/
def leR (r : Int) : Option Int → Prop
  | none => True
  | some q => r ≤ q
theorem step_mono {w : Str} {l : Lot} {r : Int} (h : leR r reach) (hs : isStep w k v s reach l = true) : isStep w k v s (some r) l = true := by
  unfold isStep at hs ⊢
  split at hs
  · rename_i e; rw [if_pos e]; exact hs
  · rename_i e
    rw [if_neg e]
    split at hs
    · rename_i e; rw [if_pos e]; exact hs
    · rename_i e
      rw [if_neg e]
      split at hs
      · rename_i e
        rw [if_pos e]
        cases reach with
        | none => cases hs
        | some q =>
          have hq : r ≤ q := h
          have hs : (decide (l.smy.many > 0) && decide (floorOf k l.reg v > q)) = true := hs
          show (decide (l.smy.many > 0) && decide (floorOf k l.reg v > r)) = true
          rw [Bool.and_eq_true] at hs ⊢
          have := of_decide_eq_true hs.2
          exact ⟨hs.1, decide_eq_true (by omega)⟩
      · rename_i e; rw [if_neg e]; exact hs
theorem walk_mono {J J' : Dt → Lot → Bool} (hJ : ∀ d l, J d l = true → J' d l = true) : ∀ (ws : List Dt) (i : Nat) (stk op op' : List Lot), walk J i ws stk op = (op', none) → walk J' i ws stk op = (op', none)
  | [], i, stk, op, op', h => h
  | w :: ws, i, [], op, op', h => h
  | w :: ws, i, l :: r, op, op', h => by
    rw [walk_cons] at h ⊢
    cases hj : J w l with
    | false =>
      rw [hj, if_neg (by decide)] at h
      injection h with h1 h2
      cases h2
    | true =>
      rw [hj, if_pos rfl] at h
      rw [hJ w l hj, if_pos rfl]
      split at h
      · rename_i e; rw [if_pos e]; exact walk_mono hJ ws _ _ _ _ h
      · rename_i e; rw [if_neg e]; exact walk_mono hJ ws _ _ _ _ h
theorem walk_less {lot : Lot} {ws : List Dt} {op : List Lot} {r : Int} (h : leR r reach) (hw : walk (fun d l => isStepD d k v s reach l) 0 ws [lot] [] = (op, none)) : walk (fun d l => isStepD d k v s (some r) l) 0 ws [lot] [] = (op, none) :=
  walk_mono (fun d l hj => by
    cases d with
    | str x => exact step_mono h hj
    | _ => cases hj) ws 0 _ _ _ hw
end
/-! ### sorted pairs -/
theorem leP_fst {a b : Int × Int} (h : leP a b) : a.1 ≤ b.1 := by
  have n : ¬ SrtO.lexB b a = true := by intro z; unfold leP at h; rw [z] at h; cases h
  rw [SrtO.lexB_iff] at n
  omega
theorem srt_split (reach : Option Int) : ∀ {l : List (Int × Int)}, l.Pairwise leP → l = l.filter (inR reach) ++ l.filter fun q => !inR reach q
  | [], _ => rfl
  | a :: l, h => by
    have h' := List.pairwise_cons.mp h
    have ih := srt_split reach h'.2
    rw [List.filter_cons, List.filter_cons]
    cases e : inR reach a with
    | true =>
      rw [if_pos rfl, if_neg (by decide), List.cons_append, ← ih]
    | false =>
      rw [if_neg (by decide), if_pos (by decide)]
      have hn : l.filter (inR reach) = [] := by
        rw [List.filter_eq_nil_iff]
        intro q hq hc
        have hle := leP_fst (h'.1 q hq)
        cases reach with
        | none => cases e
        | some r =>
          have e : decide (a.1 ≤ r) = false := e
          have e := of_decide_eq_false e
          have hc : q.1 ≤ r := of_decide_eq_true hc
          omega
      rw [hn, List.nil_append] at ih ⊢
      rw [← ih]
end N
set_option Elab.async false
set_option linter.all false
set_option maxRecDepth 100000
set_option maxHeartbeats 1000000
namespace N
open PySem
open PySem.Spec
open PyProof.Rows
open L2
/-! EA: list.index of a text. -/
section
variable {X : Cx} {B : Bd} {E : Ev} {Φ : Dt → Prop} {e o : Expr} {pos p1 p2 p3 : Pos}
/-- xs.index(w), xs a list of texts -/
theorem dw_indexS (h : DW X B E o fun d => ∃ ws : List Str, d = .lst (ws.map .str) ∧ DW X B E e fun z => ∃ (w : Str) (j : Nat), z = .str w ∧ ws[j]? = some w ∧ (∀ (m : Nat), m < j → ws[m]? ≠ some w) ∧ Φ (.int (j : Nat)))
    (hb : attributeBase o "index" X.env (eval o X.env) = eval o X.env := by rfl)
    (hfew : ((backTo p3 (starEach [e] X.env)).all (fun x => !x.1) && (backToKw p3 (keywordEach [] X.env)).all (fun x => x.1.isSome) && decide ([e].length + ([] : List Keyword).length + (if ([] : List Keyword).isEmpty then 0 else 1) < 30)) = true := by rfl)
    (hl : (p2.endLine == p3.line) = true := by rfl) (hst : starEach [e] X.env = (false, eval e X.env) :: starEach [] X.env := by rfl) (hp : (backTo p3 (starEach [] X.env)).any (·.1) = false := by rfl) :
    DW X B E (.Call (.Attribute o "index" p2) [e] [] p3) Φ := fun σ G H Q S q => by
  refine fE (pe_bm PySem.F.plainAttrs_list PySem.F.slot_list_index PySem.F.type_list_index mt_index qE (pa_cons qE pa_nil hst) hb hfew hl hst hp) ?_
  refine h σ G H _ S ?_
  rintro v d G1 H1 S1 g1 r1 ⟨ws, rfl, f1⟩
  cases r1 with
  | @lst a xs _ hA z r =>
    refine ⟨.inl ⟨rfl, _, SqL.of (S1.cln.sub _ _ hA)⟩, ?_⟩
    refine f1 σ G1 H1 _ S1 ?_
    rintro v2 d2 G2 H2 S2 g2 r2 ⟨w, j, rfl, hj, hno, f2⟩
    have e := rpa_strs r
    subst e
    cases r2
    have eq : ∀ a b : Str, eqV (.str a) (.str b) = decide (a = b) := fun a b => by show (a == b) = _; by_cases h : a = b <;> simp [h]
    refine ⟨_, _, _, j, .str w, rfl, rfl, SqL.of (S2.cln.sub _ _ (g2.gg _ _ hA)), rfl, flat_strs ws, by rw [List.getElem?_map, hj]; rfl, by rw [eq]; exact decide_eq_true rfl, fun m z' hm hz => ?_, ?_⟩
    · rw [List.getElem?_map] at hz
      cases hw : ws[m]? with
      | none => rw [hw] at hz; cases hz
      | some u =>
        rw [hw] at hz
        cases hz
        rw [eq]
        exact decide_eq_false fun e => hno m hm (by rw [hw, e])
    · exact q _ _ G2 H2 S2 (g1.tr g2) (.int _) f2
theorem dl_E {E' : Ev} {sts : List Stmt} {Ψ : Ed} (he : E = E') (h : DL X B E' sts Ψ) : DL X B E sts Ψ := he ▸ h
end
end N
set_option Elab.async false
set_option linter.all false
set_option maxRecDepth 100000
set_option maxHeartbeats 1000000
namespace N
open PySem
open PySem.Spec
open PyProof.Rows
open L2
/-! R19: _law_world. -/
abbrev NamesL : List (List Str) := [["a", "bb"], ["q"], ["x", "xy", "y"]]
structure WorldOk (st : List (Int × Itm)) (k : Kd) (form : Str) (lot : Lot) (v : List Int) (asked : Int) (sv : Sie) (ks : List Int) (m : Nat) (ns : List Str) : Prop where
  sl : st.length ≤ 9
  ss : StS st m 9 ns
  nn : ns ∈ NamesL
  hp : ks.Perm (st.map (·.1))
  lt : LotFor st k ks lot
  ct : lot.cnt ≤ 36
  vl : v.length = m
  vb : ∀ i ∈ v, -11 ≤ i ∧ i ≤ 11
  m1 : 1 ≤ m
  m3 : m ≤ 3
  ak : 1 ≤ asked
  dp : sv.depth ≤ 2
theorem StS.wide {st : List (Int × Itm)} {m : Nat} {w w' : Int} {ns : List Str} (h : StS st m w ns) (hw : w ≤ w') : StS st m w' ns := ⟨h.nd, fun q hq => by
  obtain ⟨h1, h2, h3, h4, h5⟩ := h.it q hq
  exact ⟨h1, h2, h3, fun i hi => by have := h4 i hi; omega, h5⟩, h.up⟩
theorem StS.ok {st : List (Int × Itm)} {m : Nat} {ns : List Str} (h : StS st m 9 ns) (hl : st.length ≤ 9) (hm : m ≤ 3) (hn : ns.Nodup) : StOk st ∧ StL st m ∧ (∀ q ∈ st, Sv2 m q.2.vec) ∧ ∀ q ∈ st, (q.2.labs.map (·.1)).Sublist ns :=
  ⟨⟨by omega, fun q hq => ⟨by rw [(h.it q hq).2.2.1]; omega, fun x hx => by have := (h.it q hq).2.2.2.1 x hx; omega⟩⟩, fun q hq => ⟨(h.it q hq).2.1, hn.sublist (h.it q hq).2.2.2.2, (h.it q hq).2.2.1⟩, fun q hq => ⟨(h.it q hq).2.2.1, fun x hx => by have := (h.it q hq).2.2.2.1 x hx; omega⟩, fun q hq => (h.it q hq).2.2.2.2⟩
theorem look_keys : ∀ {st : List (Int × Itm)} {i : Int}, i ∈ st.map (·.1) → ∃ d, look st i = some d
  | q :: st, i, h => by
    rw [look]
    split
    · exact ⟨_, rfl⟩
    · rename_i e
      rcases List.mem_cons.mp h with h | h
      · exact (e h.symm).elim
      · exact look_keys h
  | [], i, h => by cases h
theorem names_ok {ns : List Str} (h : ns ∈ NamesL) : ns.Nodup ∧ ns ≠ [] ∧ ns.length < 10 := by
  simp only [List.mem_cons, List.not_mem_nil, or_false] at h
  rcases h with rfl | rfl | rfl <;> exact ⟨by decide, by decide, by decide⟩
section
variable {P : Program} {w : World} {K : PySem.W.Frag} {mg : Str → Option Value} {base : Heap} {T : List (Addr × Str)} {g C : Addr} {fd : FuncData}
def f_world (p : Addr) : FT := fun ds Φ => ∃ n : Nat, ds = [.raw (.ref p), .int n] ∧ n ≤ 9 ∧ ∀ (st : List (Int × Itm)) (k : Kd) (form : Str) (lot : Lot) (v : List Int) (asked : Int) (sv : Sie) (ks : List Int) (m : Nat) (ns : List Str), WorldOk st k form lot v asked sv ks m ns → Φ (.tup [stD st, ixD k form lot 400, qD k v asked sv])
theorem ok_law_world (bi : BI mg) (p q : Addr) (CD : CDraw P w K mg base T p q) (CP : CPick P w K mg base T p q) (CV : CVec P w K mg base T p q) (CS : Cal P w K mg base 3 "_law_state" p__law_state (spD K (HpM p q) (HpI p q) T (f_state p))) (CN : Cal P w K mg base 2 "_law_near" p__law_near (spP K T f_law_near)) (CL : Cal P w K mg base 7 "_law_lot" p__law_lot (spD K (HpM p q) (HpI p q) T (f_lot p 3))) (CI : Cal P w K mg base 5 "_law_sieve" p__law_sieve (spD K (HpM p q) (HpI p q) T (f_sieve p 2))) (mi : MkC P w K mg base 1 "Index" 4 fsIx) (F : FnT K "_law_world" s__law_world g fd) : FnOk P w K mg base CX0 8 g fd p__law_world (spD K (HpM p q) (HpI p q) T (f_world p)) := by
  refine fn_okD (k := 7) (hpBd p q) F sc__law_world (fun ds Φ h => ?_) (by decide) (fun cdv A outer s H XE B ds Φ hM hHI hT hr hf => ?_)
  · obtain ⟨_, rfl, _⟩ := h; rfl
  obtain ⟨n, rfl, hn9, hf⟩ := hf
  subst hT
  have hu := hr.units0
  refine dl_cons (ds_par3 (hN := sc__law_world.nd) (ixS n__law_world "_law_places") (ixS n__law_world "_law_wide") (ixS n__law_world "_law_names") (da_cons (dw_addI (dw_int (dw_cal CD (cmS hM hHI) ‹Room _ _› (by omega) (da_cons (dw_v rfl (da_cons (dw_int (da_nil ⟨3, rfl, by decide, by decide, fun pl hp0 hp1 => da_cons (dw_cal CP (cmS hM hHI) ‹Room _ _› (by omega) (da_cons (dw_v rfl (da_cons (dw_n (dn_lst (da_cons (dw_int (da_cons (dw_int (da_cons (dw_int (da_nil ⟨szl, da_nil ⟨_, rfl, by simp, (show 3 < 1073741824 by decide), fun dw hdw => da_cons (dw_cal CP (cmS hM hHI) ‹Room _ _› (by omega) (da_cons (dw_v rfl (da_cons (dw_n (dn_lst (da_cons (dw_n (dn_lst (da_cons (dw_str (da_cons (dw_str (da_nil ⟨szl, da_cons (dw_n (dn_lst (da_cons (dw_str (da_nil ⟨szl, da_cons (dw_n (dn_lst (da_cons (dw_str (da_cons (dw_str (da_cons (dw_str (da_nil ⟨szl, da_nil ⟨szl, da_nil ⟨_, rfl, by simp, (show 3 < 1073741824 by decide), fun dn hdn => da_nil ⟨_, _, _, rfl, ?st1⟩⟩⟩⟩)))))))))⟩)))))⟩))))))))))))))⟩⟩)))))))))))))⟩))))))))))
  case st1 =>
    obtain ⟨wd, rfl, hw2, hw9⟩ : ∃ wd : Int, dw = .int wd ∧ 2 ≤ wd ∧ wd ≤ 9 := by
      simp only [List.mem_cons, List.not_mem_nil, or_false] at hdw
      rcases hdw with rfl | rfl | rfl <;> exact ⟨_, rfl, by decide, by decide⟩
    obtain ⟨ns, rfl, hns⟩ : ∃ ns : List Str, dn = .lst (ns.map .str) ∧ ns ∈ NamesL := by
      simp only [List.mem_cons, List.not_mem_nil, or_false] at hdn
      rcases hdn with rfl | rfl | rfl
      · exact ⟨["a", "bb"], rfl, by simp⟩
      · exact ⟨["q"], rfl, by simp⟩
      · exact ⟨["x", "xy", "y"], rfl, by simp⟩
    obtain ⟨m, hm⟩ : ∃ m : Nat, 1 + pl = (m : Int) := ⟨(1 + pl).toNat, by omega⟩
    obtain ⟨nd, nne, nlt⟩ := names_ok hns
    refine dl_E (E' := [.dt (.raw (.ref p)), .dt (.int n), .dt (.int (1 + pl)), .dt (.int wd), .dt (.lst (ns.map .str)), .un, .un, .un, .un, .un, .un, .un, .un]) rfl ?_
    refine dl_cons (ds_par (hN := sc__law_world.nd) (ixS n__law_world "_law_state_here") (ixS n__law_world "_law_kind") (da_cons (dw_cal CS (cmS hM hHI) ‹Room _ _› (by omega) (da_cons (dw_v rfl (da_cons (dw_v rfl (da_cons (dw_v rfl (da_cons (dw_v rfl (da_cons (dw_v rfl (da_nil ⟨m, n, wd, ns, congrArg (fun z => [Dt.raw (.ref p), Dt.int z, Dt.int n, Dt.int wd, Dt.lst (ns.map .str)]) hm, by omega, by omega, by omega, by omega, fun st hsl hss => da_cons (dw_cal CP (cmS hM hHI) ‹Room _ _› (by omega) (da_cons (dw_v rfl (da_cons (dw_n (dn_lst (da_cons (dw_str (da_cons (dw_str (da_cons (dw_str (da_cons (dw_str (da_nil ⟨szl, da_nil ⟨_, rfl, by simp, (show 4 < 1073741824 by decide), fun dk hdk => da_nil ⟨_, _, rfl, ?st2⟩⟩⟩)))))))))))))))⟩))))))))))))))
    have hss9 := hss.wide hw9
    obtain ⟨hst, hL, hsv, hsub⟩ := hss9.ok (by omega) (by omega) nd
    obtain ⟨k, rfl⟩ : ∃ k : Kd, dk = .str (kS k) := by
      simp only [List.mem_cons, List.not_mem_nil, or_false] at hdk
      rcases hdk with rfl | rfl | rfl | rfl
      · exact ⟨.square, rfl⟩
      · exact ⟨.sum, rfl⟩
      · exact ⟨.most, rfl⟩
      · exact ⟨.unlike, rfl⟩
    refine dl_E (E' := [.dt (.raw (.ref p)), .dt (.int n), .dt (.int (1 + pl)), .dt (.int wd), .dt (.lst (ns.map .str)), .dt (stD st), .dt (.str (kS k)), .un, .un, .un, .un, .un, .un]) rfl ?_
    refine dl_cons (ds_par3 (hN := sc__law_world.nd) (ixS n__law_world "_law_form") (ixS n__law_world "_law_vector_here") (ixS n__law_world "_law_keys") (da_cons (dw_cal CP (cmS hM hHI) ‹Room _ _› (by omega) (da_cons (dw_v rfl (da_cons (dw_n (dn_lst (da_cons (dw_str (da_cons (dw_str (da_cons (dw_str (da_nil ⟨szl, da_nil ⟨_, rfl, by simp, (show 3 < 1073741824 by decide), fun df hdf => da_cons (dw_cal CV (cmS hM hHI) ‹Room _ _› (by omega) (da_cons (dw_v rfl (da_cons (dw_v rfl (da_cons (dw_addI (dw_v rfl (dw_int (da_nil ⟨_, wd + 2, rfl, by omega, by omega, by omega, by omega, fun v hv hvb => da_cons (dw_n (dn_sortI bi.sorted (da_cons (dw_n (dn_listD bi.list (da_cons (dw_v rfl (da_nil ⟨_, rfl, ?ll, da_nil ⟨st.map (·.1), ?lq, fun ks0 hp0 _ => da_nil ⟨_, _, _, rfl, ?st3⟩⟩⟩))))))))⟩))))))))))⟩⟩)))))))))))))))
    case ll => rw [List.length_map]; omega
    case lq => rw [List.map_map, List.map_map]; rfl
    have hk0 : ∀ i ∈ ks0, ∃ d, look st i = some d := fun i hi => look_keys (hp0.mem_iff.mp hi)
    refine dl_E (E' := [.dt (.raw (.ref p)), .dt (.int n), .dt (.int (1 + pl)), .dt (.int wd), .dt (.lst (ns.map .str)), .dt (stD st), .dt (.str (kS k)), .dt (df), .dt (vecD v), .dt (.lst (ks0.map .int)), .un, .un, .un]) rfl ?_
    refine dl_cons (ds_s sc__law_world.nd (dw_calP CN ‹Room _ _› (by omega) (da_cons (dw_v rfl (da_cons (dw_v rfl (da_cons (dw_v rfl (da_cons (dw_cal CV (cmS hM hHI) ‹Room _ _› (by omega) (da_cons (dw_v rfl (da_cons (dw_v rfl (da_cons (dw_v rfl (da_nil ⟨_, wd, rfl, by omega, by omega, by omega, by omega, fun v2 hv2 hvb2 => da_nil ⟨st, k, ks0, v2, m, rfl, hst, hL, hk0, ?sv2, by omega, ?ne2, fun ks hp1 => ?st4⟩⟩)))))))))))))))))
    case sv2 => exact ⟨by omega, fun x hx => by have := hvb2 x hx; omega⟩
    case ne2 => intro z; rw [z] at hv2; simp at hv2; omega
    have hkp : ks.Perm (st.map (·.1)) := hp1.trans hp0
    have hkl : ks.length ≤ 9 := by have := hkp.length_eq; rw [List.length_map] at this; omega
    have hkk : ∀ i ∈ ks, ∃ d, look st i = some d := fun i hi => look_keys (hkp.mem_iff.mp hi)
    refine dl_E (E' := [.dt (.raw (.ref p)), .dt (.int n), .dt (.int (1 + pl)), .dt (.int wd), .dt (.lst (ns.map .str)), .dt (stD st), .dt (.str (kS k)), .dt (df), .dt (vecD v), .dt (.lst (ks.map .int)), .un, .un, .un]) rfl ?_
    refine dl_cons (ds_s sc__law_world.nd ?_)
    refine DW.im (Φ' := fun d => ∃ (form : Str) (r : Reg), df = .str form ∧ d = regD r ∧ RgOk r ∧ RegFor k [] r) ?nth fun d hd => ?st5
    case nth =>
      simp only [List.mem_cons, List.not_mem_nil, or_false] at hdf
      obtain ⟨form, j, rfl, hj, hno, r, hr1, hr2, hr3⟩ : ∃ (form : Str) (j : Nat), df = .str form ∧ (["boxes", "balls", "cells"] : List Str)[j]? = some form ∧ (∀ m : Nat, m < j → (["boxes", "balls", "cells"] : List Str)[m]? ≠ some form) ∧ ∃ r : Reg, atI [Dt.tup [.str "box", .tup [], .tup []], .tup [.str "ball", .tup [], .int 0], .tup [.str "cell", .tup [], .int 0, .int 0]] (j : Int) = some (regD r) ∧ RgOk r ∧ RegFor k [] r := by
        have hz : Sv' [] := ⟨Nat.zero_le _, fun x h => (by cases h)⟩
        have h0 : Rad 0 := ⟨by decide, by decide⟩
        rcases hdf with rfl | rfl | rfl
        · exact ⟨_, 0, rfl, rfl, fun m h => (by omega), .box [] [], rfl, ⟨hz, hz⟩, fun v h => (by cases h)⟩
        · exact ⟨_, 1, rfl, rfl, fun m h => (by have e : m = 0 := (by omega); subst e; decide), .ball [] 0, rfl, ⟨hz, h0⟩, fun v h => (by cases h)⟩
        · exact ⟨_, 2, rfl, rfl, fun m h => (by rcases (show m = 0 ∨ m = 1 from (by omega)) with e | e <;> (subst e; decide)), .cell [] 0 0, rfl, ⟨hz, h0, h0⟩, fun v h => (by cases h)⟩
      exact dw_at (dw_n (dn_lst (da_cons (dw_tup (da_cons (dw_str (da_cons (dw_tup (da_nil ⟨szl, da_cons (dw_tup (da_nil ⟨szl, da_nil ⟨szl, da_cons (dw_tup (da_cons (dw_str (da_cons (dw_tup (da_nil ⟨szl, da_cons (dw_int (da_nil ⟨szl, da_cons (dw_tup (da_cons (dw_str (da_cons (dw_tup (da_nil ⟨szl, da_cons (dw_int (da_cons (dw_int (da_nil ⟨szl, da_nil ⟨szl, dw_indexS (dw_n (dn_lst (da_cons (dw_str (da_cons (dw_str (da_cons (dw_str (da_nil ⟨szl, ["boxes", "balls", "cells"], rfl, dw_v rfl ⟨form, j, rfl, hj, hno, _, hr1, form, r, rfl, rfl, hr2, hr3⟩⟩)))))))))⟩⟩))))⟩))))))⟩))⟩))))))⟩⟩))⟩)))))))))
    case st5 =>
      obtain ⟨form, r, rfl, rfl, hr1, hr2⟩ := hd
      refine dl_E (E' := [.dt (.raw (.ref p)), .dt (.int n), .dt (.int (1 + pl)), .dt (.int wd), .dt (.lst (ns.map .str)), .dt (stD st), .dt (.str (kS k)), .dt (.str form), .dt (vecD v), .dt (.lst (ks.map .int)), .dt (regD r), .un, .un]) rfl ?_
      refine dl_cons (ds_s sc__law_world.nd ?_)
      refine DW.im (Φ' := fun d => ∃ lot : Lot, d = lotD lot ∧ LotFor st k ks lot ∧ lot.cnt ≤ 36) ?lt fun d hd => ?st6
      case lt =>
        refine dw_if (dt_nil hu (dw_v rfl (dw_n (dn_lst (da_nil ⟨szl, _, rfl, ?nil0⟩)))))
        show ifB (ks.map Dt.int).isEmpty _ _
        cases ks with
        | nil =>
          refine ifB_t (dw_tup (da_cons (dw_v rfl (da_cons (dw_tup (da_cons (dw_int (da_cons (dw_tup (da_nil ⟨szl, da_nil ⟨szl, da_cons (dw_tup (da_cons (dw_str (da_cons (dw_tup (da_nil ⟨szl, da_nil ⟨szl, da_nil ⟨szl, .items r ⟨0, []⟩ [], rfl, .items hr1 hr2 ⟨rfl, ⟨Nat.zero_le _, fun r h => (by cases h)⟩, fun n => rfl⟩ (List.Perm.refl _), ?ct0⟩⟩⟩))))))⟩⟩))))))))))
          show 1 ≤ 36
          omega
        | cons i0 kr =>
          refine ifB_f (dw_cal CL (cmS hM hHI) ‹Room _ _› (by omega) (da_cons (dw_v rfl (da_cons (dw_v rfl (da_cons (dw_v rfl (da_cons (dw_v rfl (da_cons (dw_v rfl (da_cons (dw_if (dt_lt (dw_v rfl (dw_int ⟨_, rfl, ifB_d (fun _ => dw_int (da_nil ⟨k, form, st, i0 :: kr, 3, m, ns, rfl, Nat.le_refl _, List.cons_ne_nil _ _, by omega, hkk, by omega, by omega, hsv, hsub, nlt, fun lot hlt hct => ⟨lot, rfl, hlt, ?ct1⟩⟩) ) (fun h => ?no6)⟩))))))))))))))))
          case ct1 => exact Nat.le_trans hct (Nat.mul_le_mul_right 4 hkl)
          case no6 => omega
      case st6 =>
        obtain ⟨lot, rfl, hlf, hlc⟩ := hd
        refine dl_E (E' := [.dt (.raw (.ref p)), .dt (.int n), .dt (.int (1 + pl)), .dt (.int wd), .dt (.lst (ns.map .str)), .dt (stD st), .dt (.str (kS k)), .dt (.str form), .dt (vecD v), .dt (.lst (ks.map .int)), .dt (regD r), .dt (lotD lot), .un]) rfl ?_
        refine dl_cons (ds_s sc__law_world.nd (dw_cal CP (cmS hM hHI) ‹Room _ _› (by omega) (da_cons (dw_v rfl (da_cons (dw_n (dn_lst (da_cons (dw_int (da_cons (dw_int (da_cons (dw_int (da_cons (dw_addI (dw_int (dw_cal CD (cmS hM hHI) ‹Room _ _› (by omega) (da_cons (dw_v rfl (da_cons (dw_addI (dw_v rfl (dw_int (da_nil ⟨_, rfl, by omega, by omega, fun ra hra0 hra1 => da_nil ⟨szl, da_nil ⟨_, rfl, by simp, (show 4 < 1073741824 by decide), fun da hda => ?st7⟩⟩⟩))))))))))))))))))))))))
        obtain ⟨asked, rfl, hak⟩ : ∃ a : Int, da = .int a ∧ 1 ≤ a := by
          simp only [List.mem_cons, List.not_mem_nil, or_false] at hda
          rcases hda with rfl | rfl | rfl | rfl <;> exact ⟨_, rfl, by omega⟩
        refine dl_E (E' := [.dt (.raw (.ref p)), .dt (.int n), .dt (.int (1 + pl)), .dt (.int wd), .dt (.lst (ns.map .str)), .dt (stD st), .dt (.str (kS k)), .dt (.str form), .dt (vecD v), .dt (.lst (ks.map .int)), .dt (regD r), .dt (lotD lot), .dt (.int asked)]) rfl ?_
        refine dl_cons (ds_ret (dw_tup (da_cons (dw_v rfl (da_cons (dw_mk mi fs_ix ‹Room _ _› (by omega) (da_cons (dw_v rfl (da_cons (dw_v rfl (da_cons (dw_v rfl (da_cons (dw_int (da_nil ⟨rfl, ?ret⟩)))))))))))))))
        refine da_cons (dw_tup (da_cons (dw_v rfl (da_cons (dw_v rfl (da_cons (dw_v rfl ?ret2)))))))
        refine da_cons (dw_cal CI (cmS hM hHI) ‹Room _ _› (by omega) ?ret3)
        refine da_cons (dw_v rfl (da_cons (dw_v rfl (da_cons (dw_int (da_nil ⟨ns, 2, rfl, by omega, nne, by omega, fun sv hsd => da_nil ⟨szl, da_nil ⟨szl, ?fin⟩⟩⟩))))))
        exact hf st k form lot v asked sv ks m ns ⟨by omega, hss9, hns, hkp, hlf, hlc, by omega, fun i hi => by have := hvb i hi; omega, by omega, by omega, hak, hsd⟩
end
end N
set_option Elab.async false
set_option linter.all false
set_option maxRecDepth 100000
set_option maxHeartbeats 1000000
namespace N
open PySem
open PySem.Spec
open PyProof.Rows
open L2
/-! R20: _law_spoilt. -/
abbrev StG (d : Dt) : Prop := (tyN d).isSome = true ∧ okP d
def StGs (l : List Dt) : Prop := ∀ d ∈ l, StG d
theorem StGs.app {a b : List Dt} (h : StGs a) (k : StGs b) : StGs (a ++ b) := fun d hd => (List.mem_append.mp hd).elim (h d) (k d)
theorem StGs.one {d : Dt} (h : StG d) : StGs [d] := fun e he => by rw [List.mem_singleton.mp he]; exact h
theorem StGs.rev {a : List Dt} (h : StGs a) : StGs a.reverse := fun d hd => h d (List.mem_reverse.mp hd)
theorem StGs.cut {a : List Dt} (h : StGs a) (i j : Option Int) : StGs (cutD a i j) := fun d hd => h d (List.mem_of_mem_drop (List.mem_of_mem_take hd))
theorem sl_le {n m : Nat} (h : n ≤ m) (hm : Nat.ble m 1000 = true := by rfl) : n ≤ sizeLine := Nat.le_trans h (Nat.le_trans (Nat.le_of_ble_eq_true hm) szl)
theorem odd_ok : ∀ d ∈ ([.non, .int 0, .bl true, .str "", .str "opened", .tup [.str "far"], .lst [.str "open"], .str "OPEN"] : List Dt), StG d := by
  intro d hd
  simp only [List.mem_cons, List.not_mem_nil, or_false] at hd
  rcases hd with rfl | rfl | rfl | rfl | rfl | rfl | rfl | rfl <;> exact ⟨by decide, by decide +kernel, by decide +kernel⟩
theorem word_ok : ∀ d ∈ ([.str "open", .str "far", .str "barred", .str "empty", .str "far", .str "open"] : List Dt), StG d := by
  intro d hd
  simp only [List.mem_cons, List.not_mem_nil, or_false] at hd
  rcases hd with rfl | rfl | rfl | rfl | rfl | rfl <;> exact ⟨by decide, by decide +kernel, by decide +kernel⟩
section
variable {P : Program} {w : World} {K : PySem.W.Frag} {mg : Str → Option Value} {base : Heap} {T : List (Addr × Str)} {g C : Addr} {fd : FuncData}
def f_spoilt (p : Addr) : FT := fun ds Φ => ∃ l0 : List Dt, ds = [.raw (.ref p), .tup l0] ∧ l0 ≠ [] ∧ l0.length ≤ 100 ∧ StGs l0 ∧ ∀ l : List Dt, l.length ≤ 300 → StGs l → Φ (.tup l)
theorem ok_law_spoilt (bi : BI mg) (p q : Addr) (CD : CDraw P w K mg base T p q) (CP : CPick P w K mg base T p q) (F : FnT K "_law_spoilt" s__law_spoilt g fd) : FnOk P w K mg base CX0 3 g fd p__law_spoilt (spD K (HpM p q) (HpI p q) T (f_spoilt p)) := by
  refine fn_okD (k := 2) (hpBd p q) F sc__law_spoilt (fun ds Φ h => ?_) (by decide) (fun cdv A outer s H XE B ds Φ hM hHI hT hr hf => ?_)
  · obtain ⟨_, rfl, _⟩ := h; rfl
  obtain ⟨l0, rfl, hne, hl, hg, hf⟩ := hf
  subst hT
  have hpos := List.length_pos_iff.mpr hne
  refine dl_cons (ds_par (hN := sc__law_spoilt.nd) 2 3 (da_cons (dw_cal CD (cmS hM hHI) ‹Room _ _› (by omega) (da_cons (dw_v rfl (da_cons (dw_len bi.len (da_cons (dw_v rfl (da_nil (.inr (.inl ⟨_, rfl, da_nil ⟨_, rfl, by omega, by omega, fun r hr0 hr1 => da_cons (dw_n (dn_lst (da_cons (dw_non (da_cons (dw_int (da_cons (dw_bl (da_cons (dw_str (da_cons (dw_str (da_cons (dw_tup (da_cons (dw_str (da_nil ⟨szl, da_cons (dw_n (dn_lst (da_cons (dw_str (da_nil ⟨szl, da_cons (dw_str (da_nil ⟨szl, da_nil ⟨_, _, rfl, ?h1⟩⟩))⟩)))))⟩)))))))))))))))))⟩⟩))))))))))))
  refine dl_cons (ds_s sc__law_spoilt.nd (dw_cal CP (cmS hM hHI) ‹Room _ _› (by omega) (da_cons (dw_v rfl (da_cons (dw_add (dw_n (dn_lst (da_cons (dw_str (da_cons (dw_str (da_cons (dw_str (da_cons (dw_str (da_cons (dw_str (da_cons (dw_str (da_nil ⟨szl, dw_v rfl ⟨szl, da_nil ⟨_, rfl, by simp, (show 14 < 1073741824 by decide), fun wd hwd => ?h2⟩⟩⟩)))))))))))))))))))))
  have hw : StG wd := (List.mem_append.mp hwd).elim (word_ok wd) (odd_ok wd)
  clear hwd
  have hA := cutD_len l0 none (some r)
  have hB := cutD_len l0 (some (r + 1)) none
  have hC := cutD_len l0 (some r) none
  have gA := hg.cut none (some r)
  have gB := hg.cut (some (r + 1)) none
  have gC := hg.cut (some r) none
  refine dl_E (E' := [.dt (.raw (.ref p)), .dt (.tup l0), .dt (.int r), .dt (.lst [.non, .int 0, .bl true, .str "", .str "opened", .tup [.str "far"], .lst [.str "open"], .str "OPEN"]), .dt wd, .un]) rfl ?_
  refine dl_cons (ds_s sc__law_spoilt.nd (dw_n (dn_lst (da_cons (dw_add (dw_add (dw_slT (dw_v rfl ⟨_, rfl, do_none (do_some (dw_v rfl ⟨_, rfl, dw_tup (da_cons (dw_v rfl (da_nil ⟨szl, ?z1, dw_slT (dw_v rfl ⟨_, rfl, do_some (dw_addI (dw_v rfl (dw_int ⟨_, rfl, do_none ⟨?z2, da_cons (dw_add (dw_add (dw_slT (dw_v rfl ⟨_, rfl, do_none (do_some (dw_v rfl ⟨_, rfl, dw_tup (da_cons (dw_v rfl (da_nil ⟨szl, ?z3, dw_slT (dw_v rfl ⟨_, rfl, do_some (dw_v rfl ⟨_, rfl, do_none ⟨?z4, da_nil ⟨szl, ?h3⟩⟩⟩)⟩)⟩)))⟩))⟩))))⟩⟩)))⟩)⟩)))⟩))⟩))))))))
  case z1 => exact sl_le (m := 300) (by simp only [List.length_singleton]; omega)
  case z2 => exact sl_le (m := 300) (by simp only [List.length_append, List.length_singleton]; omega)
  case z3 => exact sl_le (m := 300) (by simp only [List.length_singleton]; omega)
  case z4 => exact sl_le (m := 300) (by simp only [List.length_append, List.length_singleton]; omega)
  refine dl_E (E' := [.dt (.raw (.ref p)), .dt (.tup l0), .dt (.int r), .dt (.lst [.non, .int 0, .bl true, .str "", .str "opened", .tup [.str "far"], .lst [.str "open"], .str "OPEN"]), .dt wd, .dt (.lst [.tup ((cutD l0 none (some r) ++ [wd]) ++ cutD l0 (some (r + 1)) none), .tup ((cutD l0 none (some r) ++ [wd]) ++ cutD l0 (some r) none)])]) rfl ?_
  refine dl_cons (ds_s sc__law_spoilt.nd (dw_add (dw_v rfl (dw_n (dn_lst (da_cons (dw_add (dw_slT (dw_v rfl ⟨_, rfl, do_none (do_some (dw_v rfl ⟨_, rfl, dw_slT (dw_v rfl ⟨_, rfl, do_some (dw_addI (dw_v rfl (dw_int ⟨_, rfl, do_none ⟨?z5, da_cons (dw_slT (dw_v rfl ⟨_, rfl, do_none (do_some (dw_v rfl ⟨_, rfl, da_nil ⟨szl, szl, ?h4⟩⟩))⟩))⟩⟩)))⟩)⟩))⟩)))))))))
  case z5 => exact sl_le (m := 300) (by omega)
  refine dl_cons (ds_ret (dw_cal CP (cmS hM hHI) ‹Room _ _› (by omega) (da_cons (dw_v rfl (da_cons (dw_add (dw_add (dw_v rfl (dw_v rfl ⟨szl, dw_n (dn_lst (da_cons (dw_add (dw_v rfl (dw_tup (da_cons (dw_v rfl (da_nil ⟨szl, ?z6, da_cons (dw_revT (dw_v rfl ⟨_, rfl, da_cons (dw_add (dw_v rfl (dw_v rfl ⟨?z7, da_cons (dw_tup (da_nil ⟨szl, da_cons (dw_v rfl (da_nil ⟨szl, szl, da_nil ⟨_, rfl, by simp, (show 13 < 1073741824 by decide), fun d hd => ?h5⟩⟩))⟩))⟩)))⟩))⟩))))))))⟩)))))))))
  case z6 => exact sl_le (m := 300) (by simp only [List.length_singleton]; omega)
  case z7 => exact sl_le (m := 300) (by omega)
  have hfin : ∀ l : List Dt, d = .tup l → l.length ≤ 300 → StGs l → Φ d := fun l e h1 h2 => e ▸ hf l h1 h2
  have gw := StGs.one hw
  have h1 : d = .tup (cutD l0 none (some r) ++ [wd] ++ cutD l0 (some (r + 1)) none) → Φ d := fun e => hfin _ e (by simp only [List.length_append, List.length_singleton]; omega) ((gA.app gw).app gB)
  have h2 : d = .tup (cutD l0 none (some r) ++ [wd] ++ cutD l0 (some r) none) → Φ d := fun e => hfin _ e (by simp only [List.length_append, List.length_singleton]; omega) ((gA.app gw).app gC)
  have h3 : d = .tup (cutD l0 none (some r) ++ cutD l0 (some (r + 1)) none) → Φ d := fun e => hfin _ e (by simp only [List.length_append]; omega) (gA.app gB)
  have h4 : d = .tup (cutD l0 none (some r)) → Φ d := fun e => hfin _ e (by omega) gA
  simp only [List.mem_append, List.mem_cons, List.not_mem_nil, or_false] at hd
  rcases hd with ((((hd | hd) | (hd | hd)) | ((hd | hd) | (hd | hd)))) | (hd | hd | hd | hd | hd)
  · exact h1 hd
  · exact h2 hd
  · exact h3 hd
  · exact h4 hd
  · exact h1 hd
  · exact h2 hd
  · exact h3 hd
  · exact h4 hd
  · exact hfin _ hd (by rw [List.length_append, List.length_singleton]; omega) (hg.app gw)
  · exact hfin _ hd (by rw [List.length_reverse]; omega) hg.rev
  · exact hfin _ hd (by rw [List.length_append]; omega) (hg.app hg)
  · exact hfin [] hd (Nat.zero_le _) (fun d h => by cases h)
  · exact hfin _ hd (by omega) hg
end
end N
set_option Elab.async false
set_option linter.all false
set_option maxRecDepth 100000
set_option maxHeartbeats 1000000
namespace N
open PySem
open PySem.Spec
open PyProof.Rows
open L2
/-! EB: repr of data. -/
mutual
def plr : Dt → PyData
  | .bl b => .bool b
  | .int i => .int i
  | .str s => .str s
  | .tup l => .tuple (plrL l)
  | .dic l => .dict (plrD l)
  | _ => .none
def plrL : List Dt → List PyData
  | [] => []
  | a :: l => plr a :: plrL l
def plrD : List (Int × Dt) → List (PyData × PyData)
  | [] => []
  | (i, a) :: l => (.int i, plr a) :: plrD l
end
mutual
def isR : Dt → Bool
  | .tup l => isRL l
  | .dic l => isRD l
  | .non | .bl _ | .int _ | .str _ => true
  | _ => false
def isRL : List Dt → Bool
  | [] => true
  | a :: l => isR a && isRL l
def isRD : List (Int × Dt) → Bool
  | [] => true
  | (_, a) :: l => isR a && isRD l
end
section
variable {X : Cx} {pins : List (Addr × Obj)} {σ : L2.St} {G H : Hp} {s : Shared}
def encK : Key → PyData
  | .inl i => .int i
  | .inr x => .str x
mutual
theorem rd_reads (I : Inv X pins σ H s) (c : Cln G H) : ∀ {v : V} {d : Dt}, Rp X.K G v d → isR d = true → ∀ {u : Value}, RelV v u → ∃ as, Reads s.heap u (plr d) as ∧ sysModules ∉ as
  | _, _, .non, _, u, r => by
    cases r
    exact ⟨[], Reads.none, fun h => by cases h⟩
  | _, _, .bl b, _, u, r => by
    cases r
    exact ⟨[], Reads.bool b, fun h => by cases h⟩
  | _, _, .int i, _, u, r => by
    obtain ⟨t, rfl⟩ := r
    exact ⟨[], Reads.int i t, fun h => by cases h⟩
  | _, _, .str x, _, u, r => by
    obtain ⟨t, rfl⟩ := r
    exact ⟨[], Reads.str x t, fun h => by cases h⟩
  | _, _, .tup h z rr, p, u, r => by
    cases r
    obtain ⟨its, rv, ⟨o, ho, hc, n, hd⟩, _⟩ := I.tuple (SqT.of (c.sub _ _ h))
    obtain ⟨as, q1, q2⟩ := rd_readsA I c rr p rv
    exact ⟨as, Reads.tuple ho hc hd q1, q2⟩
  | _, _, .dic h rr, p, u, r => by
    cases r
    obtain ⟨_, hsm, vs, kv, dd⟩ := dk_of I.hok (c.sub _ _ h)
    obtain ⟨bs, q1, q2⟩ := rd_readsD I c rr p kv
    refine ⟨_, PyProof.V.reads_dictOf (enc := encK) (fun k key e => ?_) dd q1, fun hm => ?_⟩
    · rcases keyIs_shape e with ⟨i, t, rfl, rfl⟩ | ⟨x, t, rfl, rfl⟩
      · exact Reads.int i t
      · exact Reads.str x t
    · rcases List.mem_cons.mp hm with hm | hm
      · rw [← hm] at hsm
        simp at hsm
      · exact q2 hm
  | _, _, .lst h z rr, p, u, r => nomatch p
  | _, _, .obj h rr, p, u, r => nomatch p
  | _, _, .raw v, p, u, r => nomatch p
  | _, _, .scr h, p, u, r => nomatch p
theorem rd_readsA (I : Inv X pins σ H s) (c : Cln G H) : ∀ {vs : List V} {ds : List Dt}, RpA X.K G vs ds → isRL ds = true → ∀ {us : List Value}, L2.Vals vs us → ∃ as, ReadsAll s.heap us (plrL ds) as ∧ sysModules ∉ as
  | _, _, .nil, _, us, r => by
    cases r
    exact ⟨[], ReadsAll.nil, fun h => by cases h⟩
  | _, _, .cons r1 rr, p, us, r => by
    cases r with
    | cons ra rb =>
      obtain ⟨as, h1, h2⟩ := rd_reads I c r1 (Bool.and_eq_true_iff.mp p).1 ra
      obtain ⟨bs, h3, h4⟩ := rd_readsA I c rr (Bool.and_eq_true_iff.mp p).2 rb
      exact ⟨as ++ bs, ReadsAll.cons h1 h3, fun h => (List.mem_append.mp h).elim h2 h4⟩
theorem rd_readsD (I : Inv X pins σ H s) (c : Cln G H) : ∀ {vs : List (Key × V)} {ds : List (Int × Dt)}, RpD X.K G vs ds → isRD ds = true → ∀ {us : List (Key × Value)}, KV vs us → ∃ as, PyProof.V.PairsRead s.heap encK us (plrD ds) as ∧ sysModules ∉ as
  | _, _, .nil, _, us, r => by
    cases r
    exact ⟨[], .nil, fun h => by cases h⟩
  | _, _, .cons r1 rr, p, us, r => by
    cases r with
    | @cons _ b _ _ ra rb =>
      obtain ⟨k2, u2⟩ := b
      obtain ⟨e1, ra⟩ := ra
      obtain rfl := e1
      obtain ⟨as, h1, h2⟩ := rd_reads I c r1 (Bool.and_eq_true_iff.mp p).1 ra
      obtain ⟨bs, h3, h4⟩ := rd_readsD I c rr (Bool.and_eq_true_iff.mp p).2 rb
      exact ⟨as ++ bs, .cons (enc := encK) h1 h3, fun h => (List.mem_append.mp h).elim h2 h4⟩
end
end
/-- data that repr can show: k its depth, b its bulk -/
structure RpS (b k : Nat) (d : Dt) : Prop where
  r : isR d = true
  lf : PyData.leavesShort 13 (plr d) = true
  sh : PyData.showable (plr d) = true
  dp : PyData.depth (plr d) ≤ k
  bk : PyData.bulk (plr d) ≤ b
theorem RpS.mono {b k b' k' : Nat} {d : Dt} (h : RpS b k d) (hb : b ≤ b') (hk : k ≤ k') : RpS b' k' d := ⟨h.r, h.lf, h.sh, Nat.le_trans h.dp hk, Nat.le_trans h.bk hb⟩
theorem rs_non : RpS 0 0 .non := ⟨rfl, rfl, rfl, Nat.le_refl _, Nat.le_refl _⟩
theorem rs_bl (b : Bool) : RpS 0 0 (.bl b) := ⟨rfl, rfl, rfl, Nat.le_refl _, Nat.le_refl _⟩
theorem rs_int {i : Int} (h : -1000000000000 < i ∧ i < 1000000000000) : RpS 0 0 (.int i) := by
  have h1 : i.natAbs < 10 ^ 12 := by
    have : (10 : Nat) ^ 12 = 1000000000000 := by decide
    omega
  have h2 := int_text_length_le10 (k := 12) (by decide) h1
  refine ⟨rfl, ?_, ?_, Nat.le_refl _, Nat.le_refl _⟩
  · show PyData.leavesShort 13 (.int i) = true
    rw [PyData.leavesShort, PyData.shown]
    refine decide_eq_true ?_
    rw [PySem.ofString_length]
    exact h2
  · show PyData.showable (.int i) = true
    rw [PyData.showable]
    refine decide_eq_true ?_
    by_cases h0 : i.natAbs = 0
    · rw [h0]; decide
    · have : i.natAbs < 2 ^ 1920 := Nat.lt_of_lt_of_le h1 (by decide +kernel)
      exact (Nat.log2_lt h0).mpr this
/-- a text of few plain signs -/
def okS (x : Str) : Bool := decide (x.cps.size ≤ 20) && x.cps.toList.all fun c => decide (c < 16 ^ 8)
theorem rs_str {x : Str} (h : okS x = true) : RpS 20 0 (.str x) := by
  unfold okS at h
  rw [Bool.and_eq_true] at h
  refine ⟨rfl, ?_, rfl, Nat.le_refl _, ?_⟩
  · show PyData.leavesShort 13 (.str x) = true
    rw [PyData.leavesShort]; exact h.2
  · show PyData.bulk (.str x) ≤ 20
    rw [PyData.bulk]; exact of_decide_eq_true h.1
/-- items one by one -/
structure RpA' (b k : Nat) (l : List Dt) : Prop where
  r : isRL l = true
  lf : PyData.leavesShortAll 13 (plrL l) = true
  sh : PyData.showableAll (plrL l) = true
  dp : PyData.depthAll (plrL l) ≤ k
  bk : PyData.bulkAll (plrL l) ≤ b
theorem ra_nil {k : Nat} : RpA' 0 k [] := ⟨rfl, rfl, rfl, Nat.zero_le _, Nat.le_refl _⟩
theorem ra_cons {b b2 k : Nat} {d : Dt} {l : List Dt} (h : RpS b k d) (t : RpA' b2 k l) : RpA' (b + 1 + b2) k (d :: l) := by
  refine ⟨?_, ?_, ?_, ?_, ?_⟩
  · show (isR d && isRL l) = true
    rw [h.r, t.r]; rfl
  · show PyData.leavesShortAll 13 (plr d :: plrL l) = true
    rw [PyData.leavesShortAll, h.lf, t.lf]; rfl
  · show PyData.showableAll (plr d :: plrL l) = true
    rw [PyData.showableAll, h.sh, t.sh]; rfl
  · show PyData.depthAll (plr d :: plrL l) ≤ k
    rw [PyData.depthAll]
    exact Nat.max_le.mpr ⟨h.dp, t.dp⟩
  · show PyData.bulkAll (plr d :: plrL l) ≤ _
    rw [PyData.bulkAll]
    have := h.bk
    have := t.bk
    omega
theorem ra_mono {b b' k k' : Nat} {l : List Dt} (h : RpA' b k l) (hb : b ≤ b') (hk : k ≤ k') : RpA' b' k' l := ⟨h.r, h.lf, h.sh, Nat.le_trans h.dp hk, Nat.le_trans h.bk hb⟩
theorem ra_all {b k : Nat} : ∀ {l : List Dt}, (∀ d ∈ l, RpS b k d) → RpA' (l.length * (b + 1)) k l
  | [], _ => ra_mono ra_nil (Nat.zero_le _) (Nat.le_refl _)
  | d :: l, h => by
    have ih := ra_all (l := l) fun e he => h e (List.mem_cons_of_mem _ he)
    exact ra_mono (ra_cons (h d List.mem_cons_self) ih) (by rw [List.length_cons, Nat.succ_mul]; omega) (Nat.le_refl _)
theorem rs_tup {b k : Nat} {l : List Dt} (h : RpA' b k l) : RpS b (k + 1) (.tup l) := by
  refine ⟨h.r, ?_, ?_, ?_, ?_⟩
  · show PyData.leavesShort 13 (.tuple (plrL l)) = true
    rw [PyData.leavesShort]; exact h.lf
  · show PyData.showable (.tuple (plrL l)) = true
    rw [PyData.showable]; exact h.sh
  · show PyData.depth (.tuple (plrL l)) ≤ k + 1
    rw [PyData.depth]; have := h.dp; omega
  · show PyData.bulk (.tuple (plrL l)) ≤ b
    rw [PyData.bulk]; exact h.bk
structure RpD' (b k : Nat) (l : List (Int × Dt)) : Prop where
  r : isRD l = true
  lf : PyData.leavesShortKv 13 (plrD l) = true
  sh : PyData.showableKv (plrD l) = true
  dp : PyData.depthKv (plrD l) ≤ k
  bk : PyData.bulkKv (plrD l) ≤ b
theorem rd_all {b k : Nat} : ∀ {l : List (Int × Dt)}, (∀ q ∈ l, (-1000000000000 < q.1 ∧ q.1 < 1000000000000) ∧ RpS b k q.2) → RpD' (l.length * (b + 2)) k l
  | [], _ => ⟨rfl, rfl, rfl, Nat.zero_le _, Nat.zero_le _⟩
  | (i, d) :: l, h => by
    obtain ⟨h1, h2⟩ := h (i, d) List.mem_cons_self
    have hi := rs_int h1
    have t := rd_all (l := l) fun e he => h e (List.mem_cons_of_mem _ he)
    refine ⟨?_, ?_, ?_, ?_, ?_⟩
    · show (isR d && isRD l) = true
      rw [h2.r, t.r]; rfl
    · show PyData.leavesShortKv 13 ((.int i, plr d) :: plrD l) = true
      rw [PyData.leavesShortKv, h2.lf, t.lf]
      have : PyData.leavesShort 13 (.int i) = true := hi.lf
      rw [this]; rfl
    · show PyData.showableKv ((.int i, plr d) :: plrD l) = true
      rw [PyData.showableKv, h2.sh, t.sh]
      have : PyData.showable (.int i) = true := hi.sh
      rw [this]; rfl
    · show PyData.depthKv ((.int i, plr d) :: plrD l) ≤ k
      rw [PyData.depthKv]
      have : PyData.depth (.int i) ≤ 0 := hi.dp
      exact Nat.max_le.mpr ⟨Nat.max_le.mpr ⟨by omega, h2.dp⟩, t.dp⟩
    · show PyData.bulkKv ((.int i, plr d) :: plrD l) ≤ _
      rw [PyData.bulkKv, List.length_cons, Nat.succ_mul]
      have : PyData.bulk (.int i) ≤ 0 := hi.bk
      have : PyData.bulk (plr d) ≤ b := h2.bk
      have := t.bk
      omega
theorem rs_dic {b k : Nat} {l : List (Int × Dt)} (h : RpD' b k l) : RpS b (k + 1) (.dic l) := by
  refine ⟨h.r, ?_, ?_, ?_, ?_⟩
  · show PyData.leavesShort 13 (.dict (plrD l)) = true
    rw [PyData.leavesShort]; exact h.lf
  · show PyData.showable (.dict (plrD l)) = true
    rw [PyData.showable]; exact h.sh
  · show PyData.depth (.dict (plrD l)) ≤ k + 1
    rw [PyData.depth]; have := h.dp; omega
  · show PyData.bulk (.dict (plrD l)) ≤ b
    rw [PyData.bulk]; exact h.bk
/-! ### the rule -/
section
variable {X : Cx} {B : Bd} {E : Ev} {Φ : Dt → Prop} {e : Expr} {p pos : Pos}
def rRep (K : PySem.W.Frag) : List V → Hp → VK → Prop := fun xs H Q => ∃ v d G, xs = [v] ∧ Cln G H ∧ Rp K G v d ∧ RpS 1000000 150 d ∧ (∀ x, d ≠ .str x) ∧ Q (.str (plr d).shown) H
theorem call_rep (hg : X.A.guards = some []) (hu : X.A.units + 190 < cLine) : CallR X (.builtin "repr") (rRep X.K) := by
  intro pins s σ H xs us Q I r h
  obtain ⟨v, d, G, rfl, c, rr, hs, hnx, q⟩ := h
  obtain ⟨u, rfl, rv⟩ := vals1 r
  obtain ⟨as, h1, h2⟩ := rd_reads I c rr hs.r rv
  have hz : (plr d).shown.length ≤ sizeLine := PyData.shown_fits_bulk (by decide) (by decide) hs.lf (Nat.le_trans hs.bk (by decide))
  have hd := hs.dp
  have top : ∀ a, u = .ref a → wpAny (model X.prog X.w) X.A (call (.builtin "repr") [u]) (EP X pins σ Q) X.xe s := fun a ea => by
    subst ea
    exact repr_of_reads' h1 hs.sh (fun _ => h2) hg (by omega) (fun _ _ z => z) (fun h' u tk hk => ⟨.str _, H, I.kept hk, ⟨_, rfl⟩, q⟩) hz
  cases rr with
  | non => cases rv; exact PySem.P.repr_of_none ⟨.str _, H, I.tok _, ⟨_, rfl⟩, q⟩
  | bl b => cases rv; exact PySem.P.repr_of_bool ⟨.str _, H, I.tok _, ⟨_, rfl⟩, q⟩
  | int i =>
    obtain ⟨t, rfl⟩ := rv
    exact PySem.P.repr_of_int (of_decide_eq_true hs.sh) ⟨.str _, H, I.tok _, ⟨_, rfl⟩, q⟩
  | str x => exact (hnx x rfl).elim
  | lst h z r => exact nomatch hs.r
  | tup h z r => cases rv; exact top _ rfl
  | dic h r => cases rv; exact top _ rfl
  | obj h r => exact nomatch hs.r
  | raw v => exact nomatch hs.r
  | scr h => exact nomatch hs.r
/-- repr(e) -/
theorem dw_repr (hgd : X.A.guards = some []) (hu : X.A.units + 190 < cLine) (hm : X.mg "repr" = none) (h : DA X B E [e] fun ds => ∃ d, ds = [d] ∧ RpS 1000000 150 d ∧ (∀ x, d ≠ .str x) ∧ Φ (.str (plr d).shown)) (hg : Gl X "repr" := by rfl) (he : starEach [e] X.env = (false, eval e X.env) :: starEach [] X.env := by rfl) (hpl : (backTo pos (starEach [] X.env)).any (·.1) = false := by rfl) : DW X B E (.Call (.Name "repr" p) [e] [] pos) Φ :=
  dw_blt (k := fun ds Φ => ∃ d, ds = [d] ∧ RpS 1000000 150 d ∧ (∀ x, d ≠ .str x) ∧ Φ (.str (plr d).shown)) (call_rep hgd hu) (fun B E σ G H vs ds Φ Q S r k q => by
    obtain ⟨d, rfl, h1, h2, f⟩ := k
    cases r with
    | cons r0 r =>
      cases r
      exact ⟨_, d, G, rfl, S.cln, r0, h1, h2, q _ _ G H (Grow.rf S.cln) (.str _) f⟩) hm (by decide +kernel) h hg (by decide) (by decide) he hpl
end
end N
set_option Elab.async false
set_option linter.all false
set_option maxRecDepth 100000
set_option maxHeartbeats 1000000
namespace N
open PySem
open PySem.Spec
open PyProof.Rows
open L2
/-! EC: defs that are called with no repr under way. -/
structure FnG (P : Program) (w : World) (K : PySem.W.Frag) (mg : Str → Option Value) (base : Heap) (k : Nat) (f : Addr) (fd : FuncData) (ps : List Str) (sp : Sp) : Prop where
  size : ∀ vs H Q E, sp vs H Q E → vs.length = ps.length
  goes : ∀ (A : Around) (outer : List Env) (s : Shared) (H : Hp) (ar : Args) (us : List Value) (vs : List V) (Q : VK) (E : XK), Room k A → A.guards = some [] → Env0 P w K mg base A outer s H → BindsTo s fd ar (ps.zip us) → L2.Vals vs us → sp vs H Q E →
    codeAny (model P w) A (.call (.ref f) ar) (CR CX0 outer P w H s Q E) s
structure CalG (P : Program) (w : World) (K : PySem.W.Frag) (mg : Str → Option Value) (base : Heap) (k : Nat) (x : Str) (ps : List Str) (sp : Sp) : Prop where
  ex : ∃ (g : Addr) (fd : FuncData), FnG P w K mg base k g fd ps sp ∧ mg x = some (.ref g) ∧ PySem.W.keepIn K (.ref g) = true ∧ Binds K fd ps []
section
variable {P : Program} {w : World} {K : PySem.W.Frag} {mg : Str → Option Value} {base : Heap} {M : Addr → Prop} {HI : Hp → Prop} {T : List (Addr × Str)}
theorem fn_okG {x qual : Str} {params : Arguments} {body : List Stmt} {scope : Scope} {g : Addr} {fd : FuncData} {N ps : List Str} {k : Nat} {f : FT} (bok : BdOk M HI) (F : FunD K x qual params body scope [] [] g fd) (S : FnScope N ps scope) (len : ∀ ds Φ, f ds Φ → ds.length = ps.length)
    (hle : ps.length ≤ N.length) (hb : ∀ (cdv : Value) (A : Around) (outer : List Env) (s : Shared) (H : Hp) (E : XK) (B : Bd) (ds : List Dt) (Φ : Dt → Prop), B.M = M → B.HI = HI → B.T = T → Room k (A.deeper (envOfC qual scope s.heap.objs.size g cdv)) → (A.deeper (envOfC qual scope s.heap.objs.size g cdv)).guards = some [] → f ds Φ →
      DL (cxOf CX0 P w K mg base N qual scope g cdv A outer s H E).nox B (st0 N ds) body { nx := fun _ => Φ .non, rt := Φ }) : FnG P w K mg base (k + 1) g fd ps (spD K M HI T f) := by
  have size : ∀ vs H Q E, spD K M HI T f vs H Q E → vs.length = ps.length := fun vs H Q E h => by
    obtain ⟨G, ds, Φ, _, _, _, _, r, hf, _⟩ := h
    rw [r.len]
    exact len ds Φ hf
  refine ⟨size, fun A outer s H ar us vs Q E hr hgd e0 hbd rv h => ?_⟩
  have hvl := size _ _ _ _ h
  obtain ⟨oc, od, dV, kV, doc, pm, an, cdv, ct, osl, rfl, lk, hcd, _, _⟩ := F.ex
  refine LamX.run_ofS lk hcd S hr e0 hbd rv hvl fun hr' => ?_
  obtain ⟨G, ds, Φ, cl, gm, tb, hi, r, hf, q⟩ := h
  have hl : ds.length = ps.length := len ds Φ hf
  refine ⟨semL (cxOf CX0 P w K mg base N qual scope g cdv A outer s H E).nox body, (qL : PSs (cxOf CX0 P w K mg base N qual scope g cdv A outer s H E).nox body _).nox, ?_⟩
  refine hb cdv A outer s H E ⟨M, HI, T, G, H, G, []⟩ ds Φ rfl rfl rfl hr' hgd hf (L2.start N vs) G H _ ?_ ?_
  · refine ⟨bok, Ext.rf H G, cl, tb, hi, gm, ?_, fun i s h => ?_, fun i j s u l hi hj hs hu => ?_, GLe.rfl' G, fun p hp => (nomatch hp), fun p hp => (nomatch hp), List.nodup_nil⟩
    · unfold L2.start st0
      rw [List.length_append, List.length_append, List.length_map, List.length_map, List.length_replicate, List.length_replicate, r.len]
    · rcases rpa_at r N i s h with ⟨d, rfl, v, hv, rv⟩ | rfl
      · exact ⟨v, hv, rv⟩
      · trivial
    · rcases rpa_at r N i s hi with ⟨d, rfl, _⟩ | rfl <;> cases hs
  · exact ⟨fun E σ G' H' S' f => q .non .non G' H' S'.ext S'.cln S'.tab S'.hi .non f, fun v d G' H' F r f => q v d G' H' F.ext F.cln F.tab F.hi r f, fun _ _ _ _ _ f => f.elim, fun _ _ _ _ _ f => f.elim⟩
end
section
variable {X : Cx} {B : Bd} {E : Ev} {Φ : Dt → Prop} {e : Expr} {es : List Expr} {pos p : Pos} {x : Str} {k n : Nat} {ps : List Str} {f : FT}
theorem dw_calG {M1 : Addr → Prop} {HI1 : Hp → Prop} (C : CalG X.prog X.w X.K X.mg X.base k x ps (spD X.K M1 HI1 B.T f)) (hgd : X.A.guards = some []) (cm : BdOk B.M B.HI → Cmp M1 HI1 B) (hr : Room n X.A) (hkn : k ≤ n) (h : DA X B E (e :: es) fun ds => f ds Φ) (hg : Gl X x := by rfl)
    (hdb : (x == ("__debug__" : Str)) = false := by decide) (he : starEach (e :: es) X.env = (false, eval e X.env) :: starEach es X.env := by rfl) (hpl : (backTo pos (starEach es X.env)).any (·.1) = false := by rfl) : DW X B E (.Call (.Name x p) (e :: es) [] pos) Φ := fun σ G H Q S q => by
  obtain ⟨g, fd, F, hm, hk, hb⟩ := C.ex
  have P0 : PE X (.Call (.Name x p) (e :: es) [] pos) (fun σ H Q => semA X (e :: es) σ H fun vs H1 => spD X.K M1 HI1 B.T f vs H1 Q E0) := by
    refine ⟨fun pins s σ H Q I h => ?_⟩
    refine wpAny_Call_Name_kw (ld_glob I hg hm ?_ hdb)
    refine PySem.W.callWith_K (h₀ := X.base) I.ok.mod.kin hk (thn (h.run pos pins s I) fun us s1 ⟨vs, H1, I1, r, q⟩ => ⟨I1.kIn, ?_⟩) he hpl
    have hl : (us ++ ([] : List Value)).length = ps.length := by rw [List.append_nil, ← r.length]; exact F.size _ _ _ _ q
    refine wpAny_call (codeAny_mono (F.goes X.A X.stack s1 H1 ⟨us, []⟩ (us ++ []) vs Q E0 (hr.mono hkn) hgd I1.env0 (hb s1 us I1.kIn hl) (by rw [List.append_nil]; exact r) q) fun rr s' hq => ?_)
    cases rr with
    | error e => exact pass0 pins _ _ _ _ _ I1 hq
    | ok fl =>
      cases fl with
      | ret u => exact I1.after hq
      | next => exact False.elim hq
      | brk => exact False.elim hq
      | cont => exact False.elim hq
  refine fE P0 ?_
  refine h σ G H _ S ?_
  intro vs ds G1 H1 S1 x1 r1 f1
  exact call_use S1 (cm S.bok) r1 f1 fun v d G' H' S' x' rv ph => q v d G' H' S' (x1.tr x') rv ph
end
end N
set_option Elab.async false
set_option linter.all false
set_option maxRecDepth 100000
set_option maxHeartbeats 1000000
namespace N
open PySem
open PySem.Spec
open PyProof.Rows
open L2
/-! L3: what the law finds, plainly. -/
theorem sortP_of {a b : List (Int × Int)} (h : a.Perm b) : sortP a = sortP b := srt_unique (((sortP_perm a).trans h).trans (sortP_perm b).symm) (sortP_sorted a) (sortP_sorted b)
abbrev ltP (a b : Int × Int) : Prop := SrtO.lexB a b = true
theorem ltP_iff {a b : Int × Int} : ltP a b ↔ a.1 < b.1 ∨ (a.1 = b.1 ∧ a.2 < b.2) := SrtO.lexB_iff
theorem lexLt_pr (a b : Int × Int) : HT.lexLt [a.1, a.2] [b.1, b.2] = SrtO.lexB a b := by
  show (if a.1 = b.1 then (if a.2 = b.2 then false else decide (a.2 < b.2)) else decide (a.1 < b.1)) = _
  unfold SrtO.lexB
  split
  · split
    · rename_i e; rw [e]; exact (decide_eq_false (Int.lt_irrefl _)).symm
    · rfl
  · rfl
structure GoodP (ps : List (Int × Int)) : Prop where
  nn : ∀ x ∈ ps, (0 ≤ x.1 ∧ x.1 ≤ 1000000000) ∧ 0 ≤ x.2 ∧ x.2 ≤ 1000000000
  lt : ps.Pairwise ltP
theorem GoodP.sub {a b : List (Int × Int)} (h : GoodP b) (s : a.Sublist b) : GoodP a := ⟨fun x hx => h.nn x (s.subset hx), h.lt.sublist s⟩
theorem GoodP.form {ps : List (Int × Int)} (h : GoodP ps) : formB ps = true := by
  refine formB_t fun i hi => ?_
  unfold okAt
  rw [List.getElem?_eq_getElem hi]
  have hm := h.nn _ (List.getElem_mem hi)
  show (numP ps[i] && (decide (i = 0) || match ps[i - 1]? with
    | none => true
    | some y => HT.lexLt [y.1, y.2] [(ps[i]).1, (ps[i]).2])) = true
  have h1 : numP ps[i] = true := by
    unfold numP
    rw [decide_eq_true hm.1.1, decide_eq_true hm.2.1]; rfl
  rw [h1, Bool.true_and]
  by_cases h0 : i = 0
  · rw [decide_eq_true h0]; rfl
  · rw [decide_eq_false h0, Bool.false_or, List.getElem?_eq_getElem (by omega : i - 1 < ps.length)]
    show HT.lexLt [(ps[i - 1]).1, (ps[i - 1]).2] [(ps[i]).1, (ps[i]).2] = true
    rw [lexLt_pr]
    exact List.pairwise_iff_getElem.mp h.lt (i - 1) i (by omega) hi (by omega)
theorem GoodP.of {ps : List (Int × Int)} (h : ∀ x ∈ ps, (0 ≤ x.1 ∧ x.1 ≤ 1000000000) ∧ 0 ≤ x.2 ∧ x.2 ≤ 1000000000) (hs : ps.Pairwise leP) (hn : ps.Nodup) : GoodP ps := by
  refine ⟨h, ?_⟩
  have hp := List.pairwise_iff_getElem.mp hs
  have hq := List.pairwise_iff_getElem.mp hn
  refine List.pairwise_iff_getElem.mpr fun i j hi hj hij => ?_
  have h1 := hp i j hi hj hij
  have h2 := hq i j hi hj hij
  have n1 : ¬ SrtO.lexB ps[j] ps[i] = true := by intro z; unfold leP at h1; rw [z] at h1; cases h1
  rw [SrtO.lexB_iff] at n1
  rw [ltP_iff]
  have h3 : ¬ ((ps[i]).1 = (ps[j]).1 ∧ (ps[i]).2 = (ps[j]).2) := fun e => h2 (Prod.ext e.1 e.2)
  omega
/-! ### the whole of a reach -/
section
variable {st : List (Int × Itm)} {k : Kd} {v : List Int} {sv : Sie} {ks : List Int} {lot : Lot} {r : Int}
abbrev dueR (st : List (Int × Itm)) (k : Kd) (v : List Int) (sv : Sie) (ks : List Int) (r : Int) : List (Int × Int) := (sortP (pairsOf st k v sv ks)).filter fun q => decide (q.1 ≤ r)
theorem within_ok (hL : LotFor st k ks lot) (hk : KeysOk st v.length ks) (hg : GoodP (sortP (pairsOf st k v sv ks))) {ws : List Dt} {op : List Lot} (hw : walk (fun d l => isStepD d k v sv (some r) l) 0 ws [lot] [] = (op, none)) : wfault k lot st k v r sv (.pap (some (dueR st k v sv ks r)) (.tup ws)) = none := by
  have hd := due_walk (s := sv) (reach := some r) hL hk hw
  have hd : (sortP (foundOf st k v sv op)).filter (fun q => decide (q.1 ≤ r)) = dueR st k v sv ks r := hd
  show (if k = k then wfIn lot st k v r sv (some (dueR st k v sv ks r)) (.tup ws) else some ("kind", 0)) = none
  rw [if_pos rfl]
  show (if formB (dueR st k v sv ks r) then wfOut (dueR st k v sv ks r) r (lookP k v sv (some r) lot st (.tup ws)) else some ("answer", 0)) = none
  rw [if_pos ((hg.sub List.filter_sublist).form)]
  unfold lookP
  simp only [hw]
  simp only [wfOut]
  exact if_pos hd
theorem within_due (hL : LotFor st k ks lot) (hk : KeysOk st v.length ks) {ps : List (Int × Int)} {s : Dt} (h : wfault k lot st k v r sv (.pap (some ps) s) = none) : ps = dueR st k v sv ks r := by
  have h : (if k = k then wfIn lot st k v r sv (some ps) s else some ("kind", 0)) = none := h
  rw [if_pos rfl] at h
  have h : (if formB ps then wfOut ps r (lookP k v sv (some r) lot st s) else some ("answer", 0)) = none := h
  split at h
  · have key : ∀ ws, s = .tup ws → ps = dueR st k v sv ks r := fun ws e => by
      subst e
      unfold lookP at h
      cases hw : walk (fun d l => isStepD d k v sv (some r) l) 0 ws [lot] [] with
      | mk op o =>
        simp only [hw] at h
        cases o with
        | some i => cases h
        | none =>
          simp only [wfOut] at h
          split at h
          · rename_i e
            rw [← e]
            exact due_walk (s := sv) (reach := some r) hL hk hw
          · cases h
    cases s with
    | tup ws => exact key ws rfl
    | _ => cases h
  · cases h
end
end N
set_option Elab.async false
set_option linter.all false
set_option maxRecDepth 100000
set_option maxHeartbeats 1000000
namespace N
open PySem
open PySem.Spec
open PyProof.Rows
open L2
/-! L4: fewer, tied. -/
section
variable {st : List (Int × Itm)} {k : Kd} {v : List Int} {sv : Sie} {ks : List Int} {lot : Lot}
theorem cut_take {α : Type} (l : List α) (n : Nat) : cutD l none (some (n : Int)) = l.take n := by
  unfold cutD
  have e1 : HT.sIx l.length 0 none = 0 := rfl
  have e2 : HT.sIx l.length l.length (some (n : Int)) = min n l.length := HT.sIx_nat _ _ _
  rw [e1, e2, List.drop_zero, Nat.sub_zero]
  rcases Nat.le_total n l.length with h | h
  · rw [Nat.min_eq_left h]
  · rw [Nat.min_eq_right h, List.take_length, List.take_of_length_le h]
theorem cut_drop {α : Type} (l : List α) (n : Nat) : cutD l (some (n : Int)) none = l.drop n := by
  unfold cutD
  have e1 : HT.sIx l.length 0 (some (n : Int)) = min n l.length := HT.sIx_nat _ _ _
  have e2 : HT.sIx l.length l.length none = l.length := rfl
  rw [e1, e2]
  rcases Nat.le_total n l.length with h | h
  · rw [Nat.min_eq_left h, List.take_of_length_le (by rw [List.length_drop]; exact Nat.le_refl _)]
  · rw [Nat.min_eq_right h, List.drop_length, List.drop_of_length_le h]; exact List.take_nil
/-- the first n of a sorted list, up to the last one's distance -/
theorem take_in {l : List (Int × Int)} (hs : l.Pairwise leP) {n : Nat} {q : Int × Int} (hq : (l.take n).getLast? = some q) : ∀ x ∈ l.take n, x.1 ≤ q.1 := by
  intro x hx
  have hs' : (l.take n).Pairwise leP := hs.sublist (List.take_sublist _ _)
  obtain ⟨ys, e⟩ : ∃ ys, l.take n = ys ++ [q] := by
    obtain ⟨ys, h⟩ := List.getLast?_eq_some_iff.mp hq
    exact ⟨ys, h⟩
  rw [e] at hs' hx
  rcases List.mem_append.mp hx with hx | hx
  · exact leP_fst ((List.pairwise_append.mp hs').2.2 x hx q (List.mem_singleton.mpr rfl))
  · rw [List.mem_singleton.mp hx]; exact Int.le_refl _
theorem take_split {l : List (Int × Int)} (hs : l.Pairwise leP) (reach : Option Int) {n : Nat} (hn : n ≤ l.length) (h : ∀ x ∈ l.take n, inR reach x = true) : n ≤ (l.filter (inR reach)).length ∧ l.take n = (l.filter (inR reach)).take n := by
  have e := srt_split reach hs
  have hc : n ≤ (l.filter (inR reach)).length := by
    have h1 : (l.take n).filter (inR reach) = l.take n := List.filter_eq_self.mpr h
    have h2 : ((l.take n).filter (inR reach)).length ≤ (l.filter (inR reach)).length := ((List.take_sublist n l).filter _).length_le
    rw [h1, List.length_take] at h2
    omega
  refine ⟨hc, ?_⟩
  have e2 : l.take n = (l.filter (inR reach) ++ l.filter fun q => !inR reach q).take n := by rw [← e]
  rw [e2, List.take_append_of_le_length hc]
theorem same_take {l m : List (Int × Int)} (hl : l.Pairwise leP) (hm : m.Pairwise leP) {reach : Option Int} (h : l.filter (inR reach) = m.filter (inR reach)) {n : Nat} (hn : n ≤ m.length) (hin : ∀ x ∈ m.take n, inR reach x = true) : l.take n = m.take n := by
  obtain ⟨h1, h2⟩ := take_split hm reach hn hin
  rw [h2, ← h]
  rw [← h] at h1
  have e2 : l.take n = (l.filter (inR reach) ++ l.filter fun q => !inR reach q).take n := by rw [← srt_split reach hl]
  rw [e2, List.take_append_of_le_length h1]
theorem drop_eqs {l : List (Int × Int)} (hs : l.Pairwise leP) {r : Int} {n : Nat} (hc : n ≤ (l.filter (inR (some r))).length) : (l.drop n).filter (fun q => decide (some q.1 = some r)) = ((l.filter (inR (some r))).drop n).filter fun q => decide (some q.1 = some r) := by
  have e2 : l.drop n = (l.filter (inR (some r)) ++ l.filter fun q => !inR (some r) q).drop n := by rw [← srt_split (some r) hs]
  rw [e2, List.drop_append_of_le_length hc, List.filter_append]
  have : (l.filter fun q => !inR (some r) q).filter (fun q => decide (some q.1 = some r)) = [] := by
    rw [List.filter_eq_nil_iff]
    intro q hq hc
    have h1 := (List.mem_filter.mp hq).2
    have h2 := of_decide_eq_true hc
    have h3 : q.1 = r := Option.some.inj h2
    have h1 : (!decide (q.1 ≤ r)) = true := h1
    rw [decide_eq_true (by omega : q.1 ≤ r)] at h1
    cases h1
  rw [this, List.append_nil]
/-- the answer of many, the reach it tells, those alike -/
abbrev allP (st : List (Int × Itm)) (k : Kd) (v : List Int) (sv : Sie) (ks : List Int) : List (Int × Int) := sortP (pairsOf st k v sv ks)
def alikeOf (pr : List (Int × Int)) (many : Nat) (reach : Option Int) : List (Int × Int) := (pr.drop many).filter fun q => decide (some q.1 = reach)
theorem reach_some {ps : List (Int × Int)} {m : Nat} {r : Int} (h : ansReach ps (m : Int) = some r) : ps.length = m ∧ ∃ q, ps.getLast? = some q ∧ q.1 = r := by
  unfold ansReach at h
  split at h
  · rename_i e
    cases hq : ps.getLast? with
    | none => rw [hq] at h; cases h
    | some q => rw [hq] at h; exact ⟨by omega, q, rfl, Option.some.inj h⟩
  · cases h
theorem reach_full {ps : List (Int × Int)} {m : Nat} (hl : ps.length = m) (hm : 1 ≤ m) : ∃ q, ps.getLast? = some q ∧ ansReach ps (m : Int) = some q.1 := by
  have hne : ps ≠ [] := fun e => by rw [e] at hl; simp at hl; omega
  refine ⟨ps.getLast hne, List.getLast?_eq_some_getLast hne, ?_⟩
  unfold ansReach
  rw [if_pos (by omega), List.getLast?_eq_some_getLast hne]
  rfl
theorem fewer_ok (hL : LotFor st k ks lot) (hk : KeysOk st v.length ks) (hg : GoodP (allP st k v sv ks)) {many less : Nat} (h1 : 1 ≤ less) (h2 : less ≤ ((allP st k v sv ks).take many).length) {ws : List Dt} {op : List Lot}
    (hw : walk (fun d l => isStepD d k v sv (ansReach ((allP st k v sv ks).take many) (many : Int)) l) 0 ws [lot] [] = (op, none)) : ffault lot st k v (less : Int) sv ((allP st k v sv ks).take less) (.tup ws) = none := by
  have hs := sortP_sorted (pairsOf st k v sv ks)
  have hlen : ((allP st k v sv ks).take less).length = less := by
    rw [List.length_take] at h2 ⊢; omega
  have hless : less ≤ (allP st k v sv ks).length := by rw [List.length_take] at h2; omega
  have hlm : less ≤ many := by rw [List.length_take] at h2; omega
  obtain ⟨q, hq, hr⟩ := reach_full hlen h1
  have hin := take_in hs hq
  have hle : leR q.1 (ansReach ((allP st k v sv ks).take many) (many : Int)) := by
    cases hR : ansReach ((allP st k v sv ks).take many) (many : Int) with
    | none => trivial
    | some r0 =>
      obtain ⟨_, q0, hq0, rfl⟩ := reach_some hR
      have hmem : q ∈ (allP st k v sv ks).take many := by
        have := List.mem_of_getLast? hq
        have hsub : ((allP st k v sv ks).take less).Sublist ((allP st k v sv ks).take many) := by
          have : (allP st k v sv ks).take less = ((allP st k v sv ks).take many).take less := by rw [List.take_take, Nat.min_eq_left hlm]
          rw [this]
          exact List.take_sublist _ _
        exact hsub.subset this
      exact take_in hs hq0 q hmem
  have hw' := walk_less hle hw
  have hd := due_walk (s := sv) (reach := some q.1) hL hk hw'
  have hf : formA (some ((allP st k v sv ks).take less)) (some (less : Int)) = true := by
    show (manyOk ((allP st k v sv ks).take less) (some (less : Int)) && formB ((allP st k v sv ks).take less)) = true
    have e1 : manyOk ((allP st k v sv ks).take less) (some (less : Int)) = true := decide_eq_true (by rw [hlen]; exact Int.le_refl _)
    rw [e1, (hg.sub (List.take_sublist _ _)).form]; rfl
  unfold ffault
  rw [if_pos hf, hr]
  unfold lookP
  simp only [hw']
  simp only [ffOut]
  refine if_pos ?_
  rw [cut_take]
  exact same_take (sortP_sorted _) hs hd hless fun x hx => decide_eq_true (hin x hx)
theorem tied_ok (hL : LotFor st k ks lot) (hk : KeysOk st v.length ks) {many : Nat} {ws : List Dt} {op : List Lot}
    (hw : walk (fun d l => isStepD d k v sv (ansReach ((allP st k v sv ks).take many) (many : Int)) l) 0 ws [lot] [] = (op, none)) : lookP k v sv (ansReach ((allP st k v sv ks).take many) (many : Int)) lot st (.tup ws) = .inr (sortP (foundOf st k v sv op)) ∧
      tiedOf (sortP (foundOf st k v sv op)) ((allP st k v sv ks).take many).length (ansReach ((allP st k v sv ks).take many) (many : Int)) = alikeOf (allP st k v sv ks) many (ansReach ((allP st k v sv ks).take many) (many : Int)) := by
  have hs := sortP_sorted (pairsOf st k v sv ks)
  have hd := due_walk (s := sv) hL hk hw
  refine ⟨by unfold lookP; simp only [hw], ?_⟩
  unfold tiedOf alikeOf
  rw [cut_drop]
  cases hR : ansReach ((allP st k v sv ks).take many) (many : Int) with
  | none =>
    rw [List.filter_eq_nil_iff.mpr (by simp), List.filter_eq_nil_iff.mpr (by simp)]
  | some r0 =>
    rw [hR] at hd
    obtain ⟨hl, q0, hq0, rfl⟩ := reach_some hR
    rw [hl]
    have hml : many ≤ (allP st k v sv ks).length := by rw [List.length_take] at hl; omega
    obtain ⟨hc, _⟩ := take_split hs (some q0.1) hml fun x hx => decide_eq_true (take_in hs hq0 x hx)
    rw [drop_eqs hs hc, drop_eqs (sortP_sorted _) (by rw [hd]; exact hc), hd]
theorem whole_ok {many : Nat} (hm : 1 ≤ many) {r : Int} (hR : ansReach ((allP st k v sv ks).take many) (many : Int) = some r) : (allP st k v sv ks).take many ++ alikeOf (allP st k v sv ks) many (some r) = dueR st k v sv ks r := by
  have hs := sortP_sorted (pairsOf st k v sv ks)
  obtain ⟨hl, q0, hq0, rfl⟩ := reach_some hR
  have hml : many ≤ (allP st k v sv ks).length := by rw [List.length_take] at hl; omega
  obtain ⟨hc, ht⟩ := take_split hs (some q0.1) hml fun x hx => decide_eq_true (take_in hs hq0 x hx)
  unfold alikeOf
  rw [drop_eqs hs hc, ht]
  have hF : ((allP st k v sv ks).filter (inR (some q0.1))).Pairwise leP := hs.filter _
  have hall : (((allP st k v sv ks).filter (inR (some q0.1))).drop many).filter (fun q => decide (some q.1 = some q0.1)) = ((allP st k v sv ks).filter (inR (some q0.1))).drop many := by
    refine List.filter_eq_self.mpr fun x hx => ?_
    have hx1 : x.1 ≤ q0.1 := of_decide_eq_true (List.mem_filter.mp (List.mem_of_mem_drop hx)).2
    have hq : q0 ∈ ((allP st k v sv ks).filter (inR (some q0.1))).take many := by rw [← ht]; exact List.mem_of_getLast? hq0
    rw [← List.take_append_drop many ((allP st k v sv ks).filter (inR (some q0.1)))] at hF
    have := leP_fst ((List.pairwise_append.mp hF).2.2 q0 hq x hx)
    exact decide_eq_true (congrArg some (by omega))
  rw [hall, List.take_append_drop]
  rfl
end
end N
set_option Elab.async false
set_option linter.all false
set_option maxRecDepth 100000
set_option maxHeartbeats 1000000
namespace N
open PySem
open PySem.Spec
open PyProof.Rows
open L2
/-! L5: what the law's world gives. -/
theorem isStepD_word {d : Dt} {k : Kd} {v : List Int} {s : Sie} {reach : Option Int} {l : Lot} (h : isStepD d k v s reach l = true) : ∃ x, d = .str x ∧ x ∈ stepWs := by
  cases d with
  | str x => exact ⟨x, rfl, step_in h⟩
  | _ => cases h
theorem walk_words {J : Dt → Lot → Bool} : ∀ (ws : List Dt) (i : Nat) (stk op op' : List Lot), walk J i ws stk op = (op', none) → ∀ d ∈ ws, ∃ l, J d l = true
  | [], _, _, _, _, _, d, hd => by cases hd
  | w :: ws, i, [], op, op', h, d, hd => by injection h with h1 h2; cases h2
  | w :: ws, i, l :: r, op, op', h, d, hd => by
    rw [walk_cons] at h
    cases hj : J w l with
    | false =>
      rw [hj, if_neg (by decide)] at h
      injection h with h1 h2
      cases h2
    | true =>
      rw [hj, if_pos rfl] at h
      rcases List.mem_cons.mp hd with rfl | hd
      · exact ⟨l, hj⟩
      · split at h
        · exact walk_words ws _ _ _ _ h d hd
        · exact walk_words ws _ _ _ _ h d hd
theorem str_ok {x : Str} (h : x ∈ stepWs) : StG (.str x) := by
  simp only [stepWs, List.mem_cons, List.not_mem_nil, or_false] at h
  rcases h with rfl | rfl | rfl | rfl <;> exact ⟨by decide, by decide +kernel, by decide +kernel⟩
theorem str_rs {x : Str} (h : x ∈ stepWs) : RpS 20 0 (.str x) := by
  simp only [stepWs, List.mem_cons, List.not_mem_nil, or_false] at h
  rcases h with rfl | rfl | rfl | rfl <;> exact rs_str (by decide +kernel)
section
variable {st : List (Int × Itm)} {k : Kd} {form : Str} {lot : Lot} {v : List Int} {asked : Int} {sv : Sie} {ks : List Int} {m : Nat} {ns : List Str}
theorem WorldOk.facts (h : WorldOk st k form lot v asked sv ks m ns) : StOk st ∧ StL st m ∧ Sv' v ∧ v.length = m ∧ v ≠ [] ∧ (∀ i ∈ ks, ∃ d, look st i = some d) ∧ (∀ i ∈ st.map (·.1), ∃ d, look st i = some d) ∧ LotOk st lot ∧ KeysOk st v.length ks := by
  obtain ⟨hnd, _, hnl⟩ := names_ok h.nn
  obtain ⟨h1, h2, h3, h4⟩ := h.ss.ok h.sl h.m3 hnd
  have hkk : ∀ i ∈ ks, ∃ d, look st i = some d := fun i hi => look_keys (h.hp.mem_iff.mp hi)
  have hm3 := h.m3
  have hm1 := h.m1
  have hvl := h.vl
  have hkl : ks.length ≤ 100 := by
    have := h.hp.length_eq
    rw [List.length_map] at this
    have := h.sl
    omega
  refine ⟨h1, h2, ⟨by omega, fun x hx => by have := h.vb x hx; omega⟩, hvl, fun e => by rw [e] at hvl; simp at hvl; omega, hkk, fun i hi => look_keys hi, h.lt.ok hkl hkk, fun i hi => ?_⟩
  obtain ⟨d, hd⟩ := hkk i hi
  rw [getI_ok hd, h.vl]
  have := h2 _ (look_mem hd)
  exact ⟨this.2.1, this.2.2⟩
theorem WorldOk.all (h : WorldOk st k form lot v asked sv ks m ns) : sortP (pairsOf st k v sv (st.map (·.1))) = allP st k v sv ks := sortP_of (pairs_perm h.hp.symm)
theorem pair_mem {q : Int × Int} (h : q ∈ pairsOf st k v sv ks) : ∃ i ∈ ks, q = (dist k v (getI st i).vec, (getI st i).key) := by
  unfold pairsOf at h
  obtain ⟨x, hx, rfl⟩ := List.mem_map.mp h
  obtain ⟨i, hi, rfl⟩ := List.mem_map.mp (List.mem_filter.mp hx).1
  exact ⟨i, hi, rfl⟩
theorem WorldOk.good (h : WorldOk st k form lot v asked sv ks m ns) : GoodP (allP st k v sv ks) := by
  obtain ⟨h1, h2, h3, h4, h5, h6, h7, h8, h9⟩ := h.facts
  refine GoodP.of (fun x hx => ?_) (sortP_sorted _) ?_
  · obtain ⟨i, hi, rfl⟩ := pair_mem ((sortP_perm _).mem_iff.mp hx)
    obtain ⟨d, hd⟩ := h6 i hi
    rw [getI_ok hd]
    have hm := look_mem hd
    have hk := h2 _ hm
    have h0 := (h.ss.it _ hm).1
    have hu := (h.ss.up _ hm).1
    have hd2 : 0 ≤ dist k v d.vec ∧ dist k v d.vec ≤ 900000000 := dist_b9 k h3 (h1.2 _ hm)
    have hk1 : d.key = i := hk.1
    have h0 : 0 ≤ i := h0
    have hu : i ≤ 1000000000 := hu
    show (0 ≤ dist k v d.vec ∧ dist k v d.vec ≤ 1000000000) ∧ 0 ≤ d.key ∧ d.key ≤ 1000000000
    omega
  · refine (sortP_perm _).nodup_iff.mpr ?_
    have hkd : ks.Nodup := h.hp.nodup_iff.mpr h.ss.nd
    unfold pairsOf
    have hmap : ((ks.map (getI st)).map (·.key)) = ks := by
      rw [List.map_map]
      conv => rhs; rw [← List.map_id ks]
      refine List.map_congr_left fun i hi => ?_
      obtain ⟨d, hd⟩ := h6 i hi
      show (getI st i).key = i
      rw [getI_ok hd]
      exact (h2 _ (look_mem hd)).1
    have hn2 : ((((ks.map (getI st)).filter fun i => lets sv i.labs).map fun i => (dist k v i.vec, i.key)).map (·.2)).Nodup := by
      rw [List.map_map]
      have : ((ks.map (getI st)).filter fun i => lets sv i.labs).Sublist (ks.map (getI st)) := List.filter_sublist
      have h3 := (this.map (·.key))
      rw [hmap] at h3
      exact hkd.sublist h3
    exact List.Pairwise.of_map _ (fun a b hab e => hab (by rw [e])) hn2
theorem pairs_len (st : List (Int × Itm)) (k : Kd) (v : List Int) (sv : Sie) (ks : List Int) : (allP st k v sv ks).length ≤ ks.length := by
  rw [(sortP_perm _).length_eq]
  unfold pairsOf
  rw [List.length_map]
  exact Nat.le_trans (List.length_filter_le _ _) (by rw [List.length_map]; exact Nat.le_refl _)
end
theorem rs_prs {ps : List (Int × Int)} (h : GoodP ps) : RpS (ps.length * 3) 2 (.tup (prsD ps)) := by
  have : RpA' (ps.length * 3) 1 (prsD ps) := by
    have := ra_all (b := 2) (k := 1) (l := prsD ps) fun d hd => by
      obtain ⟨q, hq, rfl⟩ := List.mem_map.mp hd
      have hb := h.nn q hq
      exact rs_tup (ra_cons (rs_int (by omega)) (ra_cons (rs_int (by omega)) ra_nil))
    rwa [List.length_map] at this
  exact rs_tup this
theorem rs_words {ws : List Str} (h : ∀ x ∈ ws, x ∈ stepWs) : RpS (ws.length * 21) 1 (wdsD ws) := by
  have := ra_all (b := 20) (k := 0) (l := ws.map .str) fun d hd => by
    obtain ⟨x, hx, rfl⟩ := List.mem_map.mp hd
    exact str_rs (h x hx)
  rw [List.length_map] at this
  exact rs_tup this
theorem rs_vec {v : List Int} {b : Nat} (hl : v.length ≤ b) (h : ∀ x ∈ v, -1000000000 ≤ x ∧ x ≤ 1000000000) : RpS b 1 (vecD v) := by
  have := ra_all (b := 0) (k := 0) (l := v.map .int) fun d hd => by
    obtain ⟨x, hx, rfl⟩ := List.mem_map.mp hd
    have := h x hx
    exact rs_int (by omega)
  rw [List.length_map] at this
  exact rs_tup (ra_mono this (by omega) (Nat.le_refl _))
theorem rs_sv {v : List Int} (h : Sv' v) : RpS 100 1 (vecD v) := rs_vec h.1 fun x hx => by have := h.2 x hx; omega
theorem rs_reg {r : Reg} (h : RgOk r) : RpS 230 2 (regD r) := by
  cases r with
  | box lo hi => exact (rs_tup (ra_cons ((rs_str (by decide +kernel)).mono (Nat.le_refl _) (Nat.zero_le 1)) (ra_cons (rs_sv h.1) (ra_cons (rs_sv h.2) ra_nil)))).mono (by decide) (Nat.le_refl _)
  | ball c r =>
    have hr := h.2
    exact (rs_tup (ra_cons ((rs_str (by decide +kernel)).mono (Nat.le_refl _) (Nat.zero_le 1)) (ra_cons (rs_sv h.1) (ra_cons ((rs_int (by have := hr.1; have := hr.2; omega)).mono (Nat.le_refl _) (Nat.zero_le 1)) ra_nil)))).mono (by decide) (Nat.le_refl _)
  | cell c a b =>
    have ha := h.2.1
    have hb := h.2.2
    exact (rs_tup (ra_cons ((rs_str (by decide +kernel)).mono (Nat.le_refl _) (Nat.zero_le 1)) (ra_cons (rs_sv h.1) (ra_cons ((rs_int (by have := ha.1; have := ha.2; omega)).mono (Nat.le_refl _) (Nat.zero_le 1)) (ra_cons ((rs_int (by have := hb.1; have := hb.2; omega)).mono (Nat.le_refl _) (Nat.zero_le 1)) ra_nil))))).mono (by decide) (Nat.le_refl _)
theorem name_ok {ns : List Str} (h : ns ∈ NamesL) {n : Str} (hn : n ∈ ns) : okS n = true := by
  simp only [List.mem_cons, List.not_mem_nil, or_false] at h
  rcases h with rfl | rfl | rfl <;> simp only [List.mem_cons, List.not_mem_nil, or_false] at hn
  · rcases hn with rfl | rfl <;> decide +kernel
  · rw [hn]; decide +kernel
  · rcases hn with rfl | rfl | rfl <;> decide +kernel
/-- the state's bounds, for keys ks -/
structure LabB (st : List (Int × Itm)) (ns : List Str) (ks : List Int) : Prop where
  b : ∀ i ∈ ks, ((getI st i).labs.map (·.1)).Sublist ns ∧ ∀ x ∈ (getI st i).labs, -3 ≤ x.2 ∧ x.2 ≤ 3
theorem vals_lab {st : List (Int × Itm)} {ks : List Int} {n : Str} {x : Int} (h : x ∈ valsOf st ks n) : ∃ i ∈ ks, ∃ q ∈ (getI st i).labs, q.1 = n ∧ q.2 = x := by
  unfold valsOf at h
  obtain ⟨i, hi, h⟩ := List.mem_flatMap.mp h
  obtain ⟨q, hq, rfl⟩ := List.mem_map.mp h
  have := List.mem_filter.mp hq
  exact ⟨i, hi, q, this.1, of_decide_eq_true this.2, rfl⟩
theorem rs_smy {st : List (Int × Itm)} {ns : List Str} {ks : List Int} (hb : LabB st ns ks) (hn : ns ∈ NamesL) (hl : ks.length ≤ 9) {s : Smy} (h : SmyOf st ks s) : RpS 300 3 (smyD s) := by
  obtain ⟨h1, ⟨h2, h3⟩, _⟩ := h
  have hrow : ∀ d ∈ s.rows.map rowD, RpS 24 1 d := fun d hd => by
    obtain ⟨r, hr, rfl⟩ := List.mem_map.mp hd
    obtain ⟨_, r1, r2, r3⟩ := h3 r hr
    obtain ⟨i, hi, q, hq, e1, e2⟩ := vals_lab r2
    obtain ⟨i', hi', q', hq', e1', e2'⟩ := vals_lab r3
    have hnm : r.name ∈ ns := (hb.b i hi).1.subset (e1 ▸ List.mem_map_of_mem hq)
    have b1 := (hb.b i hi).2 q hq
    have b2 := (hb.b i' hi').2 q' hq'
    have hc : (valsOf st ks r.name).length ≤ ks.length * 10 := vals_len st ks r.name fun j hj => by
      have h5 := (hb.b j hj).1.length_le
      rw [List.length_map] at h5
      have := (names_ok hn).2.2
      omega
    exact (rs_tup (ra_cons (rs_str (name_ok hn hnm)) (ra_cons (rs_int (by omega)) (ra_cons (rs_int (by omega)) (ra_cons (rs_int (by omega)) ra_nil))))).mono (by decide) (Nat.le_refl _)
  have hrows := ra_all hrow
  rw [List.length_map] at hrows
  exact (rs_tup (ra_cons ((rs_int (by omega)).mono (Nat.le_refl _) (Nat.zero_le 2)) (ra_cons (rs_tup hrows) ra_nil))).mono (by omega) (Nat.le_refl _)
theorem LabB.sub {st : List (Int × Itm)} {ns : List Str} {a b : List Int} (h : LabB st ns b) (s : ∀ i ∈ a, i ∈ b) : LabB st ns a := ⟨fun i hi => h.b i (s i hi)⟩
mutual
theorem rs_lot {st : List (Int × Itm)} {ns : List Str} {k : Kd} (hn : ns ∈ NamesL) : ∀ {l : Lot} {ks : List Int}, LotFor st k ks l → LabB st ns ks → ks.length ≤ 9 → (∀ i ∈ ks, 0 ≤ i ∧ i ≤ 1000000000) → RpS (l.cnt * 1000 - 1) (3 * l.cnt + 3) (lotD l)
  | .items r s ms, ks, h, hb, hl, hk => by
    cases h with
    | items h1 _ h3 hp =>
      rw [lotD, Lot.cnt]
      have hv : RpS 9 1 (vecD ms) := rs_vec (by rw [hp.length_eq]; exact hl) fun x hx => by have := hk x (hp.mem_iff.mp hx); omega
      exact (rs_tup (ra_cons ((rs_reg h1).mono (Nat.le_refl _) (by decide : 2 ≤ 3)) (ra_cons (rs_smy hb hn hl h3) (ra_cons ((rs_tup (ra_cons ((rs_str (by decide +kernel)).mono (Nat.le_refl _) (Nat.zero_le 1)) (ra_cons hv ra_nil))).mono (Nat.le_refl _) (by decide : 2 ≤ 3)) ra_nil)))).mono (by decide) (by decide)
  | .lots r s ls, ks, h, hb, hl, hk => by
    cases h with
    | lots h1 _ h3 hs =>
      rw [lotD, Lot.cnt]
      have ih := rs_lots hn hs hb hl hk
      exact (rs_tup (ra_cons ((rs_reg h1).mono (Nat.le_refl _) (by omega : 2 ≤ 3 * cntL ls + 5)) (ra_cons ((rs_smy hb hn hl h3).mono (Nat.le_refl _) (by omega : 3 ≤ 3 * cntL ls + 5)) (ra_cons (rs_tup (ra_cons ((rs_str (by decide +kernel)).mono (Nat.le_refl _) (Nat.zero_le (3 * cntL ls + 4))) (ra_cons (rs_tup ih) ra_nil))) ra_nil)))).mono (by omega) (by omega)
theorem rs_lots {st : List (Int × Itm)} {ns : List Str} {k : Kd} (hn : ns ∈ NamesL) : ∀ {ls : List Lot} {ks : List Int}, LotsFor st k ks ls → LabB st ns ks → ks.length ≤ 9 → (∀ i ∈ ks, 0 ≤ i ∧ i ≤ 1000000000) → RpA' (cntL ls * 1000) (3 * cntL ls + 3) (lotsD ls)
  | [], ks, h, hb, hl, hk => ra_mono ra_nil (Nat.zero_le _) (Nat.zero_le _)
  | l :: ls, ks, h, hb, hl, hk => by
    cases h with
    | @cons a b _ _ h1 h2 =>
      rw [List.length_append] at hl
      have i1 := rs_lot hn h1 (hb.sub fun i hi => List.mem_append_left _ hi) (by omega) fun i hi => hk i (List.mem_append_left _ hi)
      have i2 := rs_lots hn h2 (hb.sub fun i hi => List.mem_append_right _ hi) (by omega) fun i hi => hk i (List.mem_append_right _ hi)
      have hc := cnt_kids l
      rw [lotsD, cntL]
      exact ra_mono (ra_cons (i1.mono (Nat.le_refl _) (by omega : 3 * l.cnt + 3 ≤ 3 * (l.cnt + cntL ls) + 3)) (ra_mono i2 (Nat.le_refl _) (by omega))) (by omega) (Nat.le_refl _)
end
section
variable {st : List (Int × Itm)} {k : Kd} {form : Str} {lot : Lot} {v : List Int} {asked : Int} {sv : Sie} {ks : List Int} {m : Nat} {ns : List Str}
theorem WorldOk.rs (h : WorldOk st k form lot v asked sv ks m ns) : RpS 1000000 150 (.tup [stD st, lotD lot]) := by
  obtain ⟨h1, h2, h3, h4, h5, h6, h7, h8, h9⟩ := h.facts
  have hkl : ks.length ≤ 9 := by
    have := h.hp.length_eq
    rw [List.length_map] at this
    have := h.sl
    omega
  have hlab : LabB st ns ks := ⟨fun i hi => by
    obtain ⟨d, hd⟩ := h6 i hi
    rw [getI_ok hd]
    have hm := look_mem hd
    exact ⟨(h.ss.it _ hm).2.2.2.2, (h.ss.up _ hm).2⟩⟩
  have hkb : ∀ i ∈ ks, 0 ≤ i ∧ i ≤ 1000000000 := fun i hi => by
    obtain ⟨d, hd⟩ := h6 i hi
    have hm := look_mem hd
    exact ⟨(h.ss.it _ hm).1, (h.ss.up _ hm).1⟩
  have hlot := rs_lot h.nn h.lt hlab hkl hkb
  have hct := h.ct
  have hst : RpS 10000 4 (stD st) := by
    have := rd_all (b := 500) (k := 3) (l := st.map fun q => (q.1, itmD q.2)) fun z hz => by
      obtain ⟨q, hq, rfl⟩ := List.mem_map.mp hz
      have hi := h.ss.it q hq
      have hu := h.ss.up q hq
      have hnl := (names_ok h.nn).2.2
      have hll := hi.2.2.2.2.length_le
      rw [List.length_map] at hll
      have hvl := hi.2.2.1
      have hm3 := h.m3
      have hls := ra_all (b := 22) (k := 1) (l := q.2.labs.map labD) fun d hd => by
        obtain ⟨x, hx, rfl⟩ := List.mem_map.mp hd
        have hb := hu.2 x hx
        exact (rs_tup (ra_cons (rs_str (name_ok h.nn (hi.2.2.2.2.subset (List.mem_map_of_mem hx)))) (ra_cons (rs_int (by omega)) ra_nil))).mono (by decide) (Nat.le_refl _)
      rw [List.length_map] at hls
      have hv : RpS 3 1 (vecD q.2.vec) := rs_vec (by omega) fun x hx => by have := hi.2.2.2.1 x hx; omega
      refine ⟨by show -1000000000000 < q.1 ∧ q.1 < 1000000000000; omega, ?_⟩
      exact (rs_tup (ra_cons ((rs_int (by omega)).mono (Nat.le_refl _) (Nat.zero_le 2)) (ra_cons (hv.mono (Nat.le_refl _) (by decide : 1 ≤ 2)) (ra_cons (rs_tup hls) ra_nil)))).mono (by omega) (Nat.le_refl _)
    rw [List.length_map] at this
    have hsl := h.sl
    exact (rs_dic this).mono (by omega) (Nat.le_refl _)
  exact (rs_tup (ra_cons (hst.mono (Nat.le_refl _) (by decide : 4 ≤ 140)) (ra_cons (hlot.mono (Nat.le_refl _) (by omega : 3 * lot.cnt + 3 ≤ 140)) ra_nil))).mono (by omega) (by decide)
end
end N
set_option Elab.async false
set_option linter.all false
set_option maxRecDepth 100000
set_option maxHeartbeats 1000000
namespace N
open PySem
open PySem.Spec
open PyProof.Rows
open L2
/-! ED: `is` of truth values; what within_fault may tell. -/
section
variable {X : Cx} {B : Bd} {E : Ev} {Φ : Dt → Prop} {a b : Expr} {pos : Pos}
abbrev isBK (neg : Bool) : Dt → Dt → (Dt → Prop) → Prop := fun d1 d2 Φ => ∃ x y : Bool, d1 = .bl x ∧ d2 = .bl y ∧ Φ (.bl (if neg then !decide (x = y) else decide (x = y)))
theorem ok_isB : OkR X (fun x y H Q => ∃ a b, x = V.bl a ∧ y = V.bl b ∧ Q (.bl (decide (a = b))) H) (isBK false) := fun B E σ G H x y d1 d2 Φ Q S r1 r2 k q => by
  obtain ⟨u, v, rfl, rfl, f⟩ := k
  cases r1
  cases r2
  exact ⟨u, v, rfl, rfl, q _ _ G H (Grow.rf S.cln) (.bl _) f⟩
theorem ok_notB : OkR X (fun x y H Q => ∃ a b, x = V.bl a ∧ y = V.bl b ∧ Q (.bl (!decide (a = b))) H) (isBK true) := fun B E σ G H x y d1 d2 Φ Q S r1 r2 k q => by
  obtain ⟨u, v, rfl, rfl, f⟩ := k
  cases r1
  cases r2
  exact ⟨u, v, rfl, rfl, q _ _ G H (Grow.rf S.cln) (.bl _) f⟩
theorem dw_isB (h : DW X B E a fun d1 => DW X B E b fun d2 => isBK false d1 d2 Φ) : DW X B E (.Compare a [.Is] [b] pos) Φ := dw_cmp op_is_bl ok_isB (nomark b) h
theorem dt_notB {Ψ : Bool → Prop} (h : DW X B E a fun d1 => DW X B E b fun d2 => isBK true d1 d2 fun d => ∃ z, d = .bl z ∧ Ψ z) : DT X B E (.Compare a [.IsNot] [b] pos) Ψ := dt_cmp op_isnot_bl ok_notB (nomark b) h
end
theorem walk_at {J : Dt → Lot → Bool} : ∀ (ws : List Dt) (i : Nat) (stk op op' : List Lot) (j : Int), walk J i ws stk op = (op', some j) → 0 ≤ j ∧ j ≤ (i : Int) + ws.length
  | [], i, stk, op, op', j, h => by
    have h : (op, if stk.isEmpty then none else some (i : Int)) = (op', some j) := h
    injection h with h1 h2
    split at h2
    · cases h2
    · cases h2; simp only [List.length_nil]; omega
  | w :: ws, i, [], op, op', j, h => by
    have h : (op, some (i : Int)) = (op', some j) := h
    injection h with h1 h2
    cases h2
    omega
  | w :: ws, i, l :: r, op, op', j, h => by
    rw [walk_cons] at h
    rw [List.length_cons]
    split at h
    · split at h
      · have := walk_at ws _ _ _ _ _ h; omega
      · have := walk_at ws _ _ _ _ _ h; omega
    · injection h with h1 h2
      cases h2
      omega
/-- a fault's text is short -/
theorem wfault_rs {k0 : Kd} {lot : Lot} {st : List (Int × Itm)} {k : Kd} {v : List Int} {reach : Int} {sv : Sie} {vp : VP} (h : VpOk vp) : RpS 1000000 150 (fltD (wfault k0 lot st k v reach sv vp)) ∧ ∀ x, fltD (wfault k0 lot st k v reach sv vp) ≠ .str x := by
  have mk : ∀ (x : Str) (i : Int), okS x = true → -1 ≤ i ∧ i ≤ 1000 → RpS 1000000 150 (fltD (some (x, i))) := fun x i h1 h2 => (rs_tup (ra_cons (rs_str h1) (ra_cons (rs_int (by omega)) ra_nil))).mono (by decide) (by decide)
  have nn : RpS 1000000 150 (fltD none) := rs_non.mono (Nat.zero_le _) (Nat.zero_le _)
  refine ⟨?_, fun x e => ?_⟩
  · cases vp with
    | non => exact mk "kind" 0 (by decide +kernel) (by decide)
    | tup l => exact mk "kind" 0 (by decide +kernel) (by decide)
    | pap a s =>
      show RpS 1000000 150 (fltD (if k0 = k then wfIn lot st k v reach sv a s else some ("kind", 0)))
      by_cases hk : k0 = k
      · rw [if_pos hk]
        cases a with
        | none => exact mk "answer" 0 (by decide +kernel) (by decide)
        | some ps =>
          show RpS 1000000 150 (fltD (if formB ps then wfOut ps reach (lookP k v sv (some reach) lot st s) else some ("answer", 0)))
          by_cases hb : formB ps = true
          · rw [if_pos hb]
            have out : ∀ o : Int ⊕ List (Int × Int), (∀ i, o = .inl i → -1 ≤ i ∧ i ≤ 1000) → RpS 1000000 150 (fltD (wfOut ps reach o)) := fun o ho => by
              cases o with
              | inl i => exact mk "step" i (by decide +kernel) (ho i rfl)
              | inr qs =>
                simp only [wfOut]
                split
                · exact nn
                · exact mk "answer" 1 (by decide +kernel) (by decide)
            refine out _ fun i hi => ?_
            cases s with
            | tup l =>
              unfold lookP at hi
              have hl := (h.2 l rfl).1
              cases hw : walk (fun d l => isStepD d k v sv (some reach) l) 0 l [lot] [] with
              | mk op o =>
                simp only [hw] at hi
                cases o with
                | none => cases hi
                | some j =>
                  have hi : (Sum.inl j : Int ⊕ List (Int × Int)) = .inl i := hi
                  have e : j = i := by injection hi
                  have := walk_at l 0 [lot] [] op j hw
                  omega
            | _ => cases hi; omega
          · rw [if_neg hb]; exact mk "answer" 0 (by decide +kernel) (by decide)
      · rw [if_neg hk]; exact mk "kind" 0 (by decide +kernel) (by decide)
  · cases hw : wfault k0 lot st k v reach sv vp with
    | none => rw [hw] at e; cases e
    | some q => rw [hw] at e; obtain ⟨x1, i⟩ := q; cases e
end N
set_option Elab.async false
set_option linter.all false
set_option maxRecDepth 100000
set_option maxHeartbeats 1000000
namespace N
open PySem
open PySem.Spec
open PyProof.Rows
open L2
/-! R21: _law_within_right. -/
section
variable {P : Program} {w : World} {K : PySem.W.Frag} {mg : Str → Option Value} {base : Heap} {T : List (Addr × Str)} {g C : Addr} {fd : FuncData}
/-- a value that may be judged -/
structure VC (vp : VP) : Prop where
  ok : VpOk vp
  lf : ∀ a s, vp = .pap a s → (∀ ps, a = some ps → ps.length ≤ 1000) ∧ ∀ l, s = .tup l → ∀ d ∈ l, okP d
theorem VC.pap {a : Option (List (Int × Int))} {l : List Dt} (ha : ∀ ps, a = some ps → ps.length ≤ 1000) (hl : l.length ≤ 300) (hg : StGs l) : VC (.pap a (.tup l)) :=
  ⟨⟨rfl, fun l2 e => by cases e; exact ⟨by omega, fun d hd => (hg d hd).1⟩⟩, fun a2 s e => by cases e; exact ⟨ha, fun l2 e => by cases e; exact fun d hd => (hg d hd).2⟩⟩
def f_wright (p : Addr) : FT := fun ds Φ => ∃ (st : List (Int × Itm)) (k : Kd) (form : Str) (lot : Lot) (v : List Int) (asked : Int) (sv : Sie) (ks : List Int) (m : Nat) (ns : List Str) (reach : Int), ds = [.raw (.ref p), stD st, ixD k form lot 400, qD k v asked sv, .int reach] ∧ WorldOk st k form lot v asked sv ks m ns ∧ Φ (.bl true)
theorem ok_law_within_right (bi : BI mg) (hrep : mg "repr" = none) (pf : PapF K mg) (xf : IxF K) (mp : MkC P w K mg base 1 "Paper" 2 fsPap) (p q : Addr) (CP : CPick P w K mg base T p q)
    (C_pr : Cal P w K mg base 4 "_law_pairs" p__law_pairs (spP K T (f_law_pairs 2))) (C_le : Cal P w K mg base 9 "_law_least" p__law_least (spP K T (f_law_least 2))) (C_so : Cal P w K mg base 9 "_law_some_steps" p__law_some_steps (spD K (HpM p q) (HpI p q) T (f_some_steps p 2)))
    (C_sp : Cal P w K mg base 3 "_law_spoilt" p__law_spoilt (spD K (HpM p q) (HpI p q) T (f_spoilt p))) (C_wp : Cal P w K mg base 12 "within_paper" p_within_paper (spP K T (f_within_paper 2))) (C_wpk : CalK P w K mg base 12 "within_paper" p_within_paper (spP K T (f_within_paper 2)))
    (C_wf : Cal P w K mg base 12 "within_fault" p_within_fault (spP K T (f_within_fault 2))) (C_wfk : CalK P w K mg base 12 "within_fault" p_within_fault (spP K T (f_within_fault 2))) (C_lf : Cal P w K mg base 10 "_law_fault" p__law_fault (spP K T (f_law_fault 2)))
    (C_iw : Cal P w K mg base 13 "is_within_paper" p_is_within_paper (spP K T (f_is_within_paper 2))) (C_iwk : CalK P w K mg base 13 "is_within_paper" p_is_within_paper (spP K T (f_is_within_paper 2)))
    (F : FnT K "_law_within_right" s__law_within_right g fd) : FnG P w K mg base 14 g fd p__law_within_right (spD K (HpM p q) (HpI p q) T (f_wright p)) := by
  refine fn_okG (k := 13) (hpBd p q) F sc__law_within_right (fun ds Φ h => ?_) (by decide) (fun cdv A outer s H XE B ds Φ hM hHI hT hr hgd hf => ?_)
  · obtain ⟨_, _, _, _, _, _, _, _, _, _, _, rfl, _⟩ := h; rfl
  obtain ⟨st, k, form, lot, v, asked, sv, ks, m, ns, reach, rfl, W, hf⟩ := hf
  subst hT
  obtain ⟨hst, hL, hv, hvl, hvn, hkk, hks, hlot, hkeys⟩ := W.facts
  have hcnt : lot.cnt ≤ 36 := W.ct
  have hdp : sv.depth ≤ 2 := W.dp
  have hgood := W.good
  have hkl : (allP st k v sv ks).length ≤ 9 := by
    have h1 := pairs_len st k v sv ks
    have h2 := W.hp.length_eq
    rw [List.length_map] at h2
    have := W.sl
    omega
  have hu := hr.units
  have hu2 : (A.deeper (envOfC "_law_within_right" (defScope s__law_within_right) s.heap.objs.size g cdv)).units + 190 < cLine := by have := hr.un; omega
  have hdueg : GoodP (dueR st k v sv ks reach) := hgood.sub List.filter_sublist
  have hduel : (dueR st k v sv ks reach).length ≤ 9 := Nat.le_trans (List.length_filter_le _ _) hkl
  refine dl_cons (ds_asg (dg_tup (n := 4) rfl (dgs_cons (dg_v sc__law_within_right.nd) (dgs_cons (dg_v sc__law_within_right.nd) (dgs_cons (dg_v sc__law_within_right.nd) (dgs_cons (dg_v sc__law_within_right.nd) (dgs_nil)))))) (dw_v rfl (⟨rfl, rfl, ?_⟩)))
  refine dl_E (E' := [.dt (.raw (.ref p)), .dt (stD st), .dt (ixD k form lot 400), .dt (qD k v asked sv), .dt (.int reach), .dt (.str (kS k)), .dt (vecD v), .dt (.int asked), .dt (sieD sv), .un, .un, .un, .un, .un, .un, .un, .un, .un]) rfl ?_
  refine dl_cons (ds_s sc__law_within_right.nd (dw_tuple bi.tuple (da_cons (dw_n (dn_l [("_law_pair", 10)] sc__law_within_right.nd (show BlkOk n__law_within_right (defScope s__law_within_right) _ _ from ⟨rfl, by decide +kernel, by decide +kernel, by decide +kernel, by decide +kernel⟩) (lcE (α := Int × Int) [("_law_pair", 10)] (fun _ _ _ _ _ _ _ => dg_name 10 sc__law_within_right.nd) (by decide) (di_lst (dw_calP C_pr ‹Room _ _› (by omega) (da_cons (dw_v rfl (da_cons (dw_v rfl (da_cons (dw_v rfl (da_cons (dw_v rfl (da_cons (dw_n (dn_listD bi.list (da_cons (dw_v rfl (da_nil ⟨_, rfl, ?ll, da_nil ⟨st, k, v, sv, st.map (·.1), m, ?lq, hdp, hst, hL, hks, hv, hvl, hvn, ⟨_, rfl, allP st k v sv ks, prT, fun q => decide (q.1 ≤ reach), prT, ?lall, ?tdue, ?fdue⟩⟩⟩))))))))))))))))))))))
  case ll => rw [List.length_map]; have := W.sl; omega
  case lq => rw [List.map_map, List.map_map]; rfl
  case lall => rw [W.all]
  case tdue =>
    intro gl ow x hx
    exact fun s H C cl fp => dq_one (dt_le (dw_at (dw_v rfl (dw_int ⟨_, rfl, dw_v rfl ⟨_, rfl, rfl, fun _ s H C cl fp => dw_v rfl rfl⟩⟩))))
  case fdue =>
    refine da_nil (.inl ⟨_, rfl, ?_⟩)
    show DL _ _ _ _ _
    refine dl_E (E' := [.dt (.raw (.ref p)), .dt (stD st), .dt (ixD k form lot 400), .dt (qD k v asked sv), .dt (.int reach), .dt (.str (kS k)), .dt (vecD v), .dt (.int asked), .dt (sieD sv), .dt (.tup (prsD (dueR st k v sv ks reach))), .un, .un, .un, .un, .un, .un, .un, .un]) rfl ?_
    generalize hdue : dueR st k v sv ks reach = due at *
    refine dl_cons (ds_par (hN := sc__law_within_right.nd) (ixS n__law_within_right "_law_least_here") (ixS n__law_within_right "_law_some") (da_cons (dw_calP C_le ‹Room _ _› (by omega) (da_cons (dw_fld (ds := []) xf.cl xf.ln (dw_v rfl ⟨_, lotD lot, rfl, rfl, da_cons (dw_v rfl (da_cons (dw_v rfl (da_nil ⟨lot, st, k, v, asked, sv, some reach, rfl, hlot, by omega, hv, hdp, da_cons (dw_cal C_so (cmS hM hHI) ‹Room _ _› (by omega) (da_cons (dw_v rfl (da_cons (dw_fld (ds := []) xf.cl xf.ln (dw_v rfl ⟨_, lotD lot, rfl, rfl, da_cons (dw_v rfl (da_cons (dw_v rfl (da_nil ⟨lot, st, k, v, asked, sv, some reach, rfl, hlot, by omega, hv, hdp, fun ws op hwl hww => da_nil ⟨_, _, rfl, ?s2⟩⟩))))⟩))))))⟩))))⟩))))))
    have hws : ∀ x ∈ ws, x ∈ stepWs := fun x hx => by
      obtain ⟨l, hl⟩ := walk_words _ _ _ _ _ hww (.str x) (List.mem_map_of_mem hx)
      obtain ⟨y, hy, hm⟩ := isStepD_word hl
      cases hy
      exact hm
    have hwg : StGs (ws.map .str) := fun d hd => by
      obtain ⟨x, hx, rfl⟩ := List.mem_map.mp hd
      exact str_ok (hws x hx)
    have hwl := walk_leastS k v sv (some reach) lot (by omega)
    have hls : ∀ x ∈ leastS k v sv (some reach) lot, x ∈ stepWs := fun x hx => by
      obtain ⟨l, hl⟩ := walk_words _ _ _ _ _ hwl (.str x) (List.mem_map_of_mem hx)
      obtain ⟨y, hy, hm⟩ := isStepD_word hl
      cases hy
      exact hm
    have hlg : StGs ((leastS k v sv (some reach) lot).map .str) := fun d hd => by
      obtain ⟨x, hx, rfl⟩ := List.mem_map.mp hd
      exact str_ok (hls x hx)
    have hll : (leastS k v sv (some reach) lot).length ≤ 99 := by
      unfold leastS
      rw [least_fuel _ 1000 99 [lot] (by rw [cntL, cntL]; omega) (by rw [cntL, cntL]; omega)]
      exact least_len _ _ _
    have hok : wfault k lot st k v reach sv (.pap (some due) (.tup (ws.map .str))) = none := by
      rw [← hdue]; exact within_ok W.lt hkeys hgood hww
    have hokl : wfault k lot st k v reach sv (.pap (some due) (wdsD (leastS k v sv (some reach) lot))) = none := by
      rw [← hdue]; exact within_ok W.lt hkeys hgood hwl
    have hqs : ∀ qs : List (Int × Int), qs.Perm (foundOf st k v sv (openS k v sv (some reach) lot)) → qs.Pairwise leP → qs.filter (fun q => decide (q.1 ≤ reach)) = due := fun qs hp hs => by
      rw [sortP_eq hp hs, ← hdue]
      exact due_walk (s := sv) (reach := some reach) W.lt hkeys hwl
    generalize hlst : leastS k v sv (some reach) lot = lst at *
    refine dl_E (E' := [.dt (.raw (.ref p)), .dt (stD st), .dt (ixD k form lot 400), .dt (qD k v asked sv), .dt (.int reach), .dt (.str (kS k)), .dt (vecD v), .dt (.int asked), .dt (sieD sv), .dt (.tup (prsD due)), .un, .dt (wdsD lst), .dt (wdsD ws), .un, .un, .un, .un, .un]) rfl ?_
    refine dl_cons (ds_s sc__law_within_right.nd (dw_calP C_wp ‹Room _ _› (by omega) (da_cons (dw_v rfl (da_cons (dw_v rfl (da_cons (dw_v rfl (da_cons (dw_v rfl (da_cons (dw_v rfl (da_cons (dw_v rfl (da_nil ⟨k, form, lot, 400, st, k, v, reach, sv, rfl, hlot, by omega, hst, hv, hdp, fun qs hp hs => ?s3⟩)))))))))))))))
    rw [hqs qs hp hs, hlst]
    refine dl_E (E' := [.dt (.raw (.ref p)), .dt (stD st), .dt (ixD k form lot 400), .dt (qD k v asked sv), .dt (.int reach), .dt (.str (kS k)), .dt (vecD v), .dt (.int asked), .dt (sieD sv), .dt (.tup (prsD due)), .un, .dt (wdsD lst), .dt (wdsD ws), .dt (papD (.tup (prsD due)) (wdsD lst)), .un, .un, .un, .un]) rfl ?_
    have hrs : RpS 1000000 150 (.tup [.tup (prsD due), wdsD lst]) := (rs_tup (ra_cons ((rs_prs hdueg).mono (by omega : due.length * 3 ≤ 1000) (Nat.le_refl 2)) (ra_cons ((rs_words hls).mono (by omega : lst.length * 21 ≤ 3000) (by decide : 1 ≤ 2)) ra_nil))).mono (by decide) (by decide)
    refine dl_cons (ds_if (dt_w (dtw_or (dt_not (dt_val (dw_isC pf.is bi.isinstance (da_cons (dw_v rfl (da_cons (dw_glob (v := .ref (He.ga K "Paper")) rfl pf.mg rfl (da_nil ⟨_, true, rfl, rfl, true, rfl, ifB_f (dtw_or1 (dt_ne (dw_repr hgd hu2 hrep (da_cons (dw_tup (da_cons (dw_fld (ds := []) pf.cl pf.an (dw_v rfl ⟨_, _, rfl, rfl, da_cons (dw_fld (ds := []) pf.cl pf.sn (dw_v rfl ⟨_, _, rfl, rfl, da_nil ⟨szl, da_nil ⟨_, rfl, hrs, (fun x e => by cases e), dw_repr hgd hu2 hrep (da_cons (dw_tup (da_cons (dw_v rfl (da_cons (dw_v rfl (da_nil ⟨szl, da_nil ⟨_, rfl, hrs, (fun x e => by cases e), _, rfl, ifB_n (fun h => (h rfl).elim) (fun _ => dl_nil ?s4)⟩⟩)))))))⟩⟩⟩))⟩))))))))⟩)))))))))))
    refine dl_cons (ds_if (dt_neD hu (dw_fld (ds := []) pf.cl pf.an (dw_callK C_wpk Cmp.pure (hr.mono (by omega)) (dw_v rfl (dw_v rfl (dw_v rfl (dw_v rfl (dw_v rfl (dw_v rfl ⟨rfl, k, form, lot, 400, st, k, v, reach, sv, rfl, hlot, by omega, hst, hv, hdp, fun qs hp hs => ?s5⟩))))))))))
    rw [hqs qs hp hs]
    refine ⟨_, _, rfl, rfl, dw_v rfl ⟨okP_prs _, okP_prs _, _, rfl, ?_⟩⟩
    show ifB (!PyData.eqv (pln (.tup (prsD due))) (pln (.tup (prsD due)))) _ _
    rw [eqv_prs]
    refine ifB_n (fun h => (h rfl).elim) (fun _ => dl_nil ?_)
    refine dl_cons (ds_setN (hN := sc__law_within_right.nd) 14 (dn_lst (da_cons (dw_non (da_cons (dw_v rfl (da_cons (dw_mk mp fs_pap ‹Room _ _› (by omega) (da_cons (dw_non (da_cons (dw_v rfl (da_nil ⟨rfl, da_cons (dw_mk mp fs_pap ‹Room _ _› (by omega) (da_cons (dw_v rfl (da_cons (dw_non (da_nil ⟨rfl, da_cons (dw_mk mp fs_pap ‹Room _ _› (by omega) (da_cons (dw_slT (dw_v rfl ⟨_, rfl, do_some (dw_int ⟨_, rfl, do_none (da_cons (dw_v rfl (da_nil ⟨rfl, da_cons (dw_mk mp fs_pap ‹Room _ _› (by omega) (da_cons (dw_revT (dw_v rfl ⟨_, rfl, da_cons (dw_v rfl (da_nil ⟨rfl, da_nil ⟨szl, fun l1 => ?s6⟩⟩))⟩))))⟩)))⟩)⟩))))⟩))))))⟩)))))))))))))
    have hodd : ([.non, .tup (prsD due), papD .non (wdsD ws), papD (.tup (prsD due)) .non, papD (.tup (cutD (prsD due) (some 1) none)) (wdsD ws), papD (.tup (prsD due).reverse) (wdsD ws)] : List Dt) = ([.non, .tup due, .pap none (wdsD ws), .pap (some due) .non, .pap (some (cutD due (some 1) none)) (wdsD ws), .pap (some due.reverse) (wdsD ws)] : List VP).map vpD := by
      rw [show cutD (prsD due) (some 1) none = prsD (cutD due (some 1) none) from cutD_map prT due _ _, show (prsD due).reverse = prsD due.reverse from (List.map_reverse ..).symm]
      rfl
    refine dl_E (E' := [.dt (.raw (.ref p)), .dt (stD st), .dt (ixD k form lot 400), .dt (qD k v asked sv), .dt (.int reach), .dt (.str (kS k)), .dt (vecD v), .dt (.int asked), .dt (sieD sv), .dt (.tup (prsD due)), .un, .dt (wdsD lst), .dt (wdsD ws), .dt (papD (.tup (prsD due)) (wdsD lst)), .own l1 [.non, .tup (prsD due), papD .non (wdsD ws), papD (.tup (prsD due)) .non, papD (.tup (cutD (prsD due) (some 1) none)) (wdsD ws), papD (.tup (prsD due).reverse) (wdsD ws)], .un, .un, .un]) rfl ?_
    rw [hodd]
    refine dl_cons (ds_append 14 rfl (dw_mk mp fs_pap ‹Room _ _› (by omega) (da_cons (dw_add (dw_v rfl (dw_tup (da_cons (dw_tup (da_cons (dw_addI (dw_v rfl (dw_int (da_cons (dw_pow (dw_int (dw_int ⟨⟨by decide, by decide, by decide⟩, da_nil ⟨szl, da_nil ⟨szl, ?z1, da_cons (dw_v rfl (da_nil ⟨rfl, szl, ?s7⟩))⟩⟩⟩))))))))))))))))
    case z1 => exact sl_le (m := 100) (by rw [List.length_map, List.length_singleton]; omega)
    obtain ⟨odd, hoddE, hoddC⟩ : ∃ odd : List VP, ([.non, .tup due, .pap none (wdsD ws), .pap (some due) .non, .pap (some (cutD due (some 1) none)) (wdsD ws), .pap (some due.reverse) (wdsD ws)] : List VP).map vpD ++ [papD (.tup (prsD due ++ [.tup [.int (reach + 1), .int (10 ^ (9 : Int).toNat)]])) (wdsD ws)] = odd.map vpD ∧ odd ≠ [] ∧ odd.length ≤ 100 ∧ ∀ vp ∈ odd, VC vp := by
      refine ⟨[.non, .tup due, .pap none (wdsD ws), .pap (some due) .non, .pap (some (cutD due (some 1) none)) (wdsD ws), .pap (some due.reverse) (wdsD ws), .pap (some (due ++ [(reach + 1, 10 ^ (9 : Int).toNat)])) (wdsD ws)], ?_, by simp, by simp, fun vp hvp => ?_⟩
      · have : prsD due ++ [.tup [.int (reach + 1), .int (10 ^ (9 : Int).toNat)]] = prsD (due ++ [(reach + 1, 10 ^ (9 : Int).toNat)]) := by unfold prsD; rw [List.map_append]; rfl
        rw [this]; rfl
      · have hwl3 : (ws.map Dt.str).length ≤ 300 := by rw [List.length_map]; omega
        have hc := cutD_len due (some 1) none
        simp only [List.mem_cons, List.not_mem_nil, or_false] at hvp
        rcases hvp with rfl | rfl | rfl | rfl | rfl | rfl | rfl
        · exact ⟨trivial, fun a s e => by cases e⟩
        · exact ⟨trivial, fun a s e => by cases e⟩
        · exact VC.pap (fun ps e => by cases e) hwl3 hwg
        · exact ⟨⟨rfl, fun l e => by cases e⟩, fun a s e => by cases e; exact ⟨fun ps e => by cases e; omega, fun l e => by cases e⟩⟩
        · exact VC.pap (fun ps e => by cases e; omega) hwl3 hwg
        · exact VC.pap (fun ps e => by cases e; rw [List.length_reverse]; omega) hwl3 hwg
        · exact VC.pap (fun ps e => by cases e; rw [List.length_append, List.length_singleton]; omega) hwl3 hwg
    refine dl_freeze 14 rfl (dl_E (E' := [.dt (.raw (.ref p)), .dt (stD st), .dt (ixD k form lot 400), .dt (qD k v asked sv), .dt (.int reach), .dt (.str (kS k)), .dt (vecD v), .dt (.int asked), .dt (sieD sv), .dt (.tup (prsD due)), .un, .dt (wdsD lst), .dt (wdsD ws), .dt (papD (.tup (prsD due)) (wdsD lst)), .dt (.lst (odd.map vpD)), .un, .un, .un]) ?ev ?_)
    case ev => rw [← hoddE]; rfl
    have hwl3 : (ws.map Dt.str).length ≤ 300 := by rw [List.length_map]; omega
    have hll3 : (lst.map Dt.str).length ≤ 300 := by rw [List.length_map]; omega
    have hdl1 : ∀ ps, some due = some ps → ps.length ≤ 1000 := fun ps e => by cases e; omega
    have hVl : VC (.pap (some due) (wdsD lst)) := VC.pap hdl1 hll3 hlg
    have hVw : VC (.pap (some due) (wdsD ws)) := VC.pap hdl1 hwl3 hwg
    refine dl_cons (ds_if (dt_notN (dw_callK C_wfk Cmp.pure (hr.mono (by omega)) (dw_v rfl (dw_v rfl (dw_v rfl (dw_v rfl (dw_v rfl (dw_v rfl (dw_v rfl ⟨rfl, k, form, lot, 400, st, k, v, reach, sv, .pap (some due) (wdsD lst), rfl, hlot, by omega, hst, hv, hdp, hVl.ok, dw_non ⟨rfl, noRaw_flt _, _, rfl, ?s8⟩⟩))))))))))
    show ifB (!isN (fltD (wfault k lot st k v reach sv (.pap (some due) (wdsD lst))))) _ _
    rw [hokl]
    refine ifB_f (dl_nil ?_)
    have hwne : ws.map Dt.str ≠ [] := fun e => by
      rw [e] at hww
      injection hww with h1 h2
      cases h2
    have hlne : lst.map Dt.str ≠ [] := fun e => by
      rw [e] at hwl
      injection hwl with h1 h2
      cases h2
    refine dl_cons (ds_s sc__law_within_right.nd (dw_n (dn_lst (da_cons (dw_mk mp fs_pap ‹Room _ _› (by omega) (da_cons (dw_v rfl (da_cons (dw_v rfl (da_nil ⟨rfl, da_cons (dw_mk mp fs_pap ‹Room _ _› (by omega) (da_cons (dw_v rfl (da_cons (dw_cal C_sp (cmS hM hHI) ‹Room _ _› (by omega) (da_cons (dw_v rfl (da_cons (dw_v rfl (da_nil ⟨_, rfl, hwne, by rw [List.length_map]; omega, hwg, fun l1 hl1 hg1 => da_nil ⟨rfl, da_cons (dw_mk mp fs_pap ‹Room _ _› (by omega) (da_cons (dw_v rfl (da_cons (dw_cal C_sp (cmS hM hHI) ‹Room _ _› (by omega) (da_cons (dw_v rfl (da_cons (dw_v rfl (da_nil ⟨_, rfl, hlne, by rw [List.length_map]; omega, hlg, fun l2 hl2 hg2 => da_nil ⟨rfl, da_cons (dw_cal CP (cmS hM hHI) ‹Room _ _› (by omega) (da_cons (dw_v rfl (da_cons (dw_v rfl (da_nil ⟨_, rfl, ?pn, ?pl, fun d hd => da_nil ⟨szl, ?s9⟩⟩))))))⟩⟩))))))))))⟩⟩))))))))))⟩))))))))))
    case pn => simpa using hoddC.1
    case pl => rw [List.length_map]; have := hoddC.2.1; omega
    obtain ⟨vp4, hvp4, rfl⟩ := List.mem_map.mp hd
    obtain ⟨vps, hvE, hvC⟩ : ∃ vps : List VP, ([papD (.tup (prsD due)) (wdsD ws), papD (.tup (prsD due)) (.tup l1), papD (.tup (prsD due)) (.tup l2), vpD vp4] : List Dt) = vps.map vpD ∧ ∀ vp ∈ vps, VC vp := by
      refine ⟨[.pap (some due) (wdsD ws), .pap (some due) (.tup l1), .pap (some due) (.tup l2), vp4], rfl, fun vp hvp => ?_⟩
      simp only [List.mem_cons, List.not_mem_nil, or_false] at hvp
      rcases hvp with rfl | rfl | rfl | rfl
      · exact hVw
      · exact VC.pap hdl1 hl1 hg1
      · exact VC.pap hdl1 hl2 hg2
      · exact hoddC.2.2 _ hvp4
    refine dl_E (E' := [.dt (.raw (.ref p)), .dt (stD st), .dt (ixD k form lot 400), .dt (qD k v asked sv), .dt (.int reach), .dt (.str (kS k)), .dt (vecD v), .dt (.int asked), .dt (sieD sv), .dt (.tup (prsD due)), .un, .dt (wdsD lst), .dt (wdsD ws), .dt (papD (.tup (prsD due)) (wdsD lst)), .dt (.lst (odd.map vpD)), .dt (.lst (vps.map vpD)), .un, .un]) (by rw [← hvE]; rfl) ?_
    clear hvE hoddE
    refine dl_cons (ds_for PassesOwn.never (fun _ _ => dg_v sc__law_within_right.nd) (di_lst (dw_v rfl ⟨_, rfl, fun i E' => ∃ s13 s16 s17 : Sl, E' = [.dt (.raw (.ref p)), .dt (stD st), .dt (ixD k form lot 400), .dt (qD k v asked sv), .dt (.int reach), .dt (.str (kS k)), .dt (vecD v), .dt (.int asked), .dt (sieD sv), .dt (.tup (prsD due)), .un, .dt (wdsD lst), .dt (wdsD ws), s13, .dt (.lst (odd.map vpD)), .dt (.lst (vps.map vpD)), s16, s17], ⟨_, _, _, rfl⟩, ?jt, ?je⟩)))
    case je =>
      rintro E' ⟨s13, s16, s17, rfl⟩
      refine dl_cons (ds_ret (dw_isB (dw_calP C_iw ‹Room _ _› (by omega) (da_cons (dw_v rfl (da_cons (dw_v rfl (da_cons (dw_v rfl (da_cons (dw_v rfl (da_cons (dw_v rfl (da_cons (dw_v rfl (da_cons (dw_mk mp fs_pap ‹Room _ _› (by omega) (da_cons (dw_v rfl (da_cons (dw_v rfl (da_nil ⟨rfl, da_nil ⟨k, form, lot, 400, st, k, v, reach, sv, .pap (some due) (wdsD ws), rfl, hlot, by omega, hst, hv, hdp, hVw.ok, dw_bl ⟨_, _, rfl, rfl, ?fin⟩⟩⟩))))))))))))))))))))))
      have hok2 : wfault k lot st k v reach sv (.pap (some due) (wdsD ws)) = none := hok
      show Φ (.bl (decide ((wfault k lot st k v reach sv (.pap (some due) (wdsD ws))).isNone = true)))
      rw [hok2]
      exact hf
    case jt =>
      rintro gl i d E' hd ⟨s13, s16, s17, rfl⟩
      rw [List.getElem?_map] at hd
      cases hx : vps[i]? with
      | none => rw [hx] at hd; cases hd
      | some vp =>
        rw [hx] at hd
        cases hd
        have hC := hvC vp (List.mem_of_getElem? hx)
        obtain ⟨hR1, hR2⟩ := wfault_rs (k0 := k) (lot := lot) (st := st) (k := k) (v := v) (reach := reach) (sv := sv) hC.ok
        have hend : wfault k lot st k v reach sv vp = none → ∃ s, vp = .pap (some due) s := fun h => by
          cases vp with
          | non => cases h
          | tup l => cases h
          | pap a s =>
            cases a with
            | none =>
              have h : (if k = k then (some ("answer", 0) : Option (Str × Int)) else some ("kind", 0)) = none := h
              rw [if_pos rfl] at h
              cases h
            | some ps => rw [within_due W.lt hkeys h, hdue]; exact ⟨s, rfl⟩
        generalize hwf : wfault k lot st k v reach sv vp = wf at *
        refine dl_cons (ds_s sc__law_within_right.nd (dw_calP C_lf ‹Room _ _› (by omega) (da_cons (dw_v rfl (da_cons (dw_v rfl (da_cons (dw_v rfl (da_cons (dw_v rfl (da_cons (dw_v rfl (da_nil ⟨k, form, lot, 400, st, k, v, asked, sv, reach, vp, m, rfl, hlot, by omega, hst, hL, hv, hvl, hvn, hdp, hC.ok, hC.lf, ?t1⟩)))))))))))))
        rw [hwf]
        refine dl_E (E' := [.dt (.raw (.ref p)), .dt (stD st), .dt (ixD k form lot 400), .dt (qD k v asked sv), .dt (.int reach), .dt (.str (kS k)), .dt (vecD v), .dt (.int asked), .dt (sieD sv), .dt (.tup (prsD due)), .un, .dt (wdsD lst), .dt (wdsD ws), s13, .dt (.lst (odd.map vpD)), .dt (.lst (vps.map vpD)), .dt (vpD vp), .dt (fltD wf)]) rfl ?_
        refine dl_cons (ds_if (dt_ne (dw_repr hgd hu2 hrep (da_cons (dw_calP C_wf ‹Room _ _› (by omega) (da_cons (dw_v rfl (da_cons (dw_v rfl (da_cons (dw_v rfl (da_cons (dw_v rfl (da_cons (dw_v rfl (da_cons (dw_v rfl (da_cons (dw_v rfl (da_nil ⟨k, form, lot, 400, st, k, v, reach, sv, vp, rfl, hlot, by omega, hst, hv, hdp, hC.ok, ?t2⟩))))))))))))))))))))
        rw [hwf]
        refine da_nil ⟨_, rfl, hR1, hR2, dw_repr hgd hu2 hrep (da_cons (dw_v rfl (da_nil ⟨_, rfl, hR1, hR2, _, rfl, ifB_n (fun h => (h rfl).elim) (fun _ => dl_nil ?t3)⟩)))⟩
        refine dl_cons (ds_s sc__law_within_right.nd (dw_callK C_iwk Cmp.pure (hr.mono (by omega)) (dw_v rfl (dw_v rfl (dw_v rfl (dw_v rfl (dw_v rfl (dw_v rfl (dw_v rfl ⟨rfl, k, form, lot, 400, st, k, v, reach, sv, vp, rfl, hlot, by omega, hst, hv, hdp, hC.ok, ?t4⟩)))))))))
        rw [hwf]
        have hrb : ∀ z : Bool, RpS 1000000 150 (.bl z) := fun z => (rs_bl z).mono (Nat.zero_le _) (Nat.zero_le _)
        refine dl_E (E' := [.dt (.raw (.ref p)), .dt (stD st), .dt (ixD k form lot 400), .dt (qD k v asked sv), .dt (.int reach), .dt (.str (kS k)), .dt (vecD v), .dt (.int asked), .dt (sieD sv), .dt (.tup (prsD due)), .un, .dt (wdsD lst), .dt (wdsD ws), .dt (.bl wf.isNone), .dt (.lst (odd.map vpD)), .dt (.lst (vps.map vpD)), .dt (vpD vp), .dt (fltD wf)]) rfl ?_
        refine dl_cons (ds_if (dt_ne (dw_repr hgd hu2 hrep (da_cons (dw_v rfl (da_nil ⟨_, rfl, hrb _, (fun x e => by cases e), dw_repr hgd hu2 hrep (da_cons (dw_isN (dw_v rfl (dw_non ⟨rfl, noRaw_flt _, da_nil ⟨_, rfl, hrb _, (fun x e => by cases e), _, rfl, ifB_n (fun h => (h ?eqn).elim) (fun _ => dl_nil ?t5)⟩⟩))))⟩))))))
        case eqn =>
          show (plr (.bl wf.isNone)).shown = (plr (.bl (isN (fltD wf)))).shown
          rw [isN_flt]
        refine dl_one (ds_if (dt_w (dtw_and (dt_isN (dw_v rfl (dw_non ⟨rfl, noRaw_flt _, _, rfl, ?t6⟩))))))
        show ifB (isN (fltD wf)) _ _
        rw [isN_flt]
        cases wf with
        | some z => exact ifB_f (ifB_f (dl_nil ⟨_, _, _, rfl⟩))
        | none =>
          obtain ⟨s, rfl⟩ := hend rfl
          refine ifB_t (dtw_and1 (dt_neD hu (dw_fld (ds := []) pf.cl pf.an (dw_v rfl ⟨_, .tup (prsD due), rfl, rfl, dw_v rfl ⟨okP_prs _, okP_prs _, _, rfl, ?t7⟩⟩))))
          show ifB (!PyData.eqv (pln (.tup (prsD due))) (pln (.tup (prsD due)))) _ _
          rw [eqv_prs]
          exact ifB_n (fun h => (h rfl).elim) (fun _ => dl_nil ⟨_, _, _, rfl⟩)
end
end N
set_option Elab.async false
set_option linter.all false
set_option maxRecDepth 100000
set_option maxHeartbeats 1000000
namespace N
open PySem
open PySem.Spec
open PyProof.Rows
open L2
/-! R22: _law_fewer_right. -/
theorem eqvA_refl : ∀ ws : List Str, PyData.eqvAll (ws.map .str) (ws.map .str) = true
  | [] => rfl
  | x :: ws => by
    rw [List.map_cons, PyData.eqvAll, eqvA_refl ws]
    simp [PyData.eqv]
theorem pair_eqv (a : List (Int × Int)) (ws : List Str) : PyData.eqv (pln (.tup [.tup (prsD a), wdsD ws])) (pln (.tup [.tup (prsD a), wdsD ws])) = true := by
  have h1 := eqv_prs a a
  rw [decide_eq_true rfl] at h1
  have h2 : PyData.eqv (pln (wdsD ws)) (pln (wdsD ws)) = true := by
    show PyData.eqv (.tuple (plnL (ws.map .str))) (.tuple (plnL (ws.map .str))) = true
    rw [plnL_str, PyData.eqv]
    exact eqvA_refl ws
  show PyData.eqv (.tuple [pln (.tup (prsD a)), pln (wdsD ws)]) (.tuple [pln (.tup (prsD a)), pln (wdsD ws)]) = true
  rw [PyData.eqv, PyData.eqvAll, PyData.eqvAll, PyData.eqvAll, h1, h2]
  rfl
theorem pair_okP (a : List (Int × Int)) {ws : List Str} (h : ∀ x ∈ ws, x ∈ stepWs) : okP (.tup [.tup (prsD a), wdsD ws]) := by
  refine ⟨?_, ?_⟩
  · show (isPL (prsD a) && (isPL (ws.map .str) && true)) = true
    rw [isP_prs, isPL_str]; rfl
  · show SeqAt.shaped (.tuple [.tuple (plnL (prsD a)), .tuple (plnL (ws.map .str))]) = true
    rw [plnL_prs, plnL_str]
    unfold SeqAt.shaped
    have d1 := dep_prs a
    have d2 := dep_str ws
    rw [PyData.canLay0, PyData.canLayAll0, PyData.canLayAll0, PyData.canLayAll0, PyData.canLay0, PyData.canLay0, lay_prs, lay_str ws h, PyData.depth, PyData.depthAll, PyData.depthAll, PyData.depthAll, PyData.depth, PyData.depth, d2, decide_eq_true (by omega)]
    rfl
section
variable {P : Program} {w : World} {K : PySem.W.Frag} {mg : Str → Option Value} {base : Heap} {T : List (Addr × Str)} {g C : Addr} {fd : FuncData}
def f_fright (p : Addr) : FT := fun ds Φ => ∃ (st : List (Int × Itm)) (k : Kd) (form : Str) (lot : Lot) (v : List Int) (asked : Int) (sv : Sie) (ks : List Int) (m : Nat) (ns : List Str), ds = [.raw (.ref p), stD st, ixD k form lot 400, qD k v asked sv] ∧ WorldOk st k form lot v asked sv ks m ns ∧ Φ (.bl true)
theorem ok_law_fewer_right (bi : BI mg) (hrep : mg "repr" = none) (pf : PapF K mg) (xf : IxF K) (mp : MkC P w K mg base 1 "Paper" 2 fsPap) (p q : Addr)
    (C_pr : Cal P w K mg base 4 "_law_pairs" p__law_pairs (spP K T (f_law_pairs 2))) (C_so : Cal P w K mg base 9 "_law_some_steps" p__law_some_steps (spD K (HpM p q) (HpI p q) T (f_some_steps p 2))) (C_fe : Cal P w K mg base 3 "fewer" p_fewer (spP K T f_fewer)) (C_fek : CalK P w K mg base 3 "fewer" p_fewer (spP K T f_fewer))
    (C_ir : Cal P w K mg base 13 "is_right" p_is_right (spP K T (f_is_right 2))) (C_ti : Cal P w K mg base 12 "tied" p_tied (spP K T (f_tied 2))) (C_tik : CalK P w K mg base 12 "tied" p_tied (spP K T (f_tied 2)))
    (C_iw : Cal P w K mg base 13 "is_within_paper" p_is_within_paper (spP K T (f_is_within_paper 2))) (F : FnT K "_law_fewer_right" s__law_fewer_right g fd) : FnG P w K mg base 14 g fd p__law_fewer_right (spD K (HpM p q) (HpI p q) T (f_fright p)) := by
  refine fn_okG (k := 13) (hpBd p q) F sc__law_fewer_right (fun ds Φ h => ?_) (by decide) (fun cdv A outer s H XE B ds Φ hM hHI hT hr hgd hf => ?_)
  · obtain ⟨_, _, _, _, _, _, _, _, _, _, rfl, _⟩ := h; rfl
  obtain ⟨st, k, form, lot, v, asked, sv, ks, m, ns, rfl, W, hf⟩ := hf
  subst hT
  obtain ⟨hst, hL, hv, hvl, hvn, hkk, hks, hlot, hkeys⟩ := W.facts
  obtain ⟨many, hmany⟩ : ∃ many : Nat, asked = (many : Int) := ⟨asked.toNat, by have := W.ak; omega⟩
  subst hmany
  have hm1 : 1 ≤ many := by have := W.ak; omega
  have hcnt : lot.cnt ≤ 36 := W.ct
  have hdp : sv.depth ≤ 2 := W.dp
  have hgood := W.good
  have hkl : (allP st k v sv ks).length ≤ 9 := by
    have h1 := pairs_len st k v sv ks
    have h2 := W.hp.length_eq
    rw [List.length_map] at h2
    have := W.sl
    omega
  have hu := hr.units
  have hu2 : (A.deeper (envOfC "_law_fewer_right" (defScope s__law_fewer_right) s.heap.objs.size g cdv)).units + 190 < cLine := by have := hr.un; omega
  have hall := W.all
  refine dl_cons (ds_asg (dg_tup (n := 4) rfl (dgs_cons (dg_v sc__law_fewer_right.nd) (dgs_cons (dg_v sc__law_fewer_right.nd) (dgs_cons (dg_v sc__law_fewer_right.nd) (dgs_cons (dg_v sc__law_fewer_right.nd) (dgs_nil)))))) (dw_v rfl (⟨rfl, rfl, ?_⟩)))
  refine dl_E (E' := [.dt (.raw (.ref p)), .dt (stD st), .dt (ixD k form lot 400), .dt (qD k v many sv), .dt (.str (kS k)), .dt (vecD v), .dt (.int many), .dt (sieD sv), .un, .un, .un, .un, .un, .un, .un, .un, .un]) rfl ?_
  refine dl_cons (ds_s sc__law_fewer_right.nd (dw_tuple bi.tuple (da_cons (dw_calP C_pr ‹Room _ _› (by omega) (da_cons (dw_v rfl (da_cons (dw_v rfl (da_cons (dw_v rfl (da_cons (dw_v rfl (da_cons (dw_n (dn_listD bi.list (da_cons (dw_v rfl (da_nil ⟨_, rfl, ?ll, da_nil ⟨st, k, v, sv, st.map (·.1), m, ?lq, hdp, hst, hL, hks, hv, hvl, hvn, da_nil (.inl ⟨_, rfl, ?s1⟩)⟩⟩))))))))))))))))))
  case ll => rw [List.length_map]; have := W.sl; omega
  case lq => rw [List.map_map, List.map_map]; rfl
  rw [hall]
  generalize hpr : allP st k v sv ks = pr at *
  refine dl_E (E' := [.dt (.raw (.ref p)), .dt (stD st), .dt (ixD k form lot 400), .dt (qD k v many sv), .dt (.str (kS k)), .dt (vecD v), .dt (.int many), .dt (sieD sv), .dt (.tup (prsD pr)), .un, .un, .un, .un, .un, .un, .un, .un]) rfl ?_
  refine dl_cons (ds_s sc__law_fewer_right.nd (dw_slT (dw_v rfl ⟨_, rfl, do_none (do_some (dw_v rfl ⟨_, rfl, ?s2⟩))⟩)))
  have hcut : cutD (prsD pr) none (some (many : Int)) = prsD (pr.take many) := by rw [show cutD (prsD pr) none (some (many : Int)) = prsD (cutD pr none (some (many : Int))) from cutD_map prT pr _ _, cut_take]
  rw [hcut]
  refine dl_E (E' := [.dt (.raw (.ref p)), .dt (stD st), .dt (ixD k form lot 400), .dt (qD k v many sv), .dt (.str (kS k)), .dt (vecD v), .dt (.int many), .dt (sieD sv), .dt (.tup (prsD pr)), .dt (.tup (prsD (pr.take many))), .un, .un, .un, .un, .un, .un, .un]) rfl ?_
  refine dl_cons (ds_s sc__law_fewer_right.nd (DW.im (Φ' := fun d => d = optD (ansReach (pr.take many) (many : Int))) ?rch fun d hd => ?s3))
  case rch =>
    unfold ansReach
    refine dw_if (dt_eq (dw_len bi.len (da_cons (dw_v rfl (da_nil (.inr (.inl ⟨_, rfl, dw_v rfl ⟨_, rfl, ifB_d (fun h => ?a) (fun h => dw_non ?b)⟩⟩)))))))
    case a =>
      rw [List.length_map] at h
      rw [if_pos h]
      obtain ⟨x, hx⟩ : ∃ x, (pr.take many).getLast? = some x := by
        cases hp : pr.take many with
        | nil => rw [hp] at h; simp at h; omega
        | cons a r => exact ⟨_, List.getLast?_eq_some_getLast (by simp)⟩
      obtain ⟨ys, hys⟩ := List.getLast?_eq_some_iff.mp hx
      rw [hx]
      refine dw_at (dw_at (dw_v rfl (dw_neg (dw_int ⟨_, rfl, prT x, ?_, dw_int ⟨_, rfl, rfl⟩⟩))))
      rw [hys, show prsD (ys ++ [x]) = prsD ys ++ [prT x] from List.map_append]
      exact atI_last _ _
    case b =>
      rw [List.length_map] at h
      rw [if_neg h]
      rfl
  subst hd
  generalize hrch : ansReach (pr.take many) (many : Int) = rch at *
  refine dl_E (E' := [.dt (.raw (.ref p)), .dt (stD st), .dt (ixD k form lot 400), .dt (qD k v many sv), .dt (.str (kS k)), .dt (vecD v), .dt (.int many), .dt (sieD sv), .dt (.tup (prsD pr)), .dt (.tup (prsD (pr.take many))), .dt (optD rch), .un, .un, .un, .un, .un, .un]) rfl ?_
  refine dl_cons (ds_s sc__law_fewer_right.nd (dw_mk mp fs_pap ‹Room _ _› (by omega) (da_cons (dw_v rfl (da_cons (dw_cal C_so (cmS hM hHI) ‹Room _ _› (by omega) (da_cons (dw_v rfl (da_cons (dw_fld (ds := []) xf.cl xf.ln (dw_v rfl ⟨_, lotD lot, rfl, rfl, da_cons (dw_v rfl (da_cons (dw_v rfl (da_nil ⟨lot, st, k, v, many, sv, rch, rfl, hlot, by omega, hv, hdp, fun ws op hwl hww => da_nil ⟨rfl, ?s4⟩⟩))))⟩)))))))))))
  have hws : ∀ x ∈ ws, x ∈ stepWs := fun x hx => by
    obtain ⟨l, hl⟩ := walk_words _ _ _ _ _ hww (.str x) (List.mem_map_of_mem hx)
    obtain ⟨y, hy, hm⟩ := isStepD_word hl
    cases hy
    exact hm
  have hst1 : stpOk (wdsD ws) := ⟨rfl, fun l e => by cases e; exact ⟨by rw [List.length_map]; omega, fun d hd => by obtain ⟨x, _, rfl⟩ := List.mem_map.mp hd; rfl⟩⟩
  have hww2 : walk (fun d l => isStepD d k v sv (ansReach ((allP st k v sv ks).take many) (many : Int)) l) 0 (ws.map .str) [lot] [] = (op, none) := by rw [hpr, hrch]; exact hww
  have hfew : ∀ less : Nat, 1 ≤ less → less ≤ (pr.take many).length → ffault lot st k v (less : Int) sv (pr.take less) (wdsD ws) = none := fun less h1 h2 => by
    have := fewer_ok W.lt hkeys (by rw [hpr]; exact hgood) h1 (by rw [hpr]; exact h2) hww2
    rw [hpr] at this
    exact this
  have htie := tied_ok W.lt hkeys hww2
  rw [hpr, hrch] at htie
  obtain ⟨htl, hta⟩ := htie
  generalize hFO : sortP (foundOf st k v sv op) = FO at *
  have hdl : (pr.take many).length ≤ 9 := by rw [List.length_take]; omega
  refine dl_E (E' := [.dt (.raw (.ref p)), .dt (stD st), .dt (ixD k form lot 400), .dt (qD k v many sv), .dt (.str (kS k)), .dt (vecD v), .dt (.int many), .dt (sieD sv), .dt (.tup (prsD pr)), .dt (.tup (prsD (pr.take many))), .dt (optD rch), .dt (papD (.tup (prsD (pr.take many))) (wdsD ws)), .un, .un, .un, .un, .un]) rfl ?_
  refine dl_cons (ds_for PassesOwn.never (fun _ _ => dg_v sc__law_fewer_right.nd) (di_rng2 bi.range (da_cons (dw_int (da_cons (dw_addI (dw_len bi.len (da_cons (dw_v rfl (da_nil (.inr (.inl ⟨_, rfl, dw_int (da_nil ⟨_, _, rfl, ?lb1, ?lb2, by decide, by decide, fun i E' => ∃ s12 s13 : Sl, E' = [.dt (.raw (.ref p)), .dt (stD st), .dt (ixD k form lot 400), .dt (qD k v many sv), .dt (.str (kS k)), .dt (vecD v), .dt (.int many), .dt (sieD sv), .dt (.tup (prsD pr)), .dt (.tup (prsD (pr.take many))), .dt (optD rch), .dt (papD (.tup (prsD (pr.take many))) (wdsD ws)), s12, s13, .un, .un, .un], ⟨_, _, rfl⟩, ?jt, ?je⟩)⟩))))))))))))
  case lb1 => rw [List.length_map]; omega
  case lb2 => omega
  case je =>
    rintro E' ⟨s12, s13, rfl⟩
    have hal : GoodP (alikeOf pr many rch) := hgood.sub (List.filter_sublist.trans (List.drop_sublist _ _))
    have hall9 : (alikeOf pr many rch).length ≤ 9 := Nat.le_trans (List.length_filter_le _ _) (by rw [List.length_drop]; omega)
    have hRal : RpS 1000000 150 (.tup (prsD (alikeOf pr many rch))) := (rs_prs hal).mono (by omega) (by decide)
    refine dl_cons (ds_s sc__law_fewer_right.nd (dw_tuple bi.tuple (da_cons (dw_n (dn_l [("_law_pair", 15)] sc__law_fewer_right.nd (show BlkOk n__law_fewer_right (defScope s__law_fewer_right) _ _ from ⟨rfl, by decide +kernel, by decide +kernel, by decide +kernel, by decide +kernel⟩) (lcE (α := Int × Int) [("_law_pair", 15)] (fun _ _ _ _ _ _ _ => dg_name 15 sc__law_fewer_right.nd) (by decide) (di_tup (dw_slT (dw_v rfl ⟨_, rfl, do_some (dw_v rfl ⟨_, rfl, do_none ⟨_, rfl, pr.drop many, prT, fun q => decide (some q.1 = rch), prT, ?ae, ?att, ?af⟩⟩)⟩)))))))))
    case ae => rw [show cutD (prsD pr) (some (many : Int)) none = prsD (cutD pr (some (many : Int)) none) from cutD_map prT pr _ _, cut_drop]
    case att =>
      intro gl ow x hx
      refine fun s H C cl fp => dq_one (DT.im (Ψ' := fun z => z = decide (some x.1 = rch)) ?tt fun z hz => ⟨hz, fun _ s H C cl fp => dw_v rfl rfl⟩)
      cases rch with
      | none => exact dt_w (dtw_and (dt_notN (dw_v rfl (dw_non ⟨rfl, rfl, _, rfl, ifB_f (by simp)⟩))))
      | some r => exact dt_w (dtw_and (dt_notN (dw_v rfl (dw_non ⟨rfl, rfl, _, rfl, ifB_t (dtw_and1 (dt_eq (dw_at (dw_v rfl (dw_int ⟨_, rfl, dw_v rfl ⟨_, rfl, by simp⟩⟩)))))⟩))))
    case af =>
      refine da_nil (.inl ⟨_, rfl, ?_⟩)
      refine dl_E (E' := [.dt (.raw (.ref p)), .dt (stD st), .dt (ixD k form lot 400), .dt (qD k v many sv), .dt (.str (kS k)), .dt (vecD v), .dt (.int many), .dt (sieD sv), .dt (.tup (prsD pr)), .dt (.tup (prsD (pr.take many))), .dt (optD rch), .dt (papD (.tup (prsD (pr.take many))) (wdsD ws)), s12, s13, .dt (.tup (prsD (alikeOf pr many rch))), .un, .un]) rfl ?_
      refine dl_cons (ds_if (dt_ne (dw_repr hgd hu2 hrep (da_cons (dw_calP C_ti ‹Room _ _› (by omega) (da_cons (dw_v rfl (da_cons (dw_v rfl (da_cons (dw_v rfl (da_cons (dw_v rfl (da_nil ⟨k, form, lot, 400, st, k, v, many, sv, pr.take many, wdsD ws, FO, rfl, hlot, by omega, hst, hv, hdp, hst1, by omega, by rw [hrch]; exact htl, ?t2⟩))))))))))))))
      rw [hrch, hta]
      refine da_nil ⟨_, rfl, hRal, (fun x e => by cases e), dw_repr hgd hu2 hrep (da_cons (dw_v rfl (da_nil ⟨_, rfl, hRal, (fun x e => by cases e), _, rfl, ifB_n (fun h => (h rfl).elim) (fun _ => dl_nil ?t3)⟩)))⟩
      refine dl_cons (ds_if (dt_neD hu (dw_callK C_tik Cmp.pure (hr.mono (by omega)) (dw_v rfl (dw_v rfl (dw_v rfl (dw_v rfl ⟨rfl, k, form, lot, 400, st, k, v, many, sv, pr.take many, wdsD ws, FO, rfl, hlot, by omega, hst, hv, hdp, hst1, by omega, by rw [hrch]; exact htl, ?t4⟩)))))))
      rw [hrch, hta]
      refine dw_v rfl ⟨okP_prs _, okP_prs _, _, rfl, ?_⟩
      show ifB (!PyData.eqv (pln (.tup (prsD (alikeOf pr many rch)))) (pln (.tup (prsD (alikeOf pr many rch))))) _ _
      rw [eqv_prs]
      refine ifB_n (fun h => (h rfl).elim) (fun _ => dl_nil ?_)
      refine dl_cons (ds_if (dt_isN (dw_v rfl (dw_non ⟨rfl, by cases rch <;> rfl, _, rfl, ?t5⟩))))
      cases rch with
      | none => exact ifB_t (dl_cons (ds_ret (dw_bl hf)))
      | some r =>
        refine ifB_f (dl_nil ?_)
        refine dl_cons (ds_s sc__law_fewer_right.nd (dw_mk mp fs_pap ‹Room _ _› (by omega) (da_cons (dw_add (dw_v rfl (dw_v rfl ⟨?z1, da_cons (dw_fld (ds := []) pf.cl pf.sn (dw_v rfl ⟨_, _, rfl, rfl, da_nil ⟨rfl, ?t6⟩⟩))⟩))))))
        case z1 => exact sl_le (m := 100) (by rw [List.length_map, List.length_map]; omega)
        have hR : ansReach ((allP st k v sv ks).take many) (many : Int) = some r := by rw [hpr]; exact hrch
        have hwh := whole_ok hm1 hR
        rw [hpr] at hwh
        have hok : wfault k lot st k v r sv (.pap (some (pr.take many ++ alikeOf pr many (some r))) (wdsD ws)) = none := by
          rw [hwh]
          have hg2 : GoodP (allP st k v sv ks) := by rw [hpr]; exact hgood
          exact within_ok W.lt hkeys hg2 hww
        refine dl_E (E' := [.dt (.raw (.ref p)), .dt (stD st), .dt (ixD k form lot 400), .dt (qD k v many sv), .dt (.str (kS k)), .dt (vecD v), .dt (.int many), .dt (sieD sv), .dt (.tup (prsD pr)), .dt (.tup (prsD (pr.take many))), .dt (optD (some r)), .dt (papD (.tup (prsD (pr.take many))) (wdsD ws)), s12, s13, .dt (.tup (prsD (alikeOf pr many (some r)))), .un, .dt (vpD (.pap (some (pr.take many ++ alikeOf pr many (some r))) (wdsD ws)))]) ?ev ?_
        case ev =>
          have : prsD (pr.take many ++ alikeOf pr many (some r)) = prsD (pr.take many) ++ prsD (alikeOf pr many (some r)) := List.map_append
          show _ = [_, _, _, _, _, _, _, _, _, _, _, _, _, _, _, _, Sl.dt (papD (.tup (prsD (pr.take many ++ alikeOf pr many (some r)))) (wdsD ws))]
          rw [this]; rfl
        refine dl_cons (ds_ret (dw_isB (dw_calP C_iw ‹Room _ _› (by omega) (da_cons (dw_v rfl (da_cons (dw_v rfl (da_cons (dw_v rfl (da_cons (dw_v rfl (da_cons (dw_v rfl (da_cons (dw_v rfl (da_cons (dw_v rfl (da_nil ⟨k, form, lot, 400, st, k, v, r, sv, .pap (some (pr.take many ++ alikeOf pr many (some r))) (wdsD ws), rfl, hlot, by omega, hst, hv, hdp, hst1, dw_bl ⟨_, _, rfl, rfl, ?fin⟩⟩))))))))))))))))))
        show Φ (.bl (decide ((wfault k lot st k v r sv (.pap (some (pr.take many ++ alikeOf pr many (some r))) (wdsD ws))).isNone = true)))
        rw [hok]
        exact hf
  case jt =>
    rintro gl i d E' hd ⟨s12, s13, rfl⟩
    obtain ⟨hi, hdd⟩ := rngD_get hd
    have e1 : (1 : Int) + (i : Int) = ((i + 1 : Nat) : Int) := by omega
    rw [e1] at hdd
    subst hdd
    rw [List.length_map] at hi
    have hi1 : i + 1 ≤ (pr.take many).length := by omega
    have him : i + 1 ≤ many := by rw [List.length_take] at hi1; omega
    have hc : cutD (prsD (pr.take many)) none (some ((i + 1 : Nat) : Int)) = prsD (pr.take (i + 1)) := by rw [show cutD (prsD (pr.take many)) none (some ((i + 1 : Nat) : Int)) = prsD (cutD (pr.take many) none (some ((i + 1 : Nat) : Int))) from cutD_map prT _ _ _, cut_take, List.take_take, Nat.min_eq_left him]
    have hff := hfew (i + 1) (by omega) hi1
    refine dl_E (E' := [.dt (.raw (.ref p)), .dt (stD st), .dt (ixD k form lot 400), .dt (qD k v many sv), .dt (.str (kS k)), .dt (vecD v), .dt (.int many), .dt (sieD sv), .dt (.tup (prsD pr)), .dt (.tup (prsD (pr.take many))), .dt (optD rch), .dt (papD (.tup (prsD (pr.take many))) (wdsD ws)), .dt (.int ((i + 1 : Nat) : Int)), s13, .un, .un, .un]) rfl ?_
    refine dl_cons (ds_s sc__law_fewer_right.nd (dw_calP C_fe ‹Room _ _› (by omega) (da_cons (dw_v rfl (da_cons (dw_v rfl (da_nil ⟨prsD (pr.take many), wdsD ws, _, rfl, ?u1⟩)))))))
    rw [hc]
    refine dl_E (E' := [.dt (.raw (.ref p)), .dt (stD st), .dt (ixD k form lot 400), .dt (qD k v many sv), .dt (.str (kS k)), .dt (vecD v), .dt (.int many), .dt (sieD sv), .dt (.tup (prsD pr)), .dt (.tup (prsD (pr.take many))), .dt (optD rch), .dt (papD (.tup (prsD (pr.take many))) (wdsD ws)), .dt (.int ((i + 1 : Nat) : Int)), .dt (papD (.tup (prsD (pr.take (i + 1)))) (wdsD ws)), .un, .un, .un]) rfl ?_
    refine dl_cons (ds_if (dt_w (dtw_or (dt_not (dt_val (dw_isC pf.is bi.isinstance (da_cons (dw_v rfl (da_cons (dw_glob (v := .ref (He.ga K "Paper")) rfl pf.mg rfl (da_nil ⟨_, true, rfl, rfl, true, rfl, ifB_f (dtw_or1 (dt_neD hu (dw_tup (da_cons (dw_fld (ds := []) pf.cl pf.an (dw_v rfl ⟨_, _, rfl, rfl, da_cons (dw_fld (ds := []) pf.cl pf.sn (dw_v rfl ⟨_, _, rfl, rfl, da_nil ⟨szl, dw_tup (da_cons (dw_slT (dw_v rfl ⟨_, rfl, do_none (do_some (dw_v rfl ⟨_, rfl, ?u2⟩))⟩)))⟩⟩))⟩))))))⟩)))))))))))
    rw [hc]
    refine da_cons (dw_fld (ds := []) pf.cl pf.sn (dw_v rfl ⟨_, _, rfl, rfl, da_nil ⟨szl, pair_okP _ hws, pair_okP _ hws, _, rfl, ?u3⟩⟩))
    show ifB (!PyData.eqv (pln (.tup [.tup (prsD (pr.take (i + 1))), wdsD ws])) (pln (.tup [.tup (prsD (pr.take (i + 1))), wdsD ws]))) _ _
    rw [pair_eqv]
    refine ifB_f (dl_nil ?_)
    refine dl_cons (ds_if (dt_notB (dw_calP C_ir ‹Room _ _› (by omega) (da_cons (dw_v rfl (da_cons (dw_v rfl (da_cons (dw_tup (da_cons (dw_v rfl (da_cons (dw_v rfl (da_cons (dw_v rfl (da_cons (dw_v rfl (da_nil ⟨szl, da_cons (dw_v rfl (da_nil ⟨form, lot, 400, st, k, v, _, sv, pr.take (i + 1), wdsD ws, rfl, hlot, by omega, hst, hv, hdp, hst1, by omega, dw_bl ⟨_, _, rfl, rfl, _, rfl, ?u4⟩⟩))⟩))))))))))))))))))
    show ifB (!decide ((ffault lot st k v ((i + 1 : Nat) : Int) sv (pr.take (i + 1)) (wdsD ws)).isNone = true)) _ _
    rw [hff]
    refine ifB_f (dl_nil ?_)
    refine dl_one (ds_if (dt_neD hu (dw_fld (ds := []) pf.cl pf.an (dw_callK C_fek Cmp.pure (hr.mono (by omega)) (dw_v rfl (dw_v rfl ⟨rfl, prsD (pr.take many), wdsD ws, _, rfl, _, _, rfl, rfl, dw_slT (dw_v rfl ⟨_, rfl, do_none (do_some (dw_v rfl ⟨_, rfl, ?u5⟩))⟩)⟩))))))
    rw [hc]
    refine ⟨okP_prs _, okP_prs _, _, rfl, ?_⟩
    show ifB (!PyData.eqv (pln (.tup (prsD (pr.take (i + 1))))) (pln (.tup (prsD (pr.take (i + 1)))))) _ _
    rw [eqv_prs]
    exact ifB_n (fun h => (h rfl).elim) (fun _ => dl_nil ⟨_, _, rfl⟩)
end
end N
set_option Elab.async false
set_option linter.all false
set_option maxRecDepth 100000
set_option maxHeartbeats 1000000
namespace N
open PySem
open PySem.Spec
open PyProof.Rows
open L2
/-! R23: _law_heap, a heap of its own. -/
def spHeap (K : PySem.W.Frag) (T : List (Addr × Str)) : Sp := fun vs H Q _ => ∃ (G : Hp) (ns : List Int), Cln G H ∧ LamX.Tabs T H ∧ RpA K G vs [.scr ns] ∧ ns.length ≤ 1000 ∧
  ∀ (p q : Addr) (cs : List Int) (s : Int) (H' : Hp), HpS p q cs s H' → H p = none → H q = none → Ext noM H G H' G → Cln G H' → LamX.Tabs T H' → Q (.ref p) H'
section
variable {P : Program} {w : World} {K : PySem.W.Frag} {mg : Str → Option Value} {base : Heap} {T : List (Addr × Str)} {g C : Addr} {fd : FuncData}
theorem ok_law_heap (bi : BI mg) (F : FnT K "_law_heap" s__law_heap g fd) : FnOk P w K mg base CX0 1 g fd p__law_heap (spHeap K T) := by
  refine F.ok (k := 0) sc__law_heap (fun vs H Q E h => ?_) (fun cdv A outer s H vs Q XE hr h => ?_)
  · obtain ⟨G, ns, _, _, r, _⟩ := h
    rw [r.len]; rfl
  obtain ⟨G, ns, cl, tb, r, hnl, kq⟩ := h
  have hS0 : Stt K ⟨noM, noHI, T, G, H, G, []⟩ (st0 n__law_heap [.scr ns]) (L2.start n__law_heap vs) G H := by
    refine ⟨bdOk0, Ext.rf H G, cl, tb, trivial, fun _ h => h.elim, ?_, fun i s h => ?_, fun i j s u l hi hj hs hu => ?_, GLe.rfl' G, fun p hp => (nomatch hp), fun p hp => (nomatch hp), List.nodup_nil⟩
    · unfold L2.start st0
      rw [List.length_append, List.length_append, List.length_map, List.length_map, List.length_replicate, List.length_replicate, r.len]
    · rcases rpa_at r n__law_heap i s h with ⟨d, rfl, v, hv, rv⟩ | rfl
      · exact ⟨v, hv, rv⟩
      · trivial
    · rcases rpa_at r n__law_heap i s hi with ⟨d, rfl, _⟩ | rfl <;> cases hs
  generalize hB : (⟨noM, noHI, T, G, H, G, []⟩ : Bd) = B at hS0
  refine ⟨semL (cxOf CX0 P w K mg base n__law_heap "_law_heap" (defScope s__law_heap) g cdv A outer s H XE).nox (defBody s__law_heap), (qL : PSs (cxOf CX0 P w K mg base n__law_heap "_law_heap" (defScope s__law_heap) g cdv A outer s H XE).nox _ _).nox, ?_⟩
  generalize hD : ({ nx := fun _ H' => Q .non H', rt := Q } : Ends) = D
  -- the first two rows
  refine fL (pss_cons qS qL) ?_
  have h1 : ∀ Ψ : Ed, (∀ cs : List Int, cs.length ≤ 60 → Ψ.nx [.dt (.scr ns), .dt (.lst (cs.map .int)), .dt (.int 60013), .un]) → DS (cxOf CX0 P w K mg base n__law_heap "_law_heap" (defScope s__law_heap) g cdv A outer s H XE).nox B (st0 n__law_heap [.scr ns]) ((defBody s__law_heap).head!) Ψ := fun Ψ hΨ => by
    refine ds_par (hN := sc__law_heap.nd) 1 2 (da_cons (dw_n (dn_l [("_law_cell", 3)] sc__law_heap.nd (show BlkOk n__law_heap (defScope s__law_heap) _ _ from ⟨rfl, by decide +kernel, by decide +kernel, by decide +kernel, by decide +kernel⟩) (lcE (α := Int) [("_law_cell", 3)] (fun _ _ _ _ _ _ _ => dg_name 3 sc__law_heap.nd) (by decide) (di_lst (dw_n (dn_slS (dw_v rfl ⟨ns, rfl, hnl, do_none (do_some (dw_int ⟨60, rfl, _, rfl, cutD ns none (some 60), .int, fun _ => true, fun i => .int (2 * iabs i + if i < 0 then 1 else 0), rfl, ?t, ?f⟩))⟩))))))))
    case t =>
      intro gl ow i hi
      refine fun s H C cl fp => dq_nil ⟨rfl, fun _ s H C cl fp => ?elt⟩
      refine dw_addI (dw_mul (dw_int (dw_abs bi.abs (da_cons (dw_v rfl (da_nil ⟨_, rfl, .inl ⟨by decide, by decide⟩, dw_int1 bi.int (da_cons (dw_lt (dw_v rfl (dw_int (da_nil (.inr ⟨_, rfl, ?e⟩))))))⟩))))))
      show Dt.int (2 * iabs i + if decide (i < 0) = true then 1 else 0) = Dt.int (2 * iabs i + if i < 0 then 1 else 0)
      by_cases h : i < 0 <;> simp [h]
    case f =>
      refine da_cons (dw_int (da_nil ⟨_, _, rfl, ?_⟩))
      rw [filter_tt]
      have := hΨ ((cutD ns none (some 60)).map fun i => 2 * iabs i + if i < 0 then 1 else 0) (by
        rw [List.length_map, show (some 60 : Option Int) = some ((60 : Nat) : Int) from rfl, cut_take]
        exact List.length_take_le _ _)
      rw [List.map_map] at this
      exact this
  refine h1 ⟨fun E' => ∃ cs : List Int, E' = [.dt (.scr ns), .dt (.lst (cs.map .int)), .dt (.int 60013), .un] ∧ cs.length ≤ 60, fun _ => False, fun _ => False, fun _ => False⟩ (fun cs hcs => ⟨cs, rfl, hcs⟩) _ _ _ _ hS0 ⟨fun E1 σ1 G1 H1 S1 f1 => ?_, fun _ _ _ _ _ _ f => f.elim, fun _ _ _ _ _ f => f.elim, fun _ _ _ _ _ f => f.elim⟩
  obtain ⟨cs, rfl, hcs⟩ := f1
  show semL _ _ D σ1 H1
  refine fL (pss_cons qS qL) ?_
  have h2 : ∀ Ψ : Ed, (∀ (st : Int) (s3 : Sl), 0 ≤ st → st < 2147483647 → Ψ.nx [.dt (.scr ns), .dt (.lst (cs.map .int)), .dt (.int st), s3]) → DS (cxOf CX0 P w K mg base n__law_heap "_law_heap" (defScope s__law_heap) g cdv A outer s H XE).nox B [.dt (.scr ns), .dt (.lst (cs.map .int)), .dt (.int 60013), .un] (((defBody s__law_heap).drop 1).head!) Ψ := fun Ψ hΨ => by
    refine ds_for PassesOwn.never (fun _ _ => dg_v sc__law_heap.nd) (di_lst (dw_v rfl ⟨_, rfl, fun i E' => ∃ (st : Int) (s3 : Sl), E' = [.dt (.scr ns), .dt (.lst (cs.map .int)), .dt (.int st), s3] ∧ 0 ≤ st ∧ st < 2147483647, ⟨_, _, rfl, by decide, by decide⟩, ?jt, ?je⟩))
    case je =>
      rintro E' ⟨st, s3, rfl, h0, h1⟩
      exact hΨ st s3 h0 h1
    case jt =>
      rintro gl i d E' hd ⟨st, s3, rfl, h0, h1⟩
      rw [List.getElem?_map] at hd
      cases hx : cs[i]? with
      | none => rw [hx] at hd; cases hd
      | some c =>
        rw [hx] at hd
        cases hd
        refine dl_one (ds_s sc__law_heap.nd (dw_mod (dw_int1 bi.int (da_cons (dw_addI (dw_addI (dw_mul (dw_v rfl (dw_int ⟨.inr ⟨by decide, by decide⟩, dw_mod (dw_int1 bi.int (da_cons (dw_v rfl (da_nil (.inl ⟨_, rfl, dw_int ⟨(show (0 : Int) < 2147483563 by decide), dw_int (da_nil (.inl ⟨_, rfl, dw_int ⟨(show (0 : Int) < 2147483647 by decide), ?nxt⟩⟩))⟩⟩)))))⟩)))))))))
        exact ⟨_, _, rfl, Int.emod_nonneg _ (by decide), Int.emod_lt_of_pos _ (by decide)⟩
  refine h2 ⟨fun E' => ∃ (st : Int) (s3 : Sl), E' = [.dt (.scr ns), .dt (.lst (cs.map .int)), .dt (.int st), s3] ∧ 0 ≤ st ∧ st < 2147483647, fun _ => False, fun _ => False, fun _ => False⟩ (fun st s3 a b => ⟨st, s3, rfl, a, b⟩) _ _ _ _ S1 ⟨fun E2 σ2 G2 H2 S2 f2 => ?_, fun _ _ _ _ _ _ f => f.elim, fun _ _ _ _ _ f => f.elim, fun _ _ _ _ _ f => f.elim⟩
  obtain ⟨st, s3, rfl, hst0, hst1⟩ := f2
  show semL _ _ D σ2 H2
  -- the heap is made
  have h3 : DN (cxOf CX0 P w K mg base n__law_heap "_law_heap" (defScope s__law_heap) g cdv A outer s H XE).nox B [.dt (.scr ns), .dt (.lst (cs.map .int)), .dt (.int st), s3] (match ((defBody s__law_heap).drop 2).head! with
    | .Return (some (.List (e :: _) _)) _ => e
    | _ => .Constant .none 0 ⟨0, 0, 0, 0⟩) fun ds => ∃ ds' : List Int, ds = ds'.map .int ∧ ds'.length ≤ 60 := by
    refine dn_revL (dw_n (dn_l [("_law_cell", 3)] sc__law_heap.nd (show BlkOk n__law_heap (defScope s__law_heap) _ _ from ⟨rfl, by decide +kernel, by decide +kernel, by decide +kernel, by decide +kernel⟩) (lcE (α := Int) [("_law_cell", 3)] (fun _ _ _ _ _ _ _ => dg_name 3 sc__law_heap.nd) (by decide) (di_lst (dw_v rfl ⟨_, rfl, cs, .int, fun c => decide (10 ^ (18 : Int).toNat ≤ c), .int, rfl, ?t, ?f⟩)))))
    case t =>
      intro gl ow c hc
      exact fun s H C cl fp => dq_one (dt_ge (dw_v rfl (dw_pow (dw_int (dw_int ⟨⟨by decide, by decide, by decide⟩, _, rfl, rfl, fun _ s H C cl fp => dw_v rfl rfl⟩)))))
    case f =>
      refine ⟨_, rfl, (cs.filter fun c => decide (10 ^ (18 : Int).toNat ≤ c)).reverse, (List.map_reverse ..).symm, ?_⟩
      rw [List.length_reverse]
      exact Nat.le_trans (List.length_filter_le _ _) hcs
  obtain ⟨v2, hσ2, rv2⟩ := S2.sl 2 (.dt (.int st)) rfl
  cases rv2
  refine fL (pss_one (ps_ret (pe_lst (pa_cons qE (pa_cons (pe_var (i := 2) rfl (Or.inl rfl)) pa_nil (by rfl)) (by rfl))))) ?_
  refine h3 σ2 G2 H2 _ S2 fun q xs ds G3 H3 S3 x3 hq rx hz hds => ?_
  obtain ⟨ds', rfl, hdl⟩ := hds
  refine ⟨.int st, hσ2, Nat.le_trans (show 2 ≤ 1000 by decide) szl, fun p hp => ?_⟩
  have hpq : p ≠ q := fun e => by rw [e, upd_same] at hp; cases hp
  have hp3 : H3 p = none := by rwa [upd_ne hpq] at hp
  have hxs : xs = ds'.map V.int := rpa_ints rx
  subst hB
  have hx := S3.ext
  have hH : ∀ b, H3 b = none → H b = none := fun b hb => by
    cases e : H b with
    | none => rfl
    | some o =>
      obtain ⟨o', ho'⟩ := hx.live b o e
      rw [ho'] at hb; cases hb
  have hk : ∀ b o, H3 b = some o → (upd (upd H3 q (.lst xs)) p (.lst [.ref q, .int st])) b = some o := fun b o h => by
    have n1 : b ≠ p := fun e => by rw [e, hp3] at h; cases h
    have n2 : b ≠ q := fun e => by rw [e, hq] at h; cases h
    rw [upd_ne n1, upd_ne n2]; exact h
  have hG : ∀ b o, G b = some o → G3 b = some o := hx.gg
  subst hD
  refine kq p q ds' st _ ⟨hpq, upd_same, by rw [upd_ne (fun e => hpq e.symm), upd_same, hxs], by omega, hst0, hst1⟩ (hH p hp3) (hH q hq) ⟨fun _ _ h => h, fun b o h t n => hk b o (hx.keep b o h t n), fun b o h => ?_, fun _ _ h => .inl h⟩ ⟨fun b o h => hk b o (S3.cln.sub b o (hG b o h)), cl.ntb⟩ (S3.tab.ext hk)
  obtain ⟨o', ho'⟩ := hx.live b o h
  exact ⟨o', hk b o' ho'⟩
end
end N
set_option Elab.async false
set_option linter.all false
set_option maxRecDepth 100000
set_option maxHeartbeats 1000000
namespace N
open PySem
open PySem.Spec
open PyProof.Rows
open L2
/-! EE: tuple * int, a display of four pairs, the law's heap taken over. -/
section
variable {X : Cx} {B : Bd} {E : Ev} {Φ : Dt → Prop} {a b : Expr} {pos : Pos}
theorem rpa_rep {K : PySem.W.Frag} {G : Hp} {vs : List V} {ds : List Dt} (r : RpA K G vs ds) : ∀ n : Nat, RpA K G (List.replicate n vs).flatten (List.replicate n ds).flatten
  | 0 => .nil
  | n + 1 => by
    rw [List.replicate_succ, List.replicate_succ, List.flatten_cons, List.flatten_cons]
    exact r.app (rpa_rep r n)
abbrev repTK : Dt → Dt → (Dt → Prop) → Prop := fun d1 d2 Φ => ∃ l k, d1 = .tup l ∧ d2 = .int k ∧ l ≠ [] ∧ 2 ≤ k ∧ k ≤ 1000 ∧ l.length ≤ 1000 ∧ ((List.replicate k.toNat l).flatten).length ≤ sizeLine ∧ Φ (.tup (List.replicate k.toNat l).flatten)
theorem ok_repT : OkR X (rRepT X.K) repTK := fun B E σ G H x y d1 d2 Φ Q S r1 r2 k q => by
  obtain ⟨l, k, rfl, rfl, hn, h1, h2, h3, h4, f⟩ := k
  cases r2
  cases r1 with
  | @tup a0 xs0 _ h z r =>
    refine ⟨_, k, xs0, rfl, rfl, SqT.of (S.cln.sub _ _ h), fun e => hn (by rw [e] at r; cases r; rfl), h1, h2, by rw [r.len]; exact h3, fun p hp => ?_⟩
    have g := Grow.one (o := .tup (List.replicate k.toNat xs0).flatten) S.cln hp (fun ps e => by cases e)
    exact q _ _ _ _ g (.tup upd_same h4 ((rpa_rep r k.toNat).le g.gg)) f
theorem dw_repT (h : DW X B E a fun d1 => DW X B E b fun d2 => repTK d1 d2 Φ) : DW X B E (.BinOp a .Mult b pos) Φ := dw_bin op_repT ok_repT h
/-- a display of four pairs -/
theorem dw_disp4 {e1 e2 e3 e4 : Expr} {j1 j2 j3 j4 : Nat} {p1 p2 p3 p4 : Pos} (h : DW X B E e1 fun d1 => DW X B E e2 fun d2 => DW X B E e3 fun d3 => DW X B E e4 fun d4 => Φ (.dic [(4, d1), (5, d2), (6, d3), (30, d4)])) :
    DW X B E (.Dict [some (.Constant (.int 4) j1 p1), some (.Constant (.int 5) j2 p2), some (.Constant (.int 6) j3 p3), some (.Constant (.int 30) j4 p4)] [e1, e2, e3, e4] pos) Φ := fun σ G H Q S q => by
  refine fE (pe_disp (pps_cons pe_int qE (pps_cons pe_int qE (pps_cons pe_int qE (pps_cons pe_int qE pps_nil)))) rfl rfl (by simp) (by simp)) ?_
  intro p hp
  have S0 := S.grow (Grow.dirt (G := G) (o := .dK []) S.cln hp)
  obtain ⟨gp, h0, mp, old, og⟩ := S.fresh hp
  show semE X e1 σ _ _
  refine h σ G _ _ S0 fun v1 d1 G1 H1 S1 x1 r1 f1 => ?_
  show semE X e2 σ _ _
  refine f1 σ G1 _ _ S1 fun v2 d2 G2 H2 S2 x2 r2 f2 => ?_
  show semE X e3 σ _ _
  refine f2 σ G2 _ _ S2 fun v3 d3 G3 H3 S3 x3 r3 f3 => ?_
  show semE X e4 σ _ _
  refine f3 σ G3 _ _ S3 fun v4 d4 G4 H4 S4 x4 r4 f4 => ?_
  have x : Ext B.M (upd H p (.dK [])) G H4 G4 := ((x1.tr x2).tr x3).tr x4
  have hp4 : H4 p = some (.dK []) := x.keep p _ upd_same (fun ps e => by cases e) mp
  have g4 : G4 p = none := by
    cases e : G4 p with
    | none => rfl
    | some o =>
      rcases x.new p o e with h | h
      · rw [gp] at h; cases h
      · rw [upd_same] at h; cases h
  refine ⟨hp4, [(.inl 4, v1), (.inl 5, v2), (.inl 6, v3), (.inl 30, v4)], rfl, by simp, ?_⟩
  have hm : mergeK [] [((Sum.inl 4 : Key), v1), (.inl 5, v2), (.inl 6, v3), (.inl 30, v4)] = [(.inl 4, v1), (.inl 5, v2), (.inl 6, v3), (.inl 30, v4)] := rfl
  rw [hm]
  generalize ho : HO.dK [((Sum.inl 4 : Key), v1), (.inl 5, v2), (.inl 6, v3), (.inl 30, v4)] = o
  have gg : GLe G4 (upd G4 p o) := fun b u hb => by rw [upd_ne (fun e => by rw [e, g4] at hb; cases hb)]; exact hb
  have xx : Ext B.M H G (upd H4 p o) (upd G4 p o) := by
    refine ⟨GLe.tr x.gg gg, fun b u hb t n => ?_, fun b u hb => ?_, fun b u hb => ?_⟩
    · have nb : b ≠ p := fun e => by rw [e, hp] at hb; cases hb
      rw [upd_ne nb]
      exact x.keep b u (by rw [upd_ne nb]; exact hb) t n
    · have nb : b ≠ p := fun e => by rw [e, hp] at hb; cases hb
      obtain ⟨u', hu'⟩ := x.live b u (by rw [upd_ne nb]; exact hb)
      exact ⟨u', by rw [upd_ne nb]; exact hu'⟩
    · by_cases e : b = p
      · subst e; exact .inr hp
      · rw [upd_ne e] at hb
        rcases x.new b u hb with h | h
        · exact .inl h
        · exact .inr (by rwa [upd_ne e] at h)
  have cl : Cln (upd G4 p o) (upd H4 p o) := by
    refine ⟨fun b u hb => ?_, fun b ps hb => ?_⟩
    · by_cases e : b = p
      · subst e; rw [upd_same] at hb ⊢; exact hb
      · rw [upd_ne e] at hb ⊢; exact S4.cln.sub b u hb
    · by_cases e : b = p
      · subst e; rw [upd_same, ← ho] at hb; cases hb
      · rw [upd_ne e] at hb; exact S4.cln.ntb b ps hb
  have tb : LamX.Tabs B.T (upd H4 p o) := fun t ht => by
    obtain ⟨ps, hP, tr, hc⟩ := S4.tab t ht
    refine ⟨ps, by rw [upd_ne (fun e => by rw [e, hp4] at hP; cases hP)]; exact hP, tr, fun po cv hcv => ?_⟩
    obtain ⟨c, c1, c2⟩ := hc po cv hcv
    exact ⟨c, c1, by rw [upd_ne (fun e => by rw [e, hp4] at c2; unfold LamX.CodeO at c2; cases c2)]; exact c2⟩
  have hi : B.HI (upd H4 p o) := S.bok.stab _ _ S4.hi fun b hb => by rw [upd_ne (fun e : b = p => mp (by rw [← e]; exact hb))]
  refine q _ _ _ _ (S.step xx cl tb hi) xx (.dic (kvs := [(.inl 4, v1), (.inl 5, v2), (.inl 6, v3), (.inl 30, v4)]) (by rw [upd_same, ← ho]) ?_) f4
  exact .cons ((((r1.le x2.gg).le x3.gg).le x4.gg).le gg) (.cons (((r2.le x3.gg).le x4.gg).le gg) (.cons ((r3.le x4.gg).le gg) (.cons (r4.le gg) .nil)))
end
section
variable {P : Program} {w : World} {K : PySem.W.Frag} {mg : Str → Option Value} {base : Heap} {T : List (Addr × Str)}
/-- heap = _law_heap(script): from there on the heap is a thing of its own -/
theorem dl_heap {X : Cx} {B : Bd} {x : Str} {ns : List Int} {pn pc pf pa : Pos} {pos : Pos} {rest : List Stmt} {Φ : Dt → Prop} {m : Nat} (hM : B.M = noM) (hHI : B.HI = noHI) (hns : ns.length ≤ 1000)
    (C : Cal X.prog X.w X.K X.mg X.base 1 "_law_heap" p__law_heap (spHeap X.K B.T)) (hr : Room 1 X.A)
    (h : ∀ (p q : Addr) (B1 : Bd), B1.M = HpM p q → B1.HI = HpI p q → B1.T = B.T → DL X B1 (.dt (.scr ns) :: .dt (.raw (.ref p)) :: List.replicate m .un) rest { nx := fun _ => False, rt := Φ })
    (hN : X.N.Nodup) (h0 : X.N[0]? = some x := by rfl) (h1 : X.N[1]? = some ("_law_heap_here" : Str) := by rfl) (hx : Loc X.env.scope "_law_heap_here" := by first | exact Or.inl rfl | exact Or.inr rfl) (hv : Vis X.env.scope x := by first | exact Or.inl rfl | exact Or.inr (Or.inl rfl) | exact Or.inr (Or.inr rfl))
    (hd : (x == ("__debug__" : Str)) = false := by decide) (hcd : (x == ("__classdict__" : Str)) = false := by decide) (hg : Gl X "_law_heap" := by rfl) (he : starEach [.Name x pa] X.env = (false, eval (.Name x pa) X.env) :: starEach [] X.env := by rfl) (hpl : (backTo pc (starEach [] X.env)).any (·.1) = false := by rfl)
    (hs : swapsWith (.Call (.Name "_law_heap" pf) [.Name x pa] [] pc) (some (.Name "_law_heap_here" pn)) pos.line X.env = pure false := by rfl) (hf : X.fn ("_law_heap_here" : Str) = true ∨ X.env.scope.names.lookup ("_law_heap_here" : Str) = some .local := by first | exact .inl rfl | exact .inr rfl) {nx : Ev → Prop} :
    DL X B (.dt (.scr ns) :: .un :: List.replicate m .un) (.Assign [.Name "_law_heap_here" pn] (.Call (.Name "_law_heap" pf) [.Name x pa] [] pc) pos :: rest) { nx := nx, rt := Φ } := fun σ G H D S k => by
  obtain ⟨g, fd, F, hm, hk, hb⟩ := C.ex
  refine fL (pss_cons (ps_set (i := 1) hN h1 hx (pe_call F hr hg hm hk hb .nil pass0 (pa_cons (pe_var (i := 0) h0 hv hd hcd) pa_nil he) (by decide) he hpl) hs hf) qL) ?_
  obtain ⟨v, hσ, rv⟩ := S.sl 0 (.dt (.scr ns)) rfl
  refine ⟨v, hσ, ?_⟩
  suffices key : spHeap X.K B.T [v] H (fun u H1 => semL X rest D (σ.set 1 (some u)) H1) E0 from key
  refine ⟨G, ns, S.cln, S.tab, .cons rv .nil, hns, fun p q cs s H' hp hfp hfq x cl tb => ?_⟩
  have gp : ∀ b, H b = none → G b = none := fun b hb => by
    cases e : G b with
    | none => rfl
    | some o => rw [S.cln.sub b o e] at hb; cases hb
  have S1 : Stt X.K ⟨HpM p q, HpI p q, B.T, G, H', G, []⟩ (.dt (.scr ns) :: .dt (.raw (.ref p)) :: List.replicate m .un) (σ.set 1 (some (.ref p))) G H' := by
    have hσl : 1 < σ.length := by rw [S.len]; simp
    refine ⟨hpBd p q, Ext.rf H' G, cl, tb, ⟨cs, s, hp⟩, fun b hb => ?_, ?_, fun i sl hi => ?_, fun i j s1 s2 l hi hj h1 h2 => ?_, GLe.rfl' G, fun _ z => (nomatch z), fun _ z => (nomatch z), List.nodup_nil⟩
    · rcases hb with rfl | rfl
      · exact gp _ hfp
      · exact gp _ hfq
    · rw [List.length_set, S.len]; simp
    · match i with
      | 0 =>
        cases hi
        exact ⟨v, by rw [List.getElem?_set_ne (by decide)]; exact hσ, rv⟩
      | 1 =>
        cases hi
        exact ⟨.ref p, by rw [List.getElem?_set_self hσl], .raw _⟩
      | i + 2 =>
        have hi : (List.replicate m Sl.un)[i]? = some sl := hi
        rw [List.eq_of_mem_replicate (List.mem_of_getElem? hi)]
        trivial
    · have no : ∀ (i : Nat) (s : Sl), ((.dt (.scr ns) :: .dt (.raw (.ref p)) :: List.replicate m .un : Ev))[i]? = some s → s.adr = none := fun i s hi => by
        match i with
        | 0 => cases hi; rfl
        | 1 => cases hi; rfl
        | i + 2 =>
          have hi : (List.replicate m Sl.un)[i]? = some s := hi
          rw [List.eq_of_mem_replicate (List.mem_of_getElem? hi)]
          rfl
      rw [no i s1 hi] at h1
      cases h1
  refine h p q ⟨HpM p q, HpI p q, B.T, G, H', G, []⟩ rfl rfl rfl _ G H' D S1 ⟨fun _ _ _ _ _ f => f.elim, fun v d G2 H2 F r f => ?_, fun _ _ _ _ _ f => f.elim, fun _ _ _ _ _ f => f.elim⟩
  refine k.rt v d G2 H2 ⟨?_, F.cln, F.tab, by rw [hHI]; trivial⟩ r f
  have x2 : Ext (HpM p q) H' G H2 G2 := F.ext
  have xx : Ext noM H G H2 G2 := by
    refine ⟨x2.gg, fun b o hb t n => ?_, fun b o hb => ?_, fun b o hb => ?_⟩
    · refine x2.keep b o (x.keep b o hb t (fun z => z)) t fun z => ?_
      rcases z with rfl | rfl
      · rw [hfp] at hb; cases hb
      · rw [hfq] at hb; cases hb
    · obtain ⟨o', ho'⟩ := x.live b o hb
      exact x2.live b o' ho'
    · rcases x2.new b o hb with h | h
      · exact .inl h
      · refine .inr ?_
        cases e : H b with
        | none => rfl
        | some u =>
          obtain ⟨o', ho'⟩ := x.live b u e
          rw [ho'] at h; cases h
  have := S.ext
  rw [hM] at this ⊢
  exact this.tr xx
end
end N
set_option Elab.async false
set_option linter.all false
set_option maxRecDepth 100000
set_option maxHeartbeats 1000000
namespace N
open PySem
open PySem.Spec
open PyProof.Rows
open L2
/-! EX: the law's own example. -/
abbrev exSt : List (Int × Itm) := [(4, ⟨4, [2, 2], []⟩), (5, ⟨5, [2, 2], []⟩), (6, ⟨6, [0, 4], []⟩), (30, ⟨30, [7, 7], []⟩)]
abbrev exOne : Lot := .items (.box [0, 2] [2, 4]) ⟨3, []⟩ [4, 5, 6]
abbrev exTwo : Lot := .items (.box [7, 7] [7, 7]) ⟨1, []⟩ [30]
abbrev exLot : Lot := .lots (.box [0, 0] [9, 9]) ⟨4, []⟩ [exOne, exTwo]
abbrev exV : List Int := [0, 0]
theorem exSv {v : List Int} (h : (decide (v.length ≤ 100) && v.all fun x => decide (-1000 ≤ x ∧ x ≤ 1000)) = true) : Sv' v := by
  rw [Bool.and_eq_true] at h
  exact ⟨of_decide_eq_true h.1, fun x hx => of_decide_eq_true (List.all_eq_true.mp h.2 x hx)⟩
theorem ex_lot : LotOk exSt exLot := by
  have hm : ∀ i ∈ ([4, 5, 6, 30] : List Int), ∃ d, look exSt i = some d := fun i hi => by
    simp only [List.mem_cons, List.not_mem_nil, or_false] at hi
    rcases hi with rfl | rfl | rfl | rfl <;> exact ⟨_, rfl⟩
  refine .lots ⟨exSv (by decide), exSv (by decide)⟩ fun l hl => ?_
  simp only [List.mem_cons, List.not_mem_nil, or_false] at hl
  rcases hl with rfl | rfl
  · exact .items ⟨exSv (by decide), exSv (by decide)⟩ (fun i hi => hm i (by simp only [List.mem_cons, List.not_mem_nil, or_false] at hi ⊢; omega)) (by decide)
  · exact .items ⟨exSv (by decide), exSv (by decide)⟩ (fun i hi => hm i (by simp only [List.mem_cons, List.not_mem_nil, or_false] at hi ⊢; omega)) (by decide)
theorem ex_st : StOk exSt := ⟨by decide, fun q hq => by
  simp only [List.mem_cons, List.not_mem_nil, or_false] at hq
  rcases hq with rfl | rfl | rfl | rfl <;> exact exSv (by decide)⟩
theorem ex_cnt : exLot.cnt ≤ 1000 := by decide
abbrev exW : List Str := ["open", "open", "far"]
theorem ex_walk : walk (fun d l => isStepD d .sum exV .all (some 4) l) 0 (exW.map .str) [exLot] [] = ([exLot, exOne], none) := rfl
theorem ex_found : foundOf exSt .sum exV .all [exLot, exOne] = [(4, 4), (4, 5), (4, 6)] := by decide +kernel
theorem ex_sort : sortP [(4, 4), (4, 5), (4, 6)] = [(4, 4), (4, 5), (4, 6)] := (sortP_eq (List.Perm.refl _) (by decide)).symm
theorem ex_tied : lookP .sum exV .all (ansReach [(4, 4)] 1) exLot exSt (wdsD exW) = .inr [(4, 4), (4, 5), (4, 6)] := by
  have e : ansReach [(4, 4)] 1 = some 4 := rfl
  rw [e]
  unfold lookP
  simp only [ex_walk, ex_found, ex_sort]
theorem ex_tiedOf : tiedOf [(4, 4), (4, 5), (4, 6)] 1 (ansReach [(4, 4)] 1) = [(4, 5), (4, 6)] := by decide +kernel
theorem ex_open1 : foundOf exSt .sum exV .all (openS .sum exV .all (some 1) exLot) = [] := by decide +kernel
theorem ex_least1 : leastS .sum exV .all (some 1) exLot = (["open", "far", "far"] : List Str) := by decide +kernel
theorem ex_least14 : leastS .sum exV .all (some 14) exLot = (["open", "open", "open"] : List Str) := by decide +kernel
end N
set_option Elab.async false
set_option linter.all false
set_option maxRecDepth 100000
set_option maxHeartbeats 1000000
namespace N
open PySem
open PySem.Spec
open PyProof.Rows
open L2
/-! R24: law. -/
section
variable {P : Program} {w : World} {K : PySem.W.Frag} {mg : Str → Option Value} {base : Heap} {T : List (Addr × Str)} {g C : Addr} {fd : FuncData}
def f_law : FT := fun ds Φ => ∃ ns : List Int, ds = [.scr ns] ∧ ns.length ≤ 1000 ∧ Φ (.bl true)
/-- what law calls -/
structure LawC (P : Program) (w : World) (K : PySem.W.Frag) (mg : Str → Option Value) (base : Heap) (T : List (Addr × Str)) : Prop where
  hp : Cal P w K mg base 1 "_law_heap" p__law_heap (spHeap K T)
  wp : Cal P w K mg base 12 "within_paper" p_within_paper (spP K T (f_within_paper 2))
  wf : Cal P w K mg base 12 "within_fault" p_within_fault (spP K T (f_within_fault 2))
  ti : Cal P w K mg base 12 "tied" p_tied (spP K T (f_tied 2))
  pr : Cal P w K mg base 4 "_law_pairs" p__law_pairs (spP K T (f_law_pairs 2))
  dr : ∀ p q, CDraw P w K mg base T p q
  pk : ∀ p q, CPick P w K mg base T p q
  wo : ∀ p q, Cal P w K mg base 8 "_law_world" p__law_world (spD K (HpM p q) (HpI p q) T (f_world p))
  wr : ∀ p q, CalG P w K mg base 14 "_law_within_right" p__law_within_right (spD K (HpM p q) (HpI p q) T (f_wright p))
  fr : ∀ p q, CalG P w K mg base 14 "_law_fewer_right" p__law_fewer_right (spD K (HpM p q) (HpI p q) T (f_fright p))
theorem ok_law (bi : BI mg) (hrep : mg "repr" = none) (pf : PapF K mg) (xf : IxF K) (mp : MkC P w K mg base 1 "Paper" 2 fsPap) (mi : MkC P w K mg base 1 "Index" 4 fsIx) (LC : LawC P w K mg base T) (F : FnT K "law" s_law g fd) : FnG P w K mg base 15 g fd p_law (spP K T f_law) := by
  refine fn_okG (k := 14) bdOk0 F sc_law (fun ds Φ h => ?_) (by decide) (fun cdv A outer s H XE B ds Φ hM hHI hT hr hgd hf => ?_)
  · obtain ⟨_, rfl, _⟩ := h; rfl
  obtain ⟨ns, rfl, hnl, hf⟩ := hf
  subst hT
  have hu := hr.units
  have hu0 := hr.units0
  have hu2 : (A.deeper (envOfC "law" (defScope s_law) s.heap.objs.size g cdv)).units + 190 < cLine := by have := hr.un; omega
  refine dl_heap (m := 18) hM hHI hnl LC.hp (hr.mono (by omega)) (fun p q B1 hM1 hHI1 hT1 => ?_) sc_law.nd
  clear hM hHI
  have CD := LC.dr p q
  have CP := LC.pk p q
  have CW := LC.wo p q
  have CR := LC.wr p q
  have CF := LC.fr p q
  have C_pr := LC.pr
  have C_wp := LC.wp
  have C_wf := LC.wf
  have C_ti := LC.ti
  rw [← hT1] at CD CP CW CR CF C_pr C_wp C_wf C_ti
  refine dl_cons (ds_for PassesOwn.never (fun _ _ => dg_v sc_law.nd) (di_rng1 bi.range (da_cons (dw_addI (dw_addI (dw_int (dw_int1 bi.int (da_cons (dw_gt (dw_len bi.len (da_cons (dw_v rfl (da_nil (.inr (.inr ⟨_, rfl, dw_int (da_nil (.inr ⟨_, rfl, dw_int1 bi.int (da_cons (dw_gt (dw_len bi.len (da_cons (dw_v rfl (da_nil (.inr (.inr ⟨_, rfl, dw_int (da_nil (.inr ⟨_, rfl, da_nil ⟨_, rfl, ?lb1, ?lb2, fun i E' => ∃ s2 s3 s4 s5 s6 s7 s8 s9 s10 s11 s12 s13 s14 s15 s16 s17 s18 s19 : Sl, E' = [.dt (.scr ns), .dt (.raw (.ref p)), s2, s3, s4, s5, s6, s7, s8, s9, s10, s11, s12, s13, s14, s15, s16, s17, s18, s19], ?j0, ?jt, ?je⟩⟩))⟩))))))))⟩))⟩)))))))))))))))
  case lb1 => (repeat' split) <;> omega
  case lb2 => (repeat' split) <;> omega
  case j0 => exact ⟨_, _, _, _, _, _, _, _, _, _, _, _, _, _, _, _, _, _, rfl⟩
  case je =>
    rintro E' ⟨s2, s3, s4, s5, s6, s7, s8, s9, s10, s11, s12, s13, s14, s15, s16, s17, s18, s19, rfl⟩
    have exStp : stpOk (wdsD exW) := ⟨rfl, fun l e => by cases e; exact ⟨by decide, fun d hd => by obtain ⟨x, _, rfl⟩ := List.mem_map.mp hd; rfl⟩⟩
    refine dl_cons (ds_s sc_law.nd (dw_disp4 (dw_tup (da_cons (dw_int (da_cons (dw_tup (da_cons (dw_int (da_cons (dw_int (da_nil (⟨szl, da_cons (dw_tup (da_nil (⟨szl, da_nil (⟨szl, dw_tup (da_cons (dw_int (da_cons (dw_tup (da_cons (dw_int (da_cons (dw_int (da_nil (⟨szl, da_cons (dw_tup (da_nil (⟨szl, da_nil (⟨szl, dw_tup (da_cons (dw_int (da_cons (dw_tup (da_cons (dw_int (da_cons (dw_int (da_nil (⟨szl, da_cons (dw_tup (da_nil (⟨szl, da_nil (⟨szl, dw_tup (da_cons (dw_int (da_cons (dw_tup (da_cons (dw_int (da_cons (dw_int (da_nil (⟨szl, da_cons (dw_tup (da_nil (⟨szl, da_nil (⟨szl, ?x1⟩)⟩)))⟩))))))))))⟩)⟩)))⟩))))))))))⟩)⟩)))⟩))))))))))⟩)⟩)))⟩)))))))))))))
    refine dl_E (E' := [.dt (.scr ns), .dt (.raw (.ref p)), s2, .dt (stD exSt), s4, s5, s6, s7, s8, s9, s10, s11, s12, s13, s14, s15, s16, s17, s18, s19]) rfl ?_
    refine dl_cons (ds_asg (dg_tup (n := 2) rfl (dgs_cons (dg_v sc_law.nd) (dgs_cons (dg_v sc_law.nd) dgs_nil))) (dw_tup (da_cons (dw_tup (da_cons (dw_tup (da_cons (dw_str (da_cons (dw_tup (da_cons (dw_int (da_cons (dw_int (da_nil (⟨szl, da_cons (dw_tup (da_cons (dw_int (da_cons (dw_int (da_nil (⟨szl, da_nil (⟨szl, da_cons (dw_tup (da_cons (dw_int (da_cons (dw_tup (da_nil (⟨szl, da_nil (⟨szl, da_cons (dw_tup (da_cons (dw_str (da_cons (dw_tup (da_cons (dw_int (da_cons (dw_int (da_cons (dw_int (da_nil (⟨szl, da_nil (⟨szl, da_nil (⟨szl, da_cons (dw_tup (da_cons (dw_tup (da_cons (dw_str (da_cons (dw_tup (da_cons (dw_int (da_cons (dw_int (da_nil (⟨szl, da_cons (dw_tup (da_cons (dw_int (da_cons (dw_int (da_nil (⟨szl, da_nil (⟨szl, da_cons (dw_tup (da_cons (dw_int (da_cons (dw_tup (da_nil (⟨szl, da_nil (⟨szl, da_cons (dw_tup (da_cons (dw_str (da_cons (dw_tup (da_cons (dw_int (da_nil (⟨szl, da_nil (⟨szl, da_nil (⟨szl, da_nil (⟨szl, ⟨rfl, rfl, ?x2⟩⟩)⟩)⟩)⟩)))))))))⟩)⟩)))))))⟩)⟩)))))))⟩)))))))))))))⟩)⟩)⟩)))))))))))))⟩)⟩)))))))⟩)⟩)))))))⟩))))))))))))))))
    refine dl_E (E' := [.dt (.scr ns), .dt (.raw (.ref p)), s2, .dt (stD exSt), s4, s5, s6, s7, s8, s9, s10, s11, s12, s13, s14, s15, s16, .dt (lotD exOne), .dt (lotD exTwo), s19]) rfl ?_
    refine dl_cons (ds_s sc_law.nd (dw_mk mi fs_ix ‹Room _ _› (by omega) (da_cons (dw_str (da_cons (dw_str (da_cons (dw_tup (da_cons (dw_tup (da_cons (dw_str (da_cons (dw_tup (da_cons (dw_int (da_cons (dw_int (da_nil (⟨szl, da_cons (dw_tup (da_cons (dw_int (da_cons (dw_int (da_nil (⟨szl, da_nil (⟨szl, da_cons (dw_tup (da_cons (dw_int (da_cons (dw_tup (da_nil (⟨szl, da_nil (⟨szl, da_cons (dw_tup (da_cons (dw_str (da_cons (dw_tup (da_cons (dw_v rfl (da_cons (dw_v rfl (da_nil (⟨szl, da_nil (⟨szl, da_nil (⟨szl, da_cons (dw_int (da_nil (⟨rfl, ?x3⟩)))⟩)⟩)⟩)))))))))))⟩)⟩)))))))⟩)⟩)))))))⟩))))))))))))))))))))
    refine dl_E (E' := [.dt (.scr ns), .dt (.raw (.ref p)), s2, .dt (stD exSt), .dt (ixD .sum "boxes" exLot 3), s5, s6, s7, s8, s9, s10, s11, s12, s13, s14, s15, s16, .dt (lotD exOne), .dt (lotD exTwo), s19]) rfl ?_
    refine dl_cons (ds_s sc_law.nd (dw_mk mp fs_pap ‹Room _ _› (by omega) (da_cons (dw_tup (da_cons (dw_tup (da_cons (dw_int (da_cons (dw_int (da_nil (⟨szl, da_nil (⟨szl, da_cons (dw_tup (da_cons (dw_str (da_cons (dw_str (da_cons (dw_str (da_nil (⟨szl, da_nil (⟨rfl, ?x4⟩)⟩)))))))))⟩)⟩))))))))))))
    refine dl_E (E' := [.dt (.scr ns), .dt (.raw (.ref p)), s2, .dt (stD exSt), .dt (ixD .sum "boxes" exLot 3), s5, s6, s7, s8, s9, s10, s11, s12, s13, s14, .dt (papD (.tup (prsD [(4, 4)])) (wdsD exW)), s16, .dt (lotD exOne), .dt (lotD exTwo), s19]) rfl ?_
    refine dl_cons (ds_if (dt_neD hu (dw_calP C_ti ‹Room _ _› (by omega) (da_cons (dw_v rfl (da_cons (dw_v rfl (da_cons (dw_tup (da_cons (dw_str (da_cons (dw_tup (da_cons (dw_int (da_cons (dw_int (da_nil (⟨szl, da_cons (dw_int (da_cons (dw_tup (da_cons (dw_str (da_nil (⟨szl, da_nil (⟨szl, da_cons (dw_v rfl (da_nil (⟨.sum, "boxes", exLot, 3, exSt, .sum, exV, 1, .all, [(4, 4)], wdsD exW, [(4, 4), (4, 5), (4, 6)], rfl, ex_lot, ex_cnt, ex_st, exSv (by decide), Nat.zero_le _, exStp, by decide, ex_tied, ?x5⟩)))⟩)⟩)))))))⟩)))))))))))))))))))
    rw [show ([((4 : Int), (4 : Int))] : List (Int × Int)).length = 1 from rfl, ex_tiedOf]
    refine dw_tup (da_cons (dw_tup (da_cons (dw_int (da_cons (dw_int (da_nil ⟨szl, da_cons (dw_tup (da_cons (dw_int (da_cons (dw_int (da_nil ⟨szl, da_nil ⟨szl, okP_prs [(4, 5), (4, 6)], okP_prs [(4, 5), (4, 6)], _, rfl, ?y1⟩⟩))))))⟩)))))))
    show ifB (!PyData.eqv (pln (.tup (prsD [(4, 5), (4, 6)]))) (pln (.tup (prsD [(4, 5), (4, 6)])))) _ _
    rw [eqv_prs]
    refine ifB_n (fun h => (h rfl).elim) (fun _ => dl_nil ?_)
    refine dl_cons (ds_s sc_law.nd (dw_calP C_wp ‹Room _ _› (by omega) (da_cons (dw_v rfl (da_cons (dw_v rfl (da_cons (dw_str (da_cons (dw_tup (da_cons (dw_int (da_cons (dw_int (da_nil (⟨szl, da_cons (dw_int (da_cons (dw_tup (da_cons (dw_str (da_nil (⟨szl, da_nil (⟨.sum, "boxes", exLot, 3, exSt, .sum, exV, 1, .all, rfl, ex_lot, ex_cnt, ex_st, exSv (by decide), Nat.zero_le _, fun qs hp hs => ?x6⟩)⟩)))))))⟩))))))))))))))))
    rw [ex_open1] at hp
    obtain rfl := hp.eq_nil
    rw [ex_least1]
    refine dl_E (E' := [.dt (.scr ns), .dt (.raw (.ref p)), s2, .dt (stD exSt), .dt (ixD .sum "boxes" exLot 3), s5, s6, s7, s8, s9, s10, s11, s12, s13, s14, .dt (papD (.tup (prsD [(4, 4)])) (wdsD exW)), s16, .dt (lotD exOne), .dt (lotD exTwo), .dt (papD (.tup []) (wdsD ["open", "far", "far"]))]) rfl ?_
    have hk1 : okP (.tup [.tup [], wdsD ["open", "far", "far"]]) := ⟨by decide, by decide +kernel⟩
    refine dl_cons (ds_if (dt_neD hu (dw_tup (da_cons (dw_fld (ds := []) pf.cl pf.an (dw_v rfl ⟨_, _, rfl, rfl, da_cons (dw_fld (ds := []) pf.cl pf.sn (dw_v rfl ⟨_, _, rfl, rfl, da_nil ⟨szl, dw_tup (da_cons (dw_tup (da_nil ⟨szl, da_cons (dw_tup (da_cons (dw_str (da_cons (dw_str (da_cons (dw_str (da_nil ⟨szl, da_nil ⟨szl, hk1, hk1, _, rfl, ?y2⟩⟩))))))))⟩)))⟩⟩))⟩))))))
    have hz1 : (!PyData.eqv (pln (.tup [.tup [], wdsD ["open", "far", "far"]])) (pln (.tup [.tup [], wdsD ["open", "far", "far"]]))) = false := by decide +kernel
    show ifB (!PyData.eqv (pln (.tup [.tup [], wdsD ["open", "far", "far"]])) (pln (.tup [.tup [], wdsD ["open", "far", "far"]]))) _ _
    rw [hz1]
    refine ifB_f (dl_nil ?_)
    refine dl_cons (ds_ret (dw_eqD hu (dw_fld (ds := []) pf.cl pf.sn (dw_calP C_wp ‹Room _ _› (by omega) (da_cons (dw_v rfl (da_cons (dw_v rfl (da_cons (dw_str (da_cons (dw_tup (da_cons (dw_int (da_cons (dw_int (da_nil (⟨szl, da_cons (dw_int (da_cons (dw_tup (da_cons (dw_str (da_nil (⟨szl, da_nil (⟨.sum, "boxes", exLot, 3, exSt, .sum, exV, 14, .all, rfl, ex_lot, ex_cnt, ex_st, exSv (by decide), Nat.zero_le _, fun qs hp hs => ?x8⟩)⟩)))))))⟩))))))))))))))))))
    rw [ex_least14]
    have hk2 : okP (wdsD ["open", "open", "open"]) := ⟨by decide, by decide +kernel⟩
    refine ⟨_, _, rfl, rfl, dw_repT (dw_tup (da_cons (dw_str (da_nil ⟨szl, dw_int ⟨_, _, rfl, rfl, by simp, by decide, by decide, by decide, szl, hk2, hk2, ?y3⟩⟩))))⟩
    have hz2 : PyData.eqv (pln (wdsD ["open", "open", "open"])) (pln (wdsD ["open", "open", "open"])) = true := by decide +kernel
    show Φ (.bl (PyData.eqv (pln (wdsD ["open", "open", "open"])) (pln (wdsD ["open", "open", "open"]))))
    rw [hz2]
    exact hf
  case jt =>
    rintro gl i d E' hd ⟨s2, s3, s4, s5, s6, s7, s8, s9, s10, s11, s12, s13, s14, s15, s16, s17, s18, s19, rfl⟩
    refine dl_cons (ds_asg (dg_tup (n := 3) rfl (dgs_cons (dg_v sc_law.nd) (dgs_cons (dg_v sc_law.nd) (dgs_cons (dg_v sc_law.nd) dgs_nil)))) ?_)
    refine dw_cal CW (cmS hM1 hHI1) ‹Room _ _› (by omega) (da_cons (dw_v rfl (da_cons (dw_cal CP (cmS hM1 hHI1) ‹Room _ _› (by omega) (da_cons (dw_v rfl (da_cons (dw_n (dn_lst (da_cons (dw_int (da_cons (dw_int (da_cons (dw_int (da_cons (dw_int (da_cons (dw_int (da_cons (dw_int (da_nil ⟨szl, da_nil ⟨_, rfl, by simp, (show 6 < 1073741824 by decide), fun dn hdn => ?w0⟩⟩))))))))))))))))))))))
    obtain ⟨n, rfl, hn9⟩ : ∃ n : Nat, dn = .int n ∧ n ≤ 9 := by
      simp only [List.mem_cons, List.not_mem_nil, or_false] at hdn
      rcases hdn with rfl | rfl | rfl | rfl | rfl | rfl
      · exact ⟨5, rfl, by decide⟩
      · exact ⟨3, rfl, by decide⟩
      · exact ⟨8, rfl, by decide⟩
      · exact ⟨9, rfl, by decide⟩
      · exact ⟨0, rfl, by decide⟩
      · exact ⟨1, rfl, by decide⟩
    refine da_nil ⟨n, rfl, hn9, fun st k form lot v asked sv ks m nms W => ⟨rfl, rfl, ?w1⟩⟩
    obtain ⟨hst, hL, hv, hvl, hvn, hkk, hks, hlot, hkeys⟩ := W.facts
    have hcnt : lot.cnt ≤ 36 := W.ct
    have hdp : sv.depth ≤ 2 := W.dp
    show DL _ _ _ _ _
    refine dl_E (E' := [.dt (.scr ns), .dt (.raw (.ref p)), .dt d, .dt (stD st), .dt (ixD k form lot 400), .dt (qD k v asked sv), s6, s7, s8, s9, s10, s11, s12, s13, s14, s15, s16, s17, s18, s19]) rfl ?_
    refine dl_cons (ds_asg (dg_tup (n := 4) rfl (dgs_cons (dg_v sc_law.nd) (dgs_cons (dg_v sc_law.nd) (dgs_cons (dg_v sc_law.nd) (dgs_cons (dg_v sc_law.nd) (dgs_nil)))))) (dw_v rfl (⟨rfl, rfl, ?_⟩)))
    refine dl_E (E' := [.dt (.scr ns), .dt (.raw (.ref p)), .dt d, .dt (stD st), .dt (ixD k form lot 400), .dt (qD k v asked sv), .dt (.str (kS k)), .dt (vecD v), .dt (.int asked), .dt (sieD sv), s10, s11, s12, s13, s14, s15, s16, s17, s18, s19]) rfl ?_
    refine dl_cons (ds_par (hN := sc_law.nd) (ixS n_law "_law_kept") (ixS n_law "_law_pairs_here") (da_cons (dw_repr hgd hu2 hrep (da_cons (dw_tup (da_cons (dw_v rfl (da_cons (dw_fld (ds := []) xf.cl xf.ln (dw_v rfl ⟨_, lotD lot, rfl, rfl, da_nil ⟨szl, da_nil ⟨_, rfl, W.rs, (fun x e => by cases e), da_cons (dw_calP C_pr ‹Room _ _› (by omega) (da_cons (dw_v rfl (da_cons (dw_v rfl (da_cons (dw_v rfl (da_cons (dw_v rfl (da_cons (dw_n (dn_listD bi.list (da_cons (dw_v rfl (da_nil ⟨_, rfl, ?ll, da_nil ⟨st, k, v, sv, st.map (·.1), m, ?lq, hdp, hst, hL, hks, hv, hvl, hvn, da_nil ⟨_, _, rfl, ?w2⟩⟩⟩)))))))))))))))⟩⟩⟩))))))))))
    case ll => rw [List.length_map]; have := W.sl; omega
    case lq => rw [List.map_map, List.map_map]; rfl
    rw [W.all]
    have hpl : (allP st k v sv ks).length ≤ 9 := by
      have h1 := pairs_len st k v sv ks
      have h2 := W.hp.length_eq
      rw [List.length_map] at h2
      have := W.sl
      omega
    generalize hpr : allP st k v sv ks = pr at *
    refine dl_E (E' := [.dt (.scr ns), .dt (.raw (.ref p)), .dt d, .dt (stD st), .dt (ixD k form lot 400), .dt (qD k v asked sv), .dt (.str (kS k)), .dt (vecD v), .dt (.int asked), .dt (sieD sv), .dt (.str (plr (.tup [stD st, lotD lot])).shown), .dt (.lst (prsD pr)), s12, s13, s14, s15, s16, s17, s18, s19]) rfl ?_
    refine dl_cons (ds_s sc_law.nd (DW.im (Φ' := fun d => ∃ far : Int, d = .int far) ?fr fun d hd => ?w3))
    case fr =>
      refine dw_if (dt_nnil hu0 (dw_v rfl (dw_n (dn_lst (da_nil ⟨szl, _, rfl, ?_⟩)))))
      show ifB (!(prsD pr).isEmpty) _ _
      cases pr with
      | nil => exact ifB_f (dw_int ⟨_, rfl⟩)
      | cons a l =>
        refine ifB_t (dw_at (dw_at (dw_v rfl (dw_cal CD (cmS hM1 hHI1) ‹Room _ _› (by omega) (da_cons (dw_v rfl (da_cons (dw_len bi.len (da_cons (dw_v rfl (da_nil (.inl ⟨_, rfl, da_nil ⟨_, rfl, ?d1, ?d2, fun r h0 h1 => ?d3⟩⟩))))))))))))
        case d1 => rw [List.length_map, List.length_cons]; omega
        case d2 => rw [List.length_map]; omega
        have hr1 : r.toNat < (a :: l).length := by rw [List.length_map] at h1; omega
        obtain ⟨x, hx⟩ : ∃ x, (a :: l)[r.toNat]? = some x := ⟨_, List.getElem?_eq_getElem hr1⟩
        have hat : atI (prsD (a :: l)) r = some (prT x) := by
          have := atI_nat (l := prsD (a :: l)) (i := r.toNat) (a := prT x) (by unfold prsD; rw [List.getElem?_map, hx]; rfl)
          rwa [Int.toNat_of_nonneg h0] at this
        exact ⟨_, hat, dw_int ⟨_, rfl, x.1, rfl⟩⟩
    obtain ⟨far, rfl⟩ := hd
    refine dl_E (E' := [.dt (.scr ns), .dt (.raw (.ref p)), .dt d, .dt (stD st), .dt (ixD k form lot 400), .dt (qD k v asked sv), .dt (.str (kS k)), .dt (vecD v), .dt (.int asked), .dt (sieD sv), .dt (.str (plr (.tup [stD st, lotD lot])).shown), .dt (.lst (prsD pr)), .dt (.int far), s13, s14, s15, s16, s17, s18, s19]) rfl ?_
    refine dl_cons (ds_for PassesOwn.never (fun _ _ => dg_v sc_law.nd) (di_lst (dw_n (dn_lst (da_cons (dw_v rfl (da_cons (dw_cal CP (cmS hM1 hHI1) ‹Room _ _› (by omega) (da_cons (dw_v rfl (da_cons (dw_n (dn_lst (da_cons (dw_max2 bi.max (da_cons (dw_int (da_cons (dw_sub (dw_v rfl (dw_int (da_nil ⟨_, _, rfl, da_cons (dw_cal CD (cmS hM1 hHI1) ‹Room _ _› (by omega) (da_cons (dw_v rfl (da_cons (dw_int (da_nil ⟨40, rfl, by decide, by decide, fun r h0 h1 => da_nil ⟨szl, da_nil ⟨_, rfl, by simp, (show 2 < 1073741824 by decide), fun dz hdz => da_nil ⟨szl, _, rfl, fun j E' => ∃ s13 : Sl, E' = [.dt (.scr ns), .dt (.raw (.ref p)), .dt d, .dt (stD st), .dt (ixD k form lot 400), .dt (qD k v asked sv), .dt (.str (kS k)), .dt (vecD v), .dt (.int asked), .dt (sieD sv), .dt (.str (plr (.tup [stD st, lotD lot])).shown), .dt (.lst (prsD pr)), .dt (.int far), s13, s14, s15, s16, s17, s18, s19], ⟨_, rfl⟩, ?rt, ?re⟩⟩⟩⟩))))))⟩))))))))))))))))))))))
    case rt =>
      rintro gl2 j d2 E' hd2 ⟨s13, rfl⟩
      obtain ⟨z, rfl⟩ : ∃ z : Int, d2 = .int z := by
        have hm := List.mem_of_getElem? hd2
        simp only [List.mem_cons, List.not_mem_nil, or_false] at hm hdz
        rcases hm with rfl | rfl
        · exact ⟨_, rfl⟩
        · rcases hdz with rfl | rfl <;> exact ⟨_, rfl⟩
      refine dl_one (ds_if (dt_not (dt_val (dw_calG CR hgd (cmS hM1 hHI1) ‹Room _ _› (by omega) (da_cons (dw_v rfl (da_cons (dw_v rfl (da_cons (dw_v rfl (da_cons (dw_v rfl (da_cons (dw_v rfl (da_nil ⟨st, k, form, lot, v, asked, sv, ks, m, nms, z, rfl, W, true, rfl, ifB_f (dl_nil ⟨_, rfl⟩)⟩)))))))))))))))
    case re =>
      rintro E' ⟨s13, rfl⟩
      refine dl_cons (ds_if (dt_not (dt_val (dw_calG CF hgd (cmS hM1 hHI1) ‹Room _ _› (by omega) (da_cons (dw_v rfl (da_cons (dw_v rfl (da_cons (dw_v rfl (da_cons (dw_v rfl (da_nil ⟨st, k, form, lot, v, asked, sv, ks, m, nms, rfl, W, true, rfl, ifB_f (dl_nil ?f1)⟩)))))))))))))
      refine dl_cons (ds_s sc_law.nd (dw_cal CP (cmS hM1 hHI1) ‹Room _ _› (by omega) (da_cons (dw_v rfl (da_cons (dw_n (dn_lst (da_cons (dw_str (da_cons (dw_str (da_cons (dw_str (da_cons (dw_str (da_nil ⟨szl, da_nil ⟨_, rfl, by simp, (show 4 < 1073741824 by decide), fun dk hdk => ?f2⟩⟩))))))))))))))))
      obtain ⟨ok, rfl⟩ : ∃ ok : Kd, dk = .str (kS ok) := by
        simp only [List.mem_cons, List.not_mem_nil, or_false] at hdk
        rcases hdk with rfl | rfl | rfl | rfl
        · exact ⟨.square, rfl⟩
        · exact ⟨.sum, rfl⟩
        · exact ⟨.most, rfl⟩
        · exact ⟨.unlike, rfl⟩
      refine dl_E (E' := [.dt (.scr ns), .dt (.raw (.ref p)), .dt d, .dt (stD st), .dt (ixD k form lot 400), .dt (qD k v asked sv), .dt (.str (kS k)), .dt (vecD v), .dt (.int asked), .dt (sieD sv), .dt (.str (plr (.tup [stD st, lotD lot])).shown), .dt (.lst (prsD pr)), .dt (.int far), s13, .dt (.str (kS ok)), s15, s16, s17, s18, s19]) rfl ?_
      refine dl_cons (ds_s sc_law.nd (dw_calP C_wp ‹Room _ _› (by omega) (da_cons (dw_v rfl (da_cons (dw_v rfl (da_cons (dw_v rfl (da_cons (dw_v rfl (da_cons (dw_v rfl (da_cons (dw_v rfl (da_nil ⟨k, form, lot, 400, st, k, v, far, sv, rfl, hlot, by omega, hst, hv, hdp, fun qs hp hs => ?f3⟩)))))))))))))))
      have hll : (leastS k v sv (some far) lot).length ≤ 1000 := least_len _ _ _
      generalize hans : qs.filter (fun q => decide (q.1 ≤ far)) = ans
      generalize hlst : leastS k v sv (some far) lot = lst at *
      refine dl_E (E' := [.dt (.scr ns), .dt (.raw (.ref p)), .dt d, .dt (stD st), .dt (ixD k form lot 400), .dt (qD k v asked sv), .dt (.str (kS k)), .dt (vecD v), .dt (.int asked), .dt (sieD sv), .dt (.str (plr (.tup [stD st, lotD lot])).shown), .dt (.lst (prsD pr)), .dt (.int far), s13, .dt (.str (kS ok)), .dt (papD (.tup (prsD ans)) (wdsD lst)), s16, s17, s18, s19]) rfl ?_
      refine dl_cons (ds_for PassesOwn.never (fun _ _ => dg_v sc_law.nd) (di_lst (dw_n (dn_lst (da_cons (dw_v rfl (da_cons (dw_mk mp fs_pap ‹Room _ _› (by omega) (da_cons (dw_non (da_cons (dw_non (da_nil ⟨rfl, da_nil ⟨szl, _, rfl, fun j E' => ∃ s16 : Sl, E' = [.dt (.scr ns), .dt (.raw (.ref p)), .dt d, .dt (stD st), .dt (ixD k form lot 400), .dt (qD k v asked sv), .dt (.str (kS k)), .dt (vecD v), .dt (.int asked), .dt (sieD sv), .dt (.str (plr (.tup [stD st, lotD lot])).shown), .dt (.lst (prsD pr)), .dt (.int far), s13, .dt (.str (kS ok)), .dt (papD (.tup (prsD ans)) (wdsD lst)), s16, s17, s18, s19], ⟨_, rfl⟩, ?vt, ?ve⟩⟩)))))))))))))
      case vt =>
        rintro gl2 j d2 E' hd2 ⟨s16, rfl⟩
        obtain ⟨vp, hvp, hvo, hvf⟩ : ∃ vp : VP, d2 = vpD vp ∧ VpOk vp ∧ (k ≠ ok → wfault k lot st ok v far sv vp = some (("kind" : Str), (0 : Int))) := by
          have hm := List.mem_of_getElem? hd2
          simp only [List.mem_cons, List.not_mem_nil, or_false] at hm
          rcases hm with rfl | rfl
          · exact ⟨.pap (some ans) (wdsD lst), rfl, ⟨rfl, fun l e => by cases e; exact ⟨by rw [List.length_map]; exact hll, fun d hd => by obtain ⟨x, _, rfl⟩ := List.mem_map.mp hd; rfl⟩⟩, fun h => if_neg h⟩
          · exact ⟨.pap none .non, rfl, ⟨rfl, fun l e => by cases e⟩, fun h => if_neg h⟩
        subst hvp
        refine dl_one (ds_if (dt_w (dtw_and (dt_ne (dw_v rfl (dw_v rfl ⟨_, rfl, ifB_n (fun hne => ?v1) (fun _ => ifB_f (dl_nil ⟨_, rfl⟩))⟩))))))
        refine dtw_and1 (dt_neD hu (dw_calP C_wf ‹Room _ _› (by omega) (da_cons (dw_v rfl (da_cons (dw_v rfl (da_cons (dw_v rfl (da_cons (dw_v rfl (da_cons (dw_v rfl (da_cons (dw_v rfl (da_cons (dw_v rfl (da_nil ⟨k, form, lot, 400, st, ok, v, far, sv, vp, rfl, hlot, by omega, hst, hv, hdp, hvo, dw_tup (da_cons (dw_str (da_cons (dw_int (da_nil ⟨szl, ?v2⟩)))))⟩)))))))))))))))))
        rw [hvf (fun e => hne (by rw [e]))]
        have hk : okP (.tup [.str "kind", .int 0]) := ⟨by decide, by decide +kernel⟩
        refine ⟨hk, hk, _, rfl, ?_⟩
        have hz : (!PyData.eqv (pln (.tup [.str "kind", .int 0])) (pln (.tup [.str "kind", .int 0]))) = false := by decide +kernel
        show ifB (!PyData.eqv (pln (.tup [.str "kind", .int 0])) (pln (.tup [.str "kind", .int 0]))) _ _
        rw [hz]
        exact ifB_f (dl_nil ⟨_, rfl⟩)
      case ve =>
        rintro E' ⟨s16, rfl⟩
        refine dl_one (ds_if (dt_ne (dw_repr hgd hu2 hrep (da_cons (dw_tup (da_cons (dw_v rfl (da_cons (dw_fld (ds := []) xf.cl xf.ln (dw_v rfl ⟨_, lotD lot, rfl, rfl, da_nil ⟨szl, da_nil ⟨_, rfl, W.rs, (fun x e => by cases e), dw_v rfl ⟨_, rfl, ifB_n (fun h => (h rfl).elim) (fun _ => dl_nil ?v3)⟩⟩⟩⟩))))))))))
        exact ⟨_, _, _, _, _, _, _, _, _, _, _, _, _, _, _, _, _, _, rfl⟩
end
end N
set_option Elab.async false
set_option linter.all false
set_option maxRecDepth 100000
set_option maxHeartbeats 1000000
namespace N
open PySem
open PySem.Spec
open PyProof.Rows
open L2
/-! IPa: the making of InvalidPaper. -/
/-- what is known of the class -/
structure IPK (P : Program) (K : PySem.W.Frag) (mg : Str → Option Value) (C : Addr) : Prop where
  ox : OexC K C
  mgC : mg "InvalidPaper" = some (.ref C)
  sup : mg "super" = none
  top : (P.main.scope.names.lookup ("super" : Str)).isSome = false
  si : PySem.W.ks_superIn K C C "__init__" = some (some (.builtin "ValueError.__init__"))
  sub : PySem.W.subIn K (.ref C) (.type "ValueError") = some true
  selfm : PySem.W.mroIn K C (.ref C) = some true
  noat : PySem.W.findIn K (.ref C) "at" = some none
  tp : PySem.W.nsIn K cStatics "thirdparty.any" = some none
  fn : ∃ (fI : Addr) (oc : Value) (od : Option Addr) (osl : Array (Option Value)) (qual : Str) (kV doc pm : Value) (an : Option Addr) (cda : Addr) (ct : Value) (cc : Addr) (vs : Array Value) (file : Str) (tf : Tok) (ccl : Value) (cdd : Option Addr) (ccs : Array (Option Value)) (cl : Value) (cld : Option Addr) (csl : Array (Option Value)),
    PySem.W.findIn K (.ref C) "__init__" = some (some (.ref fI)) ∧ PySem.W.typeIn K (.ref fI) = some (.type "function") ∧
    K.lookup fI = some ⟨oc, od, .func (PySem.W.fnX "__init__" qual (defArgs s_IP_init) (defBody s_IP_init) (defScope s_IP_init) [("__class__", cc)] .none kV doc pm an (.ref cda) ct), osl⟩ ∧ PySem.W.codeIn K (.ref cda) qual = true ∧
    K.lookup cda = some ⟨ccl, cdd, .fields vs, ccs⟩ ∧ vs[2]? = some (.str file tf) ∧ ((P.main.file : Str) == file) = true ∧ K.lookup cc = some ⟨cl, cld, .cell (some (.ref C)), csl⟩
def spIP (C : Addr) : Sp := fun vs H Q _ => ∃ (a : Addr) (v : V), vs = [.ref a, v] ∧ H a = some (exo a C none) ∧ ∀ dx, H dx = none → dx ≠ a → Q .non (upd (upd H dx (exd dx [("at", v)])) a (exo a C (some dx)))
section
variable {P : Program} {w : World} {K : PySem.W.Frag} {mg : Str → Option Value} {base : Heap} {C : Addr}
theorem ip_run (T : IPK P K mg C) : ∃ (fI : Addr) (fd : FuncData), PySem.W.findIn K (.ref C) "__init__" = some (some (.ref fI)) ∧ PySem.W.typeIn K (.ref fI) = some (.type "function") ∧ Binds K fd ["self", "at"] [] ∧ FnOk P w K mg base CX0 1 fI fd ["self", "at"] (spIP C) := by
  obtain ⟨fI, oc, od, osl, qual, kV, doc, pm, an, cda, ct, cc, vs, file, tf, ccl, cdd, ccs, cl, cld, csl, h1, h2, lk, hcd, hcode, hvs, hfile, hcell⟩ := T.fn
  refine ⟨fI, PySem.W.fnX "__init__" qual (defArgs s_IP_init) (defBody s_IP_init) (defScope s_IP_init) [("__class__", cc)] .none kV doc pm an (.ref cda) ct, h1, h2, ?_, ⟨fun vs H Q E h => ?_, fun A outer s H args us vs2 Q E hr e0 hb rv h => ?_⟩⟩
  · refine Binds.all fun us hl => ?_
    match us, hl with
    | [x, y], _ => first | rfl | with_unfolding_all rfl
  · obtain ⟨a, v, rfl, _⟩ := h; rfl
  obtain ⟨a, v, rfl, ha, hq⟩ := h
  obtain ⟨u, rfl, rvu⟩ : ∃ u, us = [.ref a, u] ∧ RelV v u := by
    cases rv with
    | cons r1 r => cases r with
      | cons r2 r => cases r; cases r1; exact ⟨_, rfl, r2⟩
  have KX : K.In s.heap := e0.mod.kin.keeps fun b o e => (e0.bs b o e).1
  have lim : s.heap.NoLimit := e0.mod.nolimit.keeps fun b o e => (e0.bs b o e).1
  obtain ⟨nm, q, N, bs, bm, sn, sub, ab, col, dd, k0, k1, k2, k3, k5, hC, hbm⟩ := T.ox.cls
  have hcl : PySem.W.clsIn K C = some { name := nm, bases := bs, mro := .ref C :: bm, ns := N, qualname := q, hasDict := true, slotNames := sn, subclasses := sub, abstract := ab, collection := col, hasDel := false } := by unfold PySem.W.clsIn; rw [hC] <;> rfl
  obtain ⟨t1, hoe⟩ := exo_at e0.hok ha
  refine ks_codeAny_call_defAt hr.depth (KX _ _ lk) rfl lim (PySem.W.codeRec_of KX hcd) rfl hb (show ∀ x ∈ (defScope s_IP_init).names, x.2 ≠ NameKind.cell by decide +kernel) ?hloc (fun h0 hns hk => ?_) rfl rfl rfl
  case hloc =>
    intro x hx
    have hx : x ∈ [(("self" : Str), Value.ref a), ("at", u)] := hx
    simp only [List.mem_cons, List.not_mem_nil, or_false] at hx
    rcases hx with rfl | rfl <;> rfl
  have X0 : K.In h0 := KX.keeps hk
  have hfr : h0.Ns mainGlobals mg := e0.mod.glob.keeps fun b o e => hk b o (e0.bs b o e).1
  obtain ⟨mb, hB0, hbb⟩ := e0.mod.blt
  have hB : h0.Ns builtinsNs mb := hB0.keeps fun b o e => hk b o (e0.bs b o e).1
  have he0 := hk _ _ hoe
  have hC0 := X0 _ _ hC
  have hnsv : ∀ (x : Str) (z : Value), [(("self" : Str), Value.ref a), ("at", u)].reverse.lookup x = some z → (fun x => (List.zip [("self" : Str), "at"] [Value.ref a, u]).reverse.lookup x) x = some z := fun x z h => h
  refine ks_wpAt_execs_cons (ks_wpAt_Expr_any (ks_wpAt_MethodCall ?mc))
  refine ks_wpAt_super_base rfl rfl rfl rfl (X0 _ _ lk) rfl rfl rfl (X0 _ _ hcode) rfl hvs hfile T.top ?_
  refine PySem.W.ks_loadName_global rfl rfl (PySem.Calls.loadGlobal_builtin hfr T.sup hB ((hbb _ (by decide +kernel)).trans (show bootBuiltins "super" = some (.type "super") by decide +kernel)) ⟨rfl, ?_⟩)
  refine wpAny_loadName_free rfl rfl rfl ⟨_, X0 _ _ hcell, rfl⟩ ?_
  refine wpAny_loadName_local rfl rfl hns (hnsv "self" _ rfl) ?_
  refine ks_wpAny_isType_cls hC0 rfl ⟨rfl, ?_⟩
  refine ks_wpAny_call_super hC0 rfl he0 rfl (fun c e => by cases e) (PySem.W.looks_mroIn X0 T.selfm) (fun h1 e1 k1 => ?_)
  have X1 : K.In h1 := X0.keeps k1
  have he1 := k1 _ _ he0
  have hI1 : PySem.W.Looks (model P w) h1 (isInstance (.ref a) (.type "ValueError")) true := (PySem.W.InstAt.type (⟨he1, rfl, rfl, trivial⟩ : PySem.W.InstAt h1 a ⟨.ref C, none, .fields #[.ref t1, .none, .none, .none, .bool false, .none], #[]⟩ C none)).andThen (PySem.W.looks_subIn X1 T.sub)
  have hne : a ≠ C := fun e => by rw [e, hC0] at he0; cases he0
  refine PySem.W.kxs_getMethod PySem.W.kxs_ValueError e1 (PySem.W.looks_opaque X1 T.tp) (l₀ := .ref C :: bm) ?hmro rfl X1 ?hal hI1 hne rfl ?_
  case hmro => exact fun A Q E s k q => wpAny_bind ((PySem.W.looks_clsIn X1 hcl) A _ E s k (wpAny_pure q))
  case hal =>
    have := T.si
    unfold PySem.W.ks_superIn at this
    rw [hcl] at this
    exact this
  have k2 : ∀ b o, h1.get? b = some o → (h1.push (PySem.W.kxs_mw "ValueError.__init__" a)).get? b = some o := fun b o z => Heap.get?_push_of_some _ z
  have hu2 : (h1.push (PySem.W.kxs_mw "ValueError.__init__" a)).get? h1.objs.size = some (PySem.W.kxs_mw "ValueError.__init__" a) := Heap.get?_push_at rfl rfl
  generalize hh2 : h1.push (PySem.W.kxs_mw "ValueError.__init__" a) = h2 at *
  refine PySem.W.kxs_callWith (i := "ValueError.__init__") (x := a) rfl ?_
  refine PySem.Calls.evalArgs_plain ?_
  refine PySem.Calls.spliced_cons ?_
  refine wpAny_Constant_str (k := 0) (pos := ⟨8, 25, 8, 40⟩) ?_
  refine PySem.Calls.spliced_nil ⟨hu2, ?_⟩
  have X2 : K.In h2 := X1.keeps k2
  have he2 := k2 _ _ he1
  refine wpAny_call (codeAny_of_tree ?_)
  show wpAny _ (A.deeper _).in1 (callAny (.ref h1.objs.size) ⟨_, []⟩) _ _ _
  simp only [callAny]
  refine wpAny_bind (wpAny_load hu2 ?_)
  simp only [PySem.W.kxs_mw, show (Value.type "method-wrapper" == Value.type "method" || Value.type "method-wrapper" == Value.type "builtin_function_or_method" || Value.type "method-wrapper" == Value.type "method-wrapper") = true by decide, if_true]
  refine PySem.W.KFB.if_so (by decide) ?_
  refine wpAny_bind (PySem.W.check_bound_init F.excBase_ValueError.toExcCallFacts (X2 _ _ hC) he2 rfl ?_)
  refine wpAny_bind (wpAny_pure (wpAny_pure ?_))
  refine ⟨plainId_quiet F.excBase_ValueError.init.plain _, codeAny_builtin F.excBase_ValueError.initEntry ?_⟩
  refine PySem.W.exc_init_tree (cls := .ref C) (t0 := t1) (dv := none) (c2 := .none) (c3 := .none) (b4 := .bool false) he2 (Nat.le_trans (show 1 ≤ 1000 by decide) szl) fun h3 k3 he3 _ => ?_
  have kn : ∀ b o, K.lookup b = some o → b ≠ a := fun b o e z => by
    have := (e0.bs b o (e0.mod.kin b o e)).2
    rw [z, ha] at this
    cases this
  have X3 : K.In h3 := fun b o e => k3 b o (kn b o e) (X2 b o e)
  have kk : ∀ b o, b ≠ a → s.heap.get? b = some o → h3.get? b = some o := fun b o n e => k3 b o n (k2 b o (k1 b o (hk b o e)))
  have hns3 : h3.Ns s.heap.objs.size (fun x => (List.zip [("self" : Str), "at"] [Value.ref a, u]).reverse.lookup x) := by
    obtain ⟨oL, es, ep, hL, r⟩ := hns
    exact ⟨oL, es, ep, k3 _ _ (Nat.ne_of_gt (Heap.lt_size hoe)) (k2 _ _ (k1 _ _ hL)), r⟩
  refine PySem.wpAt_of_wpAny (wpAny_execs_cons (plainObj_wpAny_Assign_Attribute ?_))
  refine wpAny_Name (wpAny_loadName_local rfl rfl hns3 (hnsv "at" _ rfl) ?_)
  refine wpAny_Name (wpAny_loadName_local rfl rfl hns3 (hnsv "self" _ rfl) ?_)
  refine PySem.W.set_plain X3 (ox := { cls := .ref C, dict := none, data := .fields #[.ref h2.objs.size, .none, .none, .none, .bool false, .none] }) (od := none) ⟨he3, rfl, rfl, trivial⟩ T.ox.sa ?_
  refine PySem.HandSPX.exc_osa X3 he3 hcl (show PySem.HandSPX.refsVE (.ref C :: bm) = true from hbm) rfl T.noat (fun h4 tk' dx k4 dn dne hx4 hn4 => ?_)
  refine wpAny_execs_nil ?_
  have k5 : ∀ b o, b ≠ a → s.heap.get? b = some o → h4.get? b = some o := fun b o n e => k4 b o n (kk b o n e)
  have nd : ∀ {b : Addr} {o : Obj}, s.heap.get? b = some o → b ≠ dx := fun {b o} q z => by
    by_cases hb : b = a
    · exact dne (z ▸ hb)
    · have := Heap.lt_size (kk b o hb q)
      rw [z] at this
      exact absurd (Nat.lt_of_lt_of_le this dn) (Nat.lt_irrefl _)
  have hnd : H dx = none := by
    obtain ⟨oL, _, _, hL, _⟩ := hns3
    have l1 := Heap.lt_size hL
    exact e0.hok.fresh (Nat.le_of_lt (Nat.lt_of_lt_of_le l1 dn))
  have na : ∀ {b : Addr}, H b = none → b ≠ a := fun {b} n z => by
    rw [z, ha] at n
    cases n
  refine ⟨.non, _, rfl, e0.bare, ?_, ?_, rfl, hq dx hnd dne⟩
  · exact {
      keep := fun b o q n _ _ => k5 b o (na n) q
      slot := fun b o q n _ _ => ⟨o.slots, k5 b o (na n) q⟩
      free := fun b o q n _ => by rw [upd_ne (na n), upd_ne (nd q)]; exact n
      there := fun b o q _ => by
        by_cases hb : b = a
        · exact ⟨_, by rw [hb]; exact hx4⟩
        · exact ⟨o, k5 b o hb q⟩
      tups := fun b xs q => by rw [upd_ne (at_ne ha q exo_tup), upd_ne (ne_of_none q hnd)]; exact q
      frzs := fun b o v q => by rw [upd_ne (at_ne ha q exo_frz), upd_ne (ne_of_none q hnd)]; exact q
      tbls := fun b ps q => ⟨#[], by rw [upd_ne (at_ne ha q exo_tbl), upd_ne (ne_of_none q hnd), q]; simp⟩ }
  · intro b o q
    by_cases hb : b = a
    · subst hb
      rw [upd_same] at q
      cases q
      exact exo_ok hx4
    · rw [upd_ne hb] at q
      by_cases hd : b = dx
      · subst hd
        rw [upd_same] at q
        cases q
        exact exd_ok hn4 (relO_put (fs := []) rvu fun g => True.intro)
      · rw [upd_ne hd] at q
        exact (e0.hok b o q).stay (fun c v hc z => k5 c v (by
            rcases hc with hc | hc
            · rw [hc]
              exact hb
            · exact at_ne ha hc exo_own) z)
          (fun c hc => by rw [upd_ne (at_ne ha hc exo_own), upd_ne (ne_of_none hc hnd)]; exact hc) (fun c xs hc => by rw [upd_ne (at_ne ha hc exo_tup), upd_ne (ne_of_none hc hnd)]; exact hc)
end
end N
set_option Elab.async false
set_option linter.all false
set_option maxRecDepth 100000
set_option maxHeartbeats 1000000
namespace N
open PySem
open PySem.Spec
open PyProof.Rows
open L2
/-! IPb: InvalidPaper(e). -/
section
variable {P : Program} {w : World} {K : PySem.W.Frag} {mg : Str → Option Value} {base : Heap} {C : Addr}
theorem ip_ok (k : Nat) (hk : 2 ≤ k) (T : IPK P K mg C) : IPok P w K mg base C k := by
  intro X e p pos hP hW hK hM hB hr hg hst hpl
  subst hP hW hK hM hB
  obtain ⟨fI, fd, iC, tI, hb, F1⟩ := ip_run (w := X.w) (base := X.base) T
  intro pins s σ H Q I h
  refine pmk_oex (ta := semA X [e]) (dvs := []) (ds := []) T.ox iC tI F1 (hr.mono hk) hb .nil (fun _ _ _ _ _ _ _ z => z.elim) hg T.mgC (qA (X := X) (es := [e])) (by decide) hst hpl pins s σ H Q I ?_
  refine ⟨fun pos pins s I => thn ((semA_one hst h).run pos pins s I) fun us s1 q => ?_⟩
  obtain ⟨vs, H1, I1, r1, v, rfl, q1⟩ := q
  refine ⟨_, H1, I1, r1, Nat.le_trans (show 1 ≤ 1000 by decide) (Nat.le_refl _), fun a ha => ⟨a, v, rfl, upd_same, fun dx hdx hne => ⟨rfl, dx, [("at", v)], upd_same, ?_, ?_, q1 dx _ ?_ upd_same fun b hb => ?_⟩⟩⟩
  · rw [upd_ne hne, upd_same]
  · rw [← hdx, upd_ne hne]
  · rw [← hdx, upd_ne hne]
  · rw [upd_ne hb]
    by_cases hba : b = a
    · rw [hba, del_same, ha]
    · rw [del_ne hba, upd_ne hba, upd_ne hb, upd_ne hba]
end
end N
set_option Elab.async false
set_option linter.all false
set_option maxRecDepth 100000
set_option maxHeartbeats 1000000
namespace N
open PySem
open PySem.Spec
open PyProof.Rows
open L2
/-! HF: what the head's facts give. -/
section
variable {h : Heap} {K : PySem.W.Frag} {mg : Str → Option Value}
theorem sy_a (S : SaysY h K) : exA K = true := (He.ba S.x).1
theorem sy_b (S : SaysY h K) : exB K = true := (He.ba (He.ba S.x).2).1
theorem sy_c (S : SaysY h K) : exC K = true := (He.ba (He.ba (He.ba S.x).2).2).1
theorem sy_d (S : SaysY h K) : exD K = true := (He.ba (He.ba (He.ba S.x).2).2).2
theorem sy_fa (S : SaysY h K) (i : Nat) {f : He.Fa} (e : fa[i]? = some f) : f.ok K = true := S.d.facts (List.mem_of_getElem? e)
theorem sy_ipfn (S : SaysY h K) : ∃ (oc : Value) (od : Option Addr) (osl : Array (Option Value)) (kV doc pm : Value) (an : Option Addr) (cda : Addr) (ct : Value) (cc : Addr), K.lookup (fIP K) = some ⟨oc, od, .func (PySem.W.fnX "__init__" "InvalidPaper.__init__" (defArgs s_IP_init) (defBody s_IP_init) (defScope s_IP_init) [("__class__", cc)] .none kV doc pm an (.ref cda) ct), osl⟩ ∧
    PySem.W.codeIn K (.ref cda) "InvalidPaper.__init__" = true ∧ fileB K cda R.prog.main.file = true ∧ cellB K cc (cIP K) = true := by
  have hb : ipB K = true := (He.ba (He.ba (He.ba (sy_d S)).2).2).1
  have e := S.ip
  unfold ipB at hb
  unfold ipW at e
  cases q : K.lookup (fIP K) with
  | none =>
    rw [q] at hb
    cases hb
  | some o =>
    obtain ⟨oc, od, dt, osl⟩ := o
    rw [q] at hb e
    cases dt with
    | func fd =>
      obtain ⟨n1, n2, n3, n4, n5, n6, n7, n8, n9, n10, n11, n12, n13, n14, n15⟩ := fd
      have e2 : (some (n1, n2, n3, n4, n5, n6, n7.map (·.1), n15) : IpV) = ipV := e
      unfold ipV at e2
      simp only [Option.some.injEq, Prod.mk.injEq] at e2
      obtain ⟨h1, h2, h3, h4, h5, h6, h7, h8⟩ := e2
      subst h1 h2 h3 h4 h5 h6 h8
      obtain ⟨cda, cc, d1, d2, d3, b1, b3, b4⟩ := ipC_ok (show ipC K n8 n7 n13 = true from hb) h7
      subst d1 d2 d3
      exact ⟨oc, od, osl, n9, n10, n11, n12, cda, n14, cc, rfl, b1, b3, b4⟩
    | _ => cases hb
theorem sy_ipk (S : SaysY h K) (mgC : mg "InvalidPaper" = some (.ref (cIP K))) (sup : mg "super" = none) (na : NoAttr K (cIP K) "at") : IPK R.prog K mg (cIP K) := by
  obtain ⟨b0, hb⟩ := He.ba (sy_b S)
  obtain ⟨b1, hb⟩ := He.ba hb
  obtain ⟨b2, hb⟩ := He.ba hb
  obtain ⟨b3, b4⟩ := He.ba hb
  obtain ⟨c0, hc⟩ := He.ba (sy_c S)
  obtain ⟨c1, hc⟩ := He.ba hc
  obtain ⟨c2, c3⟩ := He.ba hc
  obtain ⟨d0, hd⟩ := He.ba (sy_d S)
  obtain ⟨d1, hd⟩ := He.ba hd
  obtain ⟨oc, od, osl, kV, doc, pm, an, cda, ct, cc, lk, f1, f2, f3⟩ := sy_ipfn S
  obtain ⟨ccl, cdd, vs, ccs, f, tf, g1, g2, g3⟩ := fileB_ok f2
  obtain ⟨cl, cld, csl, g4⟩ := cellB_ok f3
  exact ⟨⟨oexB_ok b0, He.eqO_ok b1, of_decide_eq_true b2, of_decide_eq_true b3, b4⟩, mgC, sup, by decide +kernel, of_decide_eq_true c0, of_decide_eq_true c1, of_decide_eq_true c2, na, He.eqO_ok c3,
    ⟨fIP K, oc, od, osl, "InvalidPaper.__init__", kV, doc, pm, an, cda, ct, cc, vs, f, tf, ccl, cdd, ccs, cl, cld, csl, He.eqO_ok d0, of_decide_eq_true d1, lk, f1, g1, g2, g3, g4⟩⟩
theorem sy_ipf (S : SaysY h K) (mgC : mg "InvalidPaper" = some (.ref (cIP K))) (na : NoAttr K (cIP K) "at") : IPF K mg (cIP K) := by
  obtain ⟨_, hd⟩ := He.ba (sy_d S)
  obtain ⟨_, hd⟩ := He.ba hd
  obtain ⟨_, hd⟩ := He.ba hd
  obtain ⟨d1, d2⟩ := He.ba hd
  exact ⟨xfB_ok d1, na, mgC, of_decide_eq_true d2⟩
theorem sy_isc (S : SaysY h K) (cl : Cls K (He.ga K "Paper")) : IsC K "Paper" := by
  obtain ⟨_, h1⟩ := He.ba (sy_a S)
  obtain ⟨_, h2⟩ := He.ba h1
  obtain ⟨h3, _⟩ := He.ba h2
  obtain ⟨a0, hb⟩ := He.ba h3
  obtain ⟨a1, hb⟩ := He.ba hb
  obtain ⟨a2, hb⟩ := He.ba hb
  obtain ⟨a3, hb⟩ := He.ba hb
  obtain ⟨a4, hb⟩ := He.ba hb
  obtain ⟨a5, a6⟩ := He.ba hb
  refine ⟨cl, He.eqO_ok a0, He.eqO_ok a1, of_decide_eq_true a2, of_decide_eq_true a3, of_decide_eq_true a4, of_decide_eq_true a5, of_decide_eq_true a6⟩
theorem sy_sw (S : SaysY h K) (hg : mg "STEP_WORDS" = some (.ref (He.ga K "STEP_WORDS"))) : SW K mg := ⟨_, hg, fun H => He.tupB_ok (He.ba (He.ba (sy_a S)).2).1 H⟩
end
end N
set_option Elab.async false
set_option linter.all false
set_option maxRecDepth 100000
set_option maxHeartbeats 1000000
namespace N
open PySem
open PySem.Spec
open PyProof.Rows
open L2
/-! FE: the end of the law's row: law is called where no repr is under way; one table of code objects. -/
section
variable {P : Program} {w : World} {K : PySem.W.Frag} {mg mb : Str → Option Value} {k : Nat} {f a c T : Addr} {fd : FuncData} {x : Str} {sp : Sp} {s : Shared} {vs : List Value} {ns : List Int}
/-- what may be tracked when the law is called: its script, the table -/
structure Trk (K : PySem.W.Frag) (s : Shared) (a T : Addr) (H : Hp) : Prop where
  tb : H T = some (.tbl #[])
  ot : ∀ b, b ≠ T → H b = none ∨ (b = a ∧ K.lookup a = none ∧ ∃ o xs, H b = some (.frz o (.lst xs)))
theorem end_core (KX : K.In s.heap) (hns : s.heap.Ns mainGlobals mg) (hb : s.heap.Ns builtinsNs mb) (hbb : ∀ y : Str, y ≠ "__name__" → mb y = bootBuiltins y) (hlim : s.heap.NoLimit) (hg : s.gens = #[]) (hT : s.heap.get? T = some { cls := .none, data := .fields #[] }) (nT : K.lookup T = none)
    (C : PySem.W.CodeHd s.heap c T) (hbm : ∃ (bm : Addr) (ob : Obj), mg "__builtins__" = some (.ref bm) ∧ bm ≠ builtinsNs ∧ s.heap.get? bm = some ob ∧ ob.cls = .type "module" ∧ ob.dict = some builtinsNs ∧ ob.data = .plain)
    (ha : s.heap.get? a = some { cls := .type "list", data := .seq vs.toArray }) (hr : Room k callerA) (F : ∀ base : Heap, K.In base → base.Ns mainGlobals mg → LamX.TabB base mg c T → FnG P w K mg base k f fd [x] sp)
    (hbind : ∀ (s : Shared) (u : Value), BindsTo s fd ⟨[u], []⟩ [(x, u)]) {H : Hp} (tr : Trk K s a T H) (hok : HOk P w H s.heap) (hsp : sp [.ref a] H (fun v _ => v = .bl true) fun _ _ _ => False) :
    codeAny (model P w) callerA (.call (.ref f) ⟨[.ref a], []⟩) (fun r s' => r = .ok (.ret (.bool true)) ∧ OldK s.heap s'.heap ∧ s'.os = s.os ∧ AllBare s'.gens) s := by
  have aT : a ≠ T := fun z => by
    rw [z, hT] at ha
    exact (show Data.fields #[] ≠ Data.seq vs.toArray from fun y => by cases y) (congrArg Obj.data (Option.some.inj ha))
  -- an object with other data than a list's, the table's is not tracked
  have un : ∀ {b : Addr} {o : Obj}, s.heap.get? b = some o → (∀ us n, o.data ≠ .seq us n) → o.data ≠ .fields #[] → H b = none := fun {b o} e n1 n2 => by
    by_cases hbT : b = T
    · rw [hbT, hT] at e
      exact absurd (congrArg Obj.data (Option.some.inj e)).symm n2
    · rcases tr.ot b hbT with q | ⟨q, _⟩
      · exact q
      · rw [q, ha] at e
        exact absurd (congrArg Obj.data (Option.some.inj e)).symm (n1 _ _)
  have bs : ∀ {b : Addr} {o : Obj}, s.heap.get? b = some o → H b = none → (hidT s.heap H).get? b = some o := hidT_get
  have und : ∀ {b : Addr} {o : Obj} {es : Array DictEntry} {ep : Nat}, s.heap.get? b = some o → o.data = .dict es ep → H b = none := fun e d => un e (by rw [d]; exact fun _ _ z => by cases z) (by rw [d]; exact fun z => by cases z)
  have tons : ∀ {b : Addr} {m : Str → Option Value}, s.heap.Ns b m → (hidT s.heap H).Ns b m := fun ⟨o, es, ep, e, d, r⟩ => ⟨o, es, ep, bs e (und e d), d, r⟩
  have toK : K.In (hidT s.heap H) := fun b o e => by
    refine bs (KX b o e) ?_
    by_cases hbT : b = T
    · rw [hbT, nT] at e
      cases e
    · rcases tr.ot b hbT with q | ⟨q, r, _⟩
      · exact q
      · rw [q, r] at e
        cases e
  have hM : L2.Mod K mg (hidT s.heap H) := ⟨toK, tons hns, ⟨mb, tons hb, hbb⟩, by
    obtain ⟨mc, l1, l2⟩ := hlim
    exact ⟨mc, tons l1, l2⟩⟩
  have TB : LamX.TabB (hidT s.heap H) mg c T := by
    refine ⟨?_, ?_, fun z => ?_⟩
    · obtain ⟨o, us, file, tf, flags, tg, inF, text, tt, e1, r1, r2, rest⟩ := C
      have r3 := rest.1
      exact ⟨o, us, file, tf, flags, tg, inF, text, tt, bs e1 (un e1 (by rw [r2]; exact fun _ _ z => by cases z) (by rw [r2]; exact fun z => by cases z; simp at r3)), r1, r2, rest⟩
    · obtain ⟨bm, ob, b1, b2, b3, b4, b5, b6⟩ := hbm
      refine ⟨bm, ob, b1, b2, fun q => ?_, fun q => ?_, bs b3 (un b3 (by rw [b6]; exact fun _ _ z => by cases z) (by rw [b6]; exact fun z => by cases z)), b4, b5, b6⟩
      · obtain ⟨o, es, ep, e, hd, _⟩ := hns
        rw [q, e] at b3
        rw [← Option.some.inj b3, hd] at b6
        cases b6
      · rw [q, hT] at b3
        rw [← Option.some.inj b3] at b6
        cases b6
    · obtain ⟨o, es, ep, e, hd, _⟩ := hns
      rw [z, hT] at e
      rw [← Option.some.inj e] at hd
      cases hd
  have e0 : Env0 P w K mg (hidT s.heap H) callerA [] s H := ⟨rfl, hM, fun b o => of_hidT, Nat.le_of_eq (hidT_size s.heap H), trivial, fun b hb => absurd (show b ∈ ([] : List Addr) from hb) List.not_mem_nil, hok, .of_eq hg⟩
  refine codeAny_mono ((F _ toK (tons hns) TB).goes callerA [] s H ⟨[.ref a], []⟩ [.ref a] [.ref a] _ _ hr rfl e0 (hbind s (.ref a)) (.cons rfl .nil) hsp) fun r s' h => ?_
  match r, h with
  | .error e, h => exact (show False from h).elim
  | .ok .next, h => exact (show False from h).elim
  | .ok .brk, h => exact (show False from h).elim
  | .ok .cont, h => exact (show False from h).elim
  | .ok (.ret u), h =>
    obtain ⟨v, H', hos, bare, U, hok', rv, q⟩ := h
    obtain rfl : v = .bl true := q
    obtain rfl : u = Value.bool true := rv
    obtain ⟨more, hm⟩ := U.tbls T #[] tr.tb
    have eT : s'.heap.get? T = some { cls := .none, data := .fields (#[] ++ more) } := hok' T _ hm
    have same : ∀ b o, b ≠ T → s.heap.get? b = some o → s'.heap.get? b = some o := fun b o nb e => by
      rcases tr.ot b nb with z | ⟨_, _, ob, xs, z⟩
      · exact U.keep b o e z (show b ∉ ([] : List Addr) from List.not_mem_nil) List.not_mem_nil
      · have g1 := (hok b _ z).1
        have g2 := (hok' b _ (U.frzs b ob _ z)).1
        rw [e] at g1
        rw [g2, ← Option.some.inj g1]
    refine ⟨rfl, ⟨fun b o e => ?_, fun b o e => ?_⟩, hos, bare⟩
    · by_cases nb : b = T
      · rw [nb, hT] at e
        obtain rfl := Option.some.inj e
        rw [nb]
        exact .inr (.inl ⟨(C.tab hT).isCodeTable, rfl, #[], more, rfl, eT⟩)
      · exact .inl (same b o nb e)
    · by_cases nb : b = T
      · rw [nb]
        exact ⟨_, eT⟩
      · exact ⟨o, same b o nb e⟩
theorem end_g (KX : K.In s.heap) (hns : s.heap.Ns mainGlobals mg) (hb : s.heap.Ns builtinsNs mb) (hbb : ∀ y : Str, y ≠ "__name__" → mb y = bootBuiltins y) (hlim : s.heap.NoLimit) (hg : s.gens = #[]) (hT : s.heap.get? T = some { cls := .none, data := .fields #[] }) (nT : K.lookup T = none)
    (C : PySem.W.CodeHd s.heap c T) (hbm : ∃ (bm : Addr) (ob : Obj), mg "__builtins__" = some (.ref bm) ∧ bm ≠ builtinsNs ∧ s.heap.get? bm = some ob ∧ ob.cls = .type "module" ∧ ob.dict = some builtinsNs ∧ ob.data = .plain)
    (ha : s.heap.get? a = some { cls := .type "list", data := .seq vs.toArray }) (hi : IntsAre vs ns) (hl : ns.length ≤ sizeLine) (hr : Room k callerA) (F : ∀ base : Heap, K.In base → base.Ns mainGlobals mg → LamX.TabB base mg c T → FnG P w K mg base k f fd [x] sp)
    (hbind : ∀ (s : Shared) (u : Value), BindsTo s fd ⟨[u], []⟩ [(x, u)]) (hsp : ∀ H : Hp, H T = some (.tbl #[]) → SqL K H a (ns.map V.int) → sp [.ref a] H (fun v _ => v = .bl true) fun _ _ _ => False) :
    codeAny (model P w) callerA (.call (.ref f) ⟨[.ref a], []⟩) (fun r s' => r = .ok (.ret (.bool true)) ∧ OldK s.heap s'.heap ∧ s'.os = s.os ∧ AllBare s'.gens) s := by
  have rv := vals_ints hi
  have aT : T ≠ a := fun z => by
    rw [← z, hT] at ha
    exact (show Data.fields #[] ≠ Data.seq vs.toArray from fun y => by cases y) (congrArg Obj.data (Option.some.inj ha))
  have okT : ∀ {H : Hp}, ObjOk P w H s.heap T (.tbl #[]) := hT
  cases hk : K.lookup a with
  | some o =>
    have e := KX a o hk
    rw [ha] at e
    obtain rfl := Option.some.inj e
    have tr : Trk K s a T (upd (fun _ => none) T (.tbl #[])) := ⟨upd_same, fun b nb => .inl (upd_ne nb)⟩
    refine end_core KX hns hb hbb hlim hg hT nT C hbm ha hr F hbind tr (fun b u z => ?_) (hsp _ upd_same (.inr ⟨_, vs.toArray, _, hk, rfl, rfl, rfl, by rw [List.size_toArray, hi.length]; exact hl, by simpa using rv⟩))
    by_cases nb : b = T
    · rw [nb, upd_same] at z
      obtain rfl := Option.some.inj z
      rw [nb]
      exact okT
    · rw [upd_ne nb] at z
      cases z
  | none =>
    have tr : Trk K s a T (upd (upd (fun _ => none) T (.tbl #[])) a (.frz { cls := .type "list", data := .seq vs.toArray } (.lst (ns.map V.int)))) := ⟨by rw [upd_ne aT, upd_same], fun b nb => by
      by_cases e : b = a
      · exact .inr ⟨e, hk, _, _, by rw [e, upd_same]⟩
      · exact .inl (by rw [upd_ne e, upd_ne nb])⟩
    refine end_core KX hns hb hbb hlim hg hT nT C hbm ha hr F hbind tr (fun b u z => ?_) (hsp _ tr.tb (.inl (.inr ⟨_, upd_same⟩)))
    by_cases e : b = a
    · rw [e, upd_same] at z
      obtain rfl := Option.some.inj z
      rw [e]
      exact ⟨ha, by rw [List.length_map]; exact hl, vs, _, rv, ha⟩
    · rw [upd_ne e] at z
      by_cases nb : b = T
      · rw [nb, upd_same] at z
        obtain rfl := Option.some.inj z
        rw [nb]
        exact okT
      · rw [upd_ne nb] at z
        cases z
end
/-- the law's promise at the head's heap -/
structure LawG (l : PySem.W.OpenLaw) (w : World) (K : PySem.W.Frag) (k n : Nat) (x : Str) (mg : Str → Option Value) (f : Addr) (h : Heap) : Prop where
  ex : ∃ (fd : FuncData) (c T : Addr) (sp : Sp), h.get? T = some { cls := .none, data := .fields #[] } ∧ K.lookup T = none ∧ PySem.W.CodeHd h c T ∧ (∀ (s : Shared) (u : Value), BindsTo s fd ⟨[u], []⟩ [(x, u)]) ∧
    (∀ (H : Hp) (a : Addr) (ns : List Int), ns.length ≤ n → (∀ z ∈ ns, Builtin.Int.intBits z ≤ 1048576) → H T = some (.tbl #[]) → SqL K H a (ns.map V.int) → sp [.ref a] H (fun v _ => v = .bl true) fun _ _ _ => False) ∧
    ∀ base : Heap, K.In base → base.Ns mainGlobals mg → LamX.TabB base mg c T → FnG l.prog w K mg base k f fd [x] sp
theorem walkG {l : PySem.W.OpenLaw} {n k : Nat} {q : Program} {loose : List Str} {XP : (Str → Option Value) → Heap → Prop} {YP : World → Heap → Prop} {d : DefRec} {x : Str} (hn : l.most = some n) (hn2 : n ≤ sizeLine) (hdf : d.params.defaults = []) (hr : Room k callerA)
    (F : ∀ (w : World) (mg : Str → Option Value) (f : Addr) (h : Heap), YP w h → h.Ns mainGlobals mg → mg d.name = some (.ref f) → ∃ K : PySem.W.Frag, K.In h ∧ LawG l w K k n x mg f h) : PySem.W.WalkO q loose XP YP l.row.toRowW d [] (fun f vs => PySem.call f vs) := by
  refine Att.attach_callB hn hdf fun w s0 s1 mg mb f o pm cd doc a vs ns G Y _ _ _ hmg hobj hints hlen hbits hg => ?_
  obtain ⟨K, KX, ⟨fd, c, T, sp, hT, nT, C, hb, hsp, hF⟩⟩ := F w mg f _ Y G.T.g hmg
  exact end_g KX G.T.g G.T.b G.T.builtins G.T.nolimit hg hT nT C G.T.bmain hobj hints (Nat.le_trans hlen hn2) hr hF hb fun H hH hS => hsp H a ns hlen hbits hH hS
end N
set_option Elab.async false
set_option linter.all false
set_option maxRecDepth 100000
set_option maxHeartbeats 1000000
namespace N
open PySem
open PySem.Spec
open PyProof.Rows
open L2
/-! AS1: the defs as the head leaves them (printed by gen_as.py). -/
/-- the head's facts at a base -/
structure Yd (h : Heap) (K : PySem.W.Frag) (base : Heap) (mg : Str → Option Value) : Prop where
  S : SaysY h K
  X : K.In base
  G : base.Ns mainGlobals mg
section
variable {h : Heap} {K : PySem.W.Frag} {base : Heap} {mg : Str → Option Value}
theorem hd_of (Y : Yd h K base mg) (i : Nat) {x : Str} {st : Stmt} {ps : List Str} (hi : dn[i]? = some ⟨(x, none), x, x, defArgs st, defBody st, defScope st, [], []⟩) (hj : fa[i]? = some (.glo x))
    (hb : ∀ (kV doc pm : Value) (an : Option Addr) (cdv ct : Value) (us : List Value), us.length = ps.length → bindArgs (PySem.W.fnOf x x (defArgs st) (defBody st) (defScope st) .none kV doc pm an cdv ct) ⟨us, []⟩ = pure (ps.zip us)) : Hd K mg x st ps := by
  obtain ⟨fd, F⟩ := Y.S.d.defs (List.mem_of_getElem? hi)
  have F1 : FnT K x st (He.ga K x) fd := F
  exact ⟨He.ga K x, fd, F1, He.glo_ok Y.X Y.G (sy_fa Y.S i hj), F1.kp, F1.bindsN hb⟩
theorem hd_is_integer (Y : Yd h K base mg) : Hd K mg "is_integer" s_is_integer p_is_integer := hd_of Y 0 rfl rfl fun _ _ _ _ _ _ us hl => match us, hl with
  | [_], _ => by first | rfl | with_unfolding_all rfl
theorem hd_is_number (Y : Yd h K base mg) : Hd K mg "is_number" s_is_number p_is_number := hd_of Y 1 rfl rfl fun _ _ _ _ _ _ us hl => match us, hl with
  | [_], _ => by first | rfl | with_unfolding_all rfl
theorem hd_differences (Y : Yd h K base mg) : Hd K mg "differences" s_differences p_differences := hd_of Y 2 rfl rfl fun _ _ _ _ _ _ us hl => match us, hl with
  | [_, _], _ => by first | rfl | with_unfolding_all rfl
theorem hd_part_of (Y : Yd h K base mg) : Hd K mg "part_of" s_part_of p_part_of := hd_of Y 3 rfl rfl fun _ _ _ _ _ _ us hl => match us, hl with
  | [_, _], _ => by first | rfl | with_unfolding_all rfl
theorem hd_joined_parts (Y : Yd h K base mg) : Hd K mg "joined_parts" s_joined_parts p_joined_parts := hd_of Y 4 rfl rfl fun _ _ _ _ _ _ us hl => match us, hl with
  | [_, _], _ => by first | rfl | with_unfolding_all rfl
theorem hd_distance (Y : Yd h K base mg) : Hd K mg "distance" s_distance p_distance := hd_of Y 5 rfl rfl fun _ _ _ _ _ _ us hl => match us, hl with
  | [_, _, _], _ => by first | rfl | with_unfolding_all rfl
theorem hd_doubled_root (Y : Yd h K base mg) : Hd K mg "doubled_root" s_doubled_root p_doubled_root := hd_of Y 6 rfl rfl fun _ _ _ _ _ _ us hl => match us, hl with
  | [_, _], _ => by first | rfl | with_unfolding_all rfl
theorem hd_gap_of (Y : Yd h K base mg) : Hd K mg "gap_of" s_gap_of p_gap_of := hd_of Y 7 rfl rfl fun _ _ _ _ _ _ us hl => match us, hl with
  | [_, _, _], _ => by first | rfl | with_unfolding_all rfl
theorem hd_least_beyond (Y : Yd h K base mg) : Hd K mg "least_beyond" s_least_beyond p_least_beyond := hd_of Y 8 rfl rfl fun _ _ _ _ _ _ us hl => match us, hl with
  | [_, _, _], _ => by first | rfl | with_unfolding_all rfl
theorem hd_label_in (Y : Yd h K base mg) : Hd K mg "label_in" s_label_in p_label_in := hd_of Y 9 rfl rfl fun _ _ _ _ _ _ us hl => match us, hl with
  | [_, _], _ => by first | rfl | with_unfolding_all rfl
theorem hd_lets_by (Y : Yd h K base mg) : Hd K mg "lets_by" s_lets_by p_lets_by := hd_of Y 10 rfl rfl fun _ _ _ _ _ _ us hl => match us, hl with
  | [_, _], _ => by first | rfl | with_unfolding_all rfl
theorem hd_passes (Y : Yd h K base mg) : Hd K mg "passes" s_passes p_passes := hd_of Y 11 rfl rfl fun _ _ _ _ _ _ us hl => match us, hl with
  | [_, _], _ => by first | rfl | with_unfolding_all rfl
theorem hd_shell_of (Y : Yd h K base mg) : Hd K mg "shell_of" s_shell_of p_shell_of := hd_of Y 12 rfl rfl fun _ _ _ _ _ _ us hl => match us, hl with
  | [_], _ => by first | rfl | with_unfolding_all rfl
theorem hd_gap_to (Y : Yd h K base mg) : Hd K mg "gap_to" s_gap_to p_gap_to := hd_of Y 13 rfl rfl fun _ _ _ _ _ _ us hl => match us, hl with
  | [_, _, _], _ => by first | rfl | with_unfolding_all rfl
theorem hd_floor_of_shell (Y : Yd h K base mg) : Hd K mg "floor_of_shell" s_floor_of_shell p_floor_of_shell := hd_of Y 14 rfl rfl fun _ _ _ _ _ _ us hl => match us, hl with
  | [_, _, _, _], _ => by first | rfl | with_unfolding_all rfl
theorem hd_floor_of (Y : Yd h K base mg) : Hd K mg "floor_of" s_floor_of p_floor_of := hd_of Y 15 rfl rfl fun _ _ _ _ _ _ us hl => match us, hl with
  | [_, _, _], _ => by first | rfl | with_unfolding_all rfl
theorem hd_row_of_name (Y : Yd h K base mg) : Hd K mg "row_of_name" s_row_of_name p_row_of_name := hd_of Y 16 rfl rfl fun _ _ _ _ _ _ us hl => match us, hl with
  | [_, _], _ => by first | rfl | with_unfolding_all rfl
theorem hd_range_verdict (Y : Yd h K base mg) : Hd K mg "range_verdict" s_range_verdict p_range_verdict := hd_of Y 17 rfl rfl fun _ _ _ _ _ _ us hl => match us, hl with
  | [_, _, _], _ => by first | rfl | with_unfolding_all rfl
theorem hd_opposite_verdict (Y : Yd h K base mg) : Hd K mg "opposite_verdict" s_opposite_verdict p_opposite_verdict := hd_of Y 18 rfl rfl fun _ _ _ _ _ _ us hl => match us, hl with
  | [_], _ => by first | rfl | with_unfolding_all rfl
theorem hd_verdict_of_all (Y : Yd h K base mg) : Hd K mg "verdict_of_all" s_verdict_of_all p_verdict_of_all := hd_of Y 19 rfl rfl fun _ _ _ _ _ _ us hl => match us, hl with
  | [_], _ => by first | rfl | with_unfolding_all rfl
theorem hd_verdict (Y : Yd h K base mg) : Hd K mg "verdict" s_verdict p_verdict := hd_of Y 20 rfl rfl fun _ _ _ _ _ _ us hl => match us, hl with
  | [_, _], _ => by first | rfl | with_unfolding_all rfl
theorem hd_may_pass (Y : Yd h K base mg) : Hd K mg "may_pass" s_may_pass p_may_pass := hd_of Y 21 rfl rfl fun _ _ _ _ _ _ us hl => match us, hl with
  | [_, _], _ => by first | rfl | with_unfolding_all rfl
theorem hd_lots_in (Y : Yd h K base mg) : Hd K mg "lots_in" s_lots_in p_lots_in := hd_of Y 22 rfl rfl fun _ _ _ _ _ _ us hl => match us, hl with
  | [_], _ => by first | rfl | with_unfolding_all rfl
theorem hd_own_keys (Y : Yd h K base mg) : Hd K mg "own_keys" s_own_keys p_own_keys := hd_of Y 23 rfl rfl fun _ _ _ _ _ _ us hl => match us, hl with
  | [_], _ => by first | rfl | with_unfolding_all rfl
theorem hd_answer_reach (Y : Yd h K base mg) : Hd K mg "answer_reach" s_answer_reach p_answer_reach := hd_of Y 24 rfl rfl fun _ _ _ _ _ _ us hl => match us, hl with
  | [_, _], _ => by first | rfl | with_unfolding_all rfl
theorem hd_is_step (Y : Yd h K base mg) : Hd K mg "is_step" s_is_step p_is_step := hd_of Y 25 rfl rfl fun _ _ _ _ _ _ us hl => match us, hl with
  | [_, _, _, _, _, _], _ => by first | rfl | with_unfolding_all rfl
theorem hd_closing_word (Y : Yd h K base mg) : Hd K mg "closing_word" s_closing_word p_closing_word := hd_of Y 26 rfl rfl fun _ _ _ _ _ _ us hl => match us, hl with
  | [_, _, _, _, _], _ => by first | rfl | with_unfolding_all rfl
theorem hd_pairs_of (Y : Yd h K base mg) : Hd K mg "pairs_of" s_pairs_of p_pairs_of := hd_of Y 27 rfl rfl fun _ _ _ _ _ _ us hl => match us, hl with
  | [_, _, _, _, _], _ => by first | rfl | with_unfolding_all rfl
theorem hd_walk_of (Y : Yd h K base mg) : Hd K mg "walk_of" s_walk_of p_walk_of := hd_of Y 28 rfl rfl fun _ _ _ _ _ _ us hl => match us, hl with
  | [_, _, _], _ => by first | rfl | with_unfolding_all rfl
theorem hd_looked (Y : Yd h K base mg) : Hd K mg "looked" s_looked p_looked := hd_of Y 29 rfl rfl fun _ _ _ _ _ _ us hl => match us, hl with
  | [_, _, _, _, _, _, _], _ => by first | rfl | with_unfolding_all rfl
theorem hd_least_steps (Y : Yd h K base mg) : Hd K mg "least_steps" s_least_steps p_least_steps := hd_of Y 30 rfl rfl fun _ _ _ _ _ _ us hl => match us, hl with
  | [_, _, _, _, _], _ => by first | rfl | with_unfolding_all rfl
theorem hd_within_paper (Y : Yd h K base mg) : Hd K mg "within_paper" s_within_paper p_within_paper := hd_of Y 31 rfl rfl fun _ _ _ _ _ _ us hl => match us, hl with
  | [_, _, _, _, _, _], _ => by first | rfl | with_unfolding_all rfl
theorem hd_fewer (Y : Yd h K base mg) : Hd K mg "fewer" s_fewer p_fewer := hd_of Y 32 rfl rfl fun _ _ _ _ _ _ us hl => match us, hl with
  | [_, _], _ => by first | rfl | with_unfolding_all rfl
theorem hd_is_answer_form (Y : Yd h K base mg) : Hd K mg "is_answer_form" s_is_answer_form p_is_answer_form := hd_of Y 33 rfl rfl fun _ _ _ _ _ _ us hl => match us, hl with
  | [_, _], _ => by first | rfl | with_unfolding_all rfl
theorem hd_first_fault (Y : Yd h K base mg) : Hd K mg "first_fault" s_first_fault p_first_fault := hd_of Y 34 rfl rfl fun _ _ _ _ _ _ us hl => match us, hl with
  | [_, _, _, _], _ => by first | rfl | with_unfolding_all rfl
theorem hd_is_right (Y : Yd h K base mg) : Hd K mg "is_right" s_is_right p_is_right := hd_of Y 35 rfl rfl fun _ _ _ _ _ _ us hl => match us, hl with
  | [_, _, _, _], _ => by first | rfl | with_unfolding_all rfl
theorem hd_within_fault (Y : Yd h K base mg) : Hd K mg "within_fault" s_within_fault p_within_fault := hd_of Y 36 rfl rfl fun _ _ _ _ _ _ us hl => match us, hl with
  | [_, _, _, _, _, _, _], _ => by first | rfl | with_unfolding_all rfl
theorem hd_is_within_paper (Y : Yd h K base mg) : Hd K mg "is_within_paper" s_is_within_paper p_is_within_paper := hd_of Y 37 rfl rfl fun _ _ _ _ _ _ us hl => match us, hl with
  | [_, _, _, _, _, _, _], _ => by first | rfl | with_unfolding_all rfl
theorem hd_tied (Y : Yd h K base mg) : Hd K mg "tied" s_tied p_tied := hd_of Y 38 rfl rfl fun _ _ _ _ _ _ us hl => match us, hl with
  | [_, _, _, _], _ => by first | rfl | with_unfolding_all rfl
theorem hd__law_heap (Y : Yd h K base mg) : Hd K mg "_law_heap" s__law_heap p__law_heap := hd_of Y 39 rfl rfl fun _ _ _ _ _ _ us hl => match us, hl with
  | [_], _ => by first | rfl | with_unfolding_all rfl
theorem hd__law_draw (Y : Yd h K base mg) : Hd K mg "_law_draw" s__law_draw p__law_draw := hd_of Y 40 rfl rfl fun _ _ _ _ _ _ us hl => match us, hl with
  | [_, _], _ => by first | rfl | with_unfolding_all rfl
theorem hd__law_pick (Y : Yd h K base mg) : Hd K mg "_law_pick" s__law_pick p__law_pick := hd_of Y 41 rfl rfl fun _ _ _ _ _ _ us hl => match us, hl with
  | [_, _], _ => by first | rfl | with_unfolding_all rfl
theorem hd__law_distance (Y : Yd h K base mg) : Hd K mg "_law_distance" s__law_distance p__law_distance := hd_of Y 42 rfl rfl fun _ _ _ _ _ _ us hl => match us, hl with
  | [_, _, _], _ => by first | rfl | with_unfolding_all rfl
theorem hd__law_passes (Y : Yd h K base mg) : Hd K mg "_law_passes" s__law_passes p__law_passes := hd_of Y 43 rfl rfl fun _ _ _ _ _ _ us hl => match us, hl with
  | [_, _], _ => by first | rfl | with_unfolding_all rfl
theorem hd__law_pairs (Y : Yd h K base mg) : Hd K mg "_law_pairs" s__law_pairs p__law_pairs := hd_of Y 44 rfl rfl fun _ _ _ _ _ _ us hl => match us, hl with
  | [_, _, _, _, _], _ => by first | rfl | with_unfolding_all rfl
theorem hd__law_vector (Y : Yd h K base mg) : Hd K mg "_law_vector" s__law_vector p__law_vector := hd_of Y 45 rfl rfl fun _ _ _ _ _ _ us hl => match us, hl with
  | [_, _, _], _ => by first | rfl | with_unfolding_all rfl
theorem hd__law_state (Y : Yd h K base mg) : Hd K mg "_law_state" s__law_state p__law_state := hd_of Y 46 rfl rfl fun _ _ _ _ _ _ us hl => match us, hl with
  | [_, _, _, _, _], _ => by first | rfl | with_unfolding_all rfl
theorem hd__law_sieve (Y : Yd h K base mg) : Hd K mg "_law_sieve" s__law_sieve p__law_sieve := hd_of Y 47 rfl rfl fun _ _ _ _ _ _ us hl => match us, hl with
  | [_, _, _], _ => by first | rfl | with_unfolding_all rfl
theorem hd__law_summary (Y : Yd h K base mg) : Hd K mg "_law_summary" s__law_summary p__law_summary := hd_of Y 48 rfl rfl fun _ _ _ _ _ _ us hl => match us, hl with
  | [_, _], _ => by first | rfl | with_unfolding_all rfl
theorem hd__law_region (Y : Yd h K base mg) : Hd K mg "_law_region" s__law_region p__law_region := hd_of Y 49 rfl rfl fun _ _ _ _ _ _ us hl => match us, hl with
  | [_, _, _, _], _ => by first | rfl | with_unfolding_all rfl
theorem hd__law_lot (Y : Yd h K base mg) : Hd K mg "_law_lot" s__law_lot p__law_lot := hd_of Y 50 rfl rfl fun _ _ _ _ _ _ us hl => match us, hl with
  | [_, _, _, _, _, _], _ => by first | rfl | with_unfolding_all rfl
theorem hd__law_near (Y : Yd h K base mg) : Hd K mg "_law_near" s__law_near p__law_near := hd_of Y 51 rfl rfl fun _ _ _ _ _ _ us hl => match us, hl with
  | [_, _, _, _], _ => by first | rfl | with_unfolding_all rfl
theorem hd__law_world (Y : Yd h K base mg) : Hd K mg "_law_world" s__law_world p__law_world := hd_of Y 52 rfl rfl fun _ _ _ _ _ _ us hl => match us, hl with
  | [_, _], _ => by first | rfl | with_unfolding_all rfl
theorem hd__law_right_words (Y : Yd h K base mg) : Hd K mg "_law_right_words" s__law_right_words p__law_right_words := hd_of Y 53 rfl rfl fun _ _ _ _ _ _ us hl => match us, hl with
  | [_, _, _], _ => by first | rfl | with_unfolding_all rfl
theorem hd__law_lots (Y : Yd h K base mg) : Hd K mg "_law_lots" s__law_lots p__law_lots := hd_of Y 54 rfl rfl fun _ _ _ _ _ _ us hl => match us, hl with
  | [_], _ => by first | rfl | with_unfolding_all rfl
theorem hd__law_met (Y : Yd h K base mg) : Hd K mg "_law_met" s__law_met p__law_met := hd_of Y 55 rfl rfl fun _ _ _ _ _ _ us hl => match us, hl with
  | [_, _, _, _], _ => by first | rfl | with_unfolding_all rfl
theorem hd__law_least (Y : Yd h K base mg) : Hd K mg "_law_least" s__law_least p__law_least := hd_of Y 56 rfl rfl fun _ _ _ _ _ _ us hl => match us, hl with
  | [_, _, _], _ => by first | rfl | with_unfolding_all rfl
theorem hd__law_some_steps (Y : Yd h K base mg) : Hd K mg "_law_some_steps" s__law_some_steps p__law_some_steps := hd_of Y 57 rfl rfl fun _ _ _ _ _ _ us hl => match us, hl with
  | [_, _, _, _], _ => by first | rfl | with_unfolding_all rfl
theorem hd__law_spoilt (Y : Yd h K base mg) : Hd K mg "_law_spoilt" s__law_spoilt p__law_spoilt := hd_of Y 58 rfl rfl fun _ _ _ _ _ _ us hl => match us, hl with
  | [_, _], _ => by first | rfl | with_unfolding_all rfl
theorem hd__law_is_number (Y : Yd h K base mg) : Hd K mg "_law_is_number" s__law_is_number p__law_is_number := hd_of Y 59 rfl rfl fun _ _ _ _ _ _ us hl => match us, hl with
  | [_], _ => by first | rfl | with_unfolding_all rfl
theorem hd__law_is_form (Y : Yd h K base mg) : Hd K mg "_law_is_form" s__law_is_form p__law_is_form := hd_of Y 60 rfl rfl fun _ _ _ _ _ _ us hl => match us, hl with
  | [_], _ => by first | rfl | with_unfolding_all rfl
theorem hd__law_fault (Y : Yd h K base mg) : Hd K mg "_law_fault" s__law_fault p__law_fault := hd_of Y 61 rfl rfl fun _ _ _ _ _ _ us hl => match us, hl with
  | [_, _, _, _, _], _ => by first | rfl | with_unfolding_all rfl
theorem hd__law_within_right (Y : Yd h K base mg) : Hd K mg "_law_within_right" s__law_within_right p__law_within_right := hd_of Y 62 rfl rfl fun _ _ _ _ _ _ us hl => match us, hl with
  | [_, _, _, _, _], _ => by first | rfl | with_unfolding_all rfl
theorem hd__law_fewer_right (Y : Yd h K base mg) : Hd K mg "_law_fewer_right" s__law_fewer_right p__law_fewer_right := hd_of Y 63 rfl rfl fun _ _ _ _ _ _ us hl => match us, hl with
  | [_, _, _, _], _ => by first | rfl | with_unfolding_all rfl
theorem hd_law (Y : Yd h K base mg) : Hd K mg "law" s_law p_law := hd_of Y 64 rfl rfl fun _ _ _ _ _ _ us hl => match us, hl with
  | [_], _ => by first | rfl | with_unfolding_all rfl
theorem y_bi (Y : Yd h K base mg) : BI mg := ⟨He.free_ok Y.X Y.G (sy_fa Y.S 70 rfl), He.free_ok Y.X Y.G (sy_fa Y.S 71 rfl), He.free_ok Y.X Y.G (sy_fa Y.S 72 rfl), He.free_ok Y.X Y.G (sy_fa Y.S 73 rfl), He.free_ok Y.X Y.G (sy_fa Y.S 74 rfl), He.free_ok Y.X Y.G (sy_fa Y.S 75 rfl), He.free_ok Y.X Y.G (sy_fa Y.S 76 rfl), He.free_ok Y.X Y.G (sy_fa Y.S 77 rfl), He.free_ok Y.X Y.G (sy_fa Y.S 78 rfl), He.free_ok Y.X Y.G (sy_fa Y.S 79 rfl), He.free_ok Y.X Y.G (sy_fa Y.S 80 rfl), He.free_ok Y.X Y.G (sy_fa Y.S 81 rfl), He.free_ok Y.X Y.G (sy_fa Y.S 82 rfl), He.free_ok Y.X Y.G (sy_fa Y.S 83 rfl), He.free_ok Y.X Y.G (sy_fa Y.S 84 rfl), He.free_ok Y.X Y.G (sy_fa Y.S 85 rfl), He.free_ok Y.X Y.G (sy_fa Y.S 86 rfl), He.free_ok Y.X Y.G (sy_fa Y.S 87 rfl), PySem.W.mg_of Y.X Y.G (He.eqO_ok (He.ba (sy_a Y.S)).1)⟩
theorem y_ip (Y : Yd h K base mg) : mg "InvalidPaper" = some (.ref (cIP K)) := He.glo_ok Y.X Y.G (sy_fa Y.S 66 rfl)
theorem y_at (Y : Yd h K base mg) : NoAttr K (cIP K) "at" := He.noat_ok (sy_fa Y.S 99 rfl)
theorem y_ipk (Y : Yd h K base mg) : IPK R.prog K mg (cIP K) := sy_ipk Y.S (y_ip Y) (He.free_ok Y.X Y.G (sy_fa Y.S 88 rfl)) (y_at Y)
theorem y_ipf (Y : Yd h K base mg) : IPF K mg (cIP K) := sy_ipf Y.S (y_ip Y) (y_at Y)
theorem y_cp (Y : Yd h K base mg) : Cls K (He.ga K "Paper") := He.cls_ok (sy_fa Y.S 91 rfl)
theorem y_ci (Y : Yd h K base mg) : Cls K (He.ga K "Index") := He.cls_ok (sy_fa Y.S 89 rfl)
theorem y_pf (Y : Yd h K base mg) : PapF K mg := ⟨sy_isc Y.S (y_cp Y), He.glo_ok Y.X Y.G (sy_fa Y.S 68 rfl), y_cp Y, He.noat_ok (sy_fa Y.S 97 rfl), He.noat_ok (sy_fa Y.S 98 rfl)⟩
theorem y_xf (Y : Yd h K base mg) : IxF K := ⟨y_ci Y, He.noat_ok (sy_fa Y.S 93 rfl), He.noat_ok (sy_fa Y.S 95 rfl)⟩
theorem y_sw (Y : Yd h K base mg) : SW K mg := sy_sw Y.S (He.glo_ok Y.X Y.G (sy_fa Y.S 69 rfl))
theorem y_mkIndex {P : Program} {w : World} (Y : Yd h K base mg) : MkC P w K mg base 1 "Index" 4 fsIx := by
  obtain ⟨fd, F⟩ := Y.S.d.defs (List.mem_of_getElem? (show dn[65]? = some ⟨("Index", some "__init__"), "__init__", "Index.__init__", defArgs s_Index_init, defBody s_Index_init, defScope s_Index_init, [], []⟩ from rfl))
  have F1 : FunD K "__init__" "Index.__init__" (defArgs s_Index_init) (defBody s_Index_init) (defScope s_Index_init) [] [] (He.ma K (He.ga K "Index") "__init__") fd := F
  exact ⟨_, fd, p_Index_init, He.mkr_ok (sy_fa Y.S 90 rfl), ok_Index_init (y_ci Y) (He.noat_ok (sy_fa Y.S 93 rfl)) (He.noat_ok (sy_fa Y.S 94 rfl)) (He.noat_ok (sy_fa Y.S 95 rfl)) (He.noat_ok (sy_fa Y.S 96 rfl)) F1, F1.bindsN fun _ _ _ _ _ _ us hl => match us, hl with
    | [_, _, _, _, _], _ => by first | rfl | with_unfolding_all rfl, He.glo_ok Y.X Y.G (sy_fa Y.S 67 rfl)⟩
theorem y_mkPaper {P : Program} {w : World} (Y : Yd h K base mg) : MkC P w K mg base 1 "Paper" 2 fsPap := by
  obtain ⟨fd, F⟩ := Y.S.d.defs (List.mem_of_getElem? (show dn[66]? = some ⟨("Paper", some "__init__"), "__init__", "Paper.__init__", defArgs s_Paper_init, defBody s_Paper_init, defScope s_Paper_init, [], []⟩ from rfl))
  have F1 : FunD K "__init__" "Paper.__init__" (defArgs s_Paper_init) (defBody s_Paper_init) (defScope s_Paper_init) [] [] (He.ma K (He.ga K "Paper") "__init__") fd := F
  exact ⟨_, fd, p_Paper_init, He.mkr_ok (sy_fa Y.S 92 rfl), ok_Paper_init (y_cp Y) (He.noat_ok (sy_fa Y.S 97 rfl)) (He.noat_ok (sy_fa Y.S 98 rfl)) F1, F1.bindsN fun _ _ _ _ _ _ us hl => match us, hl with
    | [_, _, _], _ => by first | rfl | with_unfolding_all rfl, He.glo_ok Y.X Y.G (sy_fa Y.S 68 rfl)⟩
end
end N
set_option Elab.async false
set_option linter.all false
set_option maxRecDepth 100000
set_option maxHeartbeats 1000000
namespace N
open PySem
open PySem.Spec
open PyProof.Rows
open L2
/-! AS2: the promises, bottom-up (printed by gen_as2.py). -/
section
variable {w : World} {h : Heap} {K : PySem.W.Frag} {base : Heap} {mg : Str → Option Value} {T : List (Addr × Str)}
theorem c_is_integer (Y : Yd h K base mg) : Cal R.prog w K mg base 1 "is_integer" p_is_integer (spP K T f_is_integer) := (hd_is_integer Y).cal fun g fd F => ok_is_integer (y_bi Y) F
theorem c_is_number (Y : Yd h K base mg) : Cal R.prog w K mg base 2 "is_number" p_is_number (spP K T f_is_number) := (hd_is_number Y).cal fun g fd F => ok_is_number (c_is_integer Y) F
theorem c_differences (Y : Yd h K base mg) : Cal R.prog w K mg base 1 "differences" p_differences (spP K T f_differences) := (hd_differences Y).cal fun g fd F => ok_differences (y_bi Y) F
theorem c_part_of (Y : Yd h K base mg) : Cal R.prog w K mg base 1 "part_of" p_part_of (spP K T f_part_of) := (hd_part_of Y).cal fun g fd F => ok_part_of (y_bi Y) F
theorem c_joined_parts (Y : Yd h K base mg) : Cal R.prog w K mg base 1 "joined_parts" p_joined_parts (spP K T f_joined_parts) := (hd_joined_parts Y).cal fun g fd F => ok_joined_parts (y_bi Y) F
theorem c_distance (Y : Yd h K base mg) : Cal R.prog w K mg base 2 "distance" p_distance (spP K T f_distance) := (hd_distance Y).cal fun g fd F => ok_distance (c_differences Y) (c_part_of Y) (c_joined_parts Y) F
theorem c_doubled_root (Y : Yd h K base mg) : Cal R.prog w K mg base 1 "doubled_root" p_doubled_root (spP K T f_doubled_root) := (hd_doubled_root Y).cal fun g fd F => ok_doubled_root (y_bi Y) F
theorem c_gap_of (Y : Yd h K base mg) : Cal R.prog w K mg base 2 "gap_of" p_gap_of (spP K T f_gap_of) := (hd_gap_of Y).cal fun g fd F => ok_gap_of (y_bi Y) (c_doubled_root Y) F
theorem c_least_beyond (Y : Yd h K base mg) : Cal R.prog w K mg base 3 "least_beyond" p_least_beyond (spP K T f_least_beyond) := (hd_least_beyond Y).cal fun g fd F => ok_least_beyond (c_gap_of Y) F
theorem c_gap_to (Y : Yd h K base mg) : Cal R.prog w K mg base 1 "gap_to" p_gap_to (spP K T f_gap_to) := (hd_gap_to Y).cal fun g fd F => ok_gap_to  F
theorem c_shell_of (Y : Yd h K base mg) : Cal R.prog w K mg base 1 "shell_of" p_shell_of (spP K T f_shell_of) := (hd_shell_of Y).cal fun g fd F => ok_shell_of  F
theorem c_floor_of_shell (Y : Yd h K base mg) : Cal R.prog w K mg base 4 "floor_of_shell" p_floor_of_shell (spP K T f_floor_of_shell) := (hd_floor_of_shell Y).cal fun g fd F => ok_floor_of_shell (c_least_beyond Y) (c_gap_of Y) F
theorem c_floor_of (Y : Yd h K base mg) : Cal R.prog w K mg base 5 "floor_of" p_floor_of (spP K T f_floor_of) := (hd_floor_of Y).cal fun g fd F => ok_floor_of (y_bi Y) (c_gap_to Y) (c_part_of Y) (c_joined_parts Y) (c_distance Y) (c_shell_of Y) (c_floor_of_shell Y) F
theorem c_label_in (Y : Yd h K base mg) : Cal R.prog w K mg base 1 "label_in" p_label_in (spP K T f_label_in) := (hd_label_in Y).cal fun g fd F => ok_label_in  F
theorem cr_lets_by (Y : Yd h K base mg) (n : Nat) : Cal R.prog w K mg base (n + 2) "lets_by" p_lets_by (spP K T (f_lets_by n)) := by
  induction n with
  | zero => exact (hd_lets_by Y).cal fun g fd F => ok_lets_by (y_bi Y) (c_label_in Y) 0 (fun m e => absurd e (Nat.succ_ne_zero m)) F
  | succ n ih => exact (hd_lets_by Y).cal fun g fd F => ok_lets_by (y_bi Y) (c_label_in Y) (n + 1) (fun m e => by cases e; exact ih) F
theorem c_passes (Y : Yd h K base mg) : Cal R.prog w K mg base 5 "passes" p_passes (spP K T (f_passes 2)) := (hd_passes Y).cal fun g fd F => ok_passes 2 (cr_lets_by Y 2) F
theorem c_row_of_name (Y : Yd h K base mg) : Cal R.prog w K mg base 1 "row_of_name" p_row_of_name (spP K T f_row_of_name) := (hd_row_of_name Y).cal fun g fd F => ok_row_of_name  F
theorem c_range_verdict (Y : Yd h K base mg) : Cal R.prog w K mg base 1 "range_verdict" p_range_verdict (spP K T f_range_verdict) := (hd_range_verdict Y).cal fun g fd F => ok_range_verdict  F
theorem c_opposite_verdict (Y : Yd h K base mg) : Cal R.prog w K mg base 1 "opposite_verdict" p_opposite_verdict (spP K T f_opposite_verdict) := (hd_opposite_verdict Y).cal fun g fd F => ok_opposite_verdict  F
theorem c_verdict_of_all (Y : Yd h K base mg) : Cal R.prog w K mg base 1 "verdict_of_all" p_verdict_of_all (spP K T f_verdict_of_all) := (hd_verdict_of_all Y).cal fun g fd F => ok_verdict_of_all  F
theorem cr_verdict (Y : Yd h K base mg) (n : Nat) : Cal R.prog w K mg base (n + 2) "verdict" p_verdict (spP K T (f_verdict n)) := by
  induction n with
  | zero => exact (hd_verdict Y).cal fun g fd F => ok_verdict (c_opposite_verdict Y) (c_verdict_of_all Y) (c_row_of_name Y) (c_range_verdict Y) 0 (fun m e => absurd e (Nat.succ_ne_zero m)) F
  | succ n ih => exact (hd_verdict Y).cal fun g fd F => ok_verdict (c_opposite_verdict Y) (c_verdict_of_all Y) (c_row_of_name Y) (c_range_verdict Y) (n + 1) (fun m e => by cases e; exact ih) F
theorem c_may_pass (Y : Yd h K base mg) : Cal R.prog w K mg base 5 "may_pass" p_may_pass (spP K T (f_may_pass 2)) := (hd_may_pass Y).cal fun g fd F => ok_may_pass 2 (cr_verdict Y 2) F
theorem c_lots_in (Y : Yd h K base mg) : Cal R.prog w K mg base 1 "lots_in" p_lots_in (spP K T f_lots_in) := (hd_lots_in Y).cal fun g fd F => ok_lots_in  F
theorem c_own_keys (Y : Yd h K base mg) : Cal R.prog w K mg base 1 "own_keys" p_own_keys (spP K T f_own_keys) := (hd_own_keys Y).cal fun g fd F => ok_own_keys  F
theorem c_is_step (Y : Yd h K base mg) : Cal R.prog w K mg base 8 "is_step" p_is_step (spP K T (f_is_step 2)) := (hd_is_step Y).cal fun g fd F => ok_is_step (y_bi Y) (y_sw Y) 2 (c_may_pass Y) (c_floor_of Y) F
theorem c_closing_word (Y : Yd h K base mg) : Cal R.prog w K mg base 9 "closing_word" p_closing_word (spP K T (f_closing_word 2)) := (hd_closing_word Y).cal fun g fd F => ok_closing_word (y_sw Y) 2 (c_is_step Y) F
theorem c_pairs_of (Y : Yd h K base mg) : Cal R.prog w K mg base 6 "pairs_of" p_pairs_of (spP K T (f_pairs_of 2)) := (hd_pairs_of Y).cal fun g fd F => ok_pairs_of 2 (c_passes Y) (c_distance Y) F
/-- looked's code object, its table -/
abbrev lkC (K : PySem.W.Frag) : Addr := (He.cT K ("looked", none)).1
abbrev lkT (K : PySem.W.Frag) : Addr := (He.cT K ("looked", none)).2
abbrev tabs (K : PySem.W.Frag) : List (Addr × Str) := [(lkT K, lamQ)]
theorem y_lkx (Y : Yd h K base mg) (TB : LamX.TabB base mg (lkC K) (lkT K)) : LkX R.prog w K mg base (cIP K) (tabs K) 2 := by
  obtain ⟨fd, F⟩ := Y.S.d.defs (List.mem_of_getElem? (show dn[29]? = some ⟨("looked", none), "looked", "looked", defArgs s_looked, defBody s_looked, defScope s_looked, [], []⟩ from rfl))
  have F1 : FnT K "looked" s_looked (He.ga K "looked") fd := F
  have LT : LookT mg base (tabs K) fd := by
    obtain ⟨oc, od, dV, kV, doc, pm, an, cdv, ct, osl, hfd, lk, hcd, _, _⟩ := F1.ex
    obtain ⟨c0, rfl⟩ := He.codeIn_ref hcd
    have hc : fd.code = .ref c0 := by rw [hfd]
    have e : He.codeOf K ("looked", none) = c0 := He.codeOf_eq (p := ("looked", none)) lk hc
    have e1 : lkC K = c0 := e
    exact ⟨c0, lkT K, hc, e1 ▸ TB, List.mem_cons_self, fun p hp _ => by rw [List.mem_singleton.mp hp]⟩
  exact ⟨He.ga K "looked", fd, ok_looked (y_bi Y) 2 (ip_ok (2 + 8) (by decide) (y_ipk Y)) LT (hd_walk_of Y) (c_lots_in Y) (c_own_keys Y) (y_ci Y) (y_xf Y).ln (c_is_step Y) (c_pairs_of Y) F1, He.glo_ok Y.X Y.G (sy_fa Y.S 29 rfl), F1.kp, F1.bindsN fun _ _ _ _ _ _ us hl => match us, hl with
    | [_, _, _, _, _, _, _], _ => by first | rfl | with_unfolding_all rfl⟩
theorem c_looked (Y : Yd h K base mg) (TB : LamX.TabB base mg (lkC K) (lkT K)) : Cal R.prog w K mg base 11 "looked" p_looked (spP K (tabs K) fun ds Φ => f_looked 2 ds Φ fun _ => False) := by
  obtain ⟨g, fd, F, h1, h2, h3⟩ := (y_lkx (w := w) Y TB).ex
  exact ⟨g, fd, fnok_drop F, h1, h2, h3⟩
theorem c_least_steps (Y : Yd h K base mg) : Cal R.prog w K mg base 10 "least_steps" p_least_steps (spP K T (f_least_steps 2)) := (hd_least_steps Y).cal fun g fd F => ok_least_steps (y_bi Y) 2 (c_lots_in Y) (c_closing_word Y) (y_ci Y) (y_xf Y).ln F
theorem c_within_paper (Y : Yd h K base mg) (TB : LamX.TabB base mg (lkC K) (lkT K)) : Cal R.prog w K mg base 12 "within_paper" p_within_paper (spP K (tabs K) (f_within_paper 2)) := (hd_within_paper Y).cal fun g fd F => ok_within_paper (y_bi Y) 2 (c_least_steps Y) (c_looked Y TB) (y_mkPaper Y) F
theorem c_fewer (Y : Yd h K base mg) : Cal R.prog w K mg base 3 "fewer" p_fewer (spP K T f_fewer) := (hd_fewer Y).cal fun g fd F => ok_fewer (y_cp Y) (y_pf Y).an (y_pf Y).sn (y_mkPaper Y) F
theorem c_is_answer_form (Y : Yd h K base mg) : Cal R.prog w K mg base 3 "is_answer_form" p_is_answer_form (spP K T f_is_answer_form) := (hd_is_answer_form Y).cal fun g fd F => ok_is_answer_form (y_bi Y) (c_is_number Y) F
theorem c_within_fault (Y : Yd h K base mg) (TB : LamX.TabB base mg (lkC K) (lkT K)) : Cal R.prog w K mg base 12 "within_fault" p_within_fault (spP K (tabs K) (f_within_fault 2)) := (hd_within_fault Y).cal fun g fd F => ok_within_fault (y_bi Y) 2 (y_ipf Y) (y_pf Y) (y_xf Y) (y_lkx Y TB) (c_is_answer_form Y) F
theorem c_is_within_paper (Y : Yd h K base mg) (TB : LamX.TabB base mg (lkC K) (lkT K)) : Cal R.prog w K mg base 13 "is_within_paper" p_is_within_paper (spP K (tabs K) (f_is_within_paper 2)) := (hd_is_within_paper Y).cal fun g fd F => ok_is_within_paper 2 (c_within_fault Y TB) F
theorem c_answer_reach (Y : Yd h K base mg) : Cal R.prog w K mg base 1 "answer_reach" p_answer_reach (spP K T f_answer_reach) := (hd_answer_reach Y).cal fun g fd F => ok_answer_reach (y_bi Y) F
theorem c_tied (Y : Yd h K base mg) (TB : LamX.TabB base mg (lkC K) (lkT K)) : Cal R.prog w K mg base 12 "tied" p_tied (spP K (tabs K) (f_tied 2)) := (hd_tied Y).cal fun g fd F => ok_tied (y_bi Y) 2 (y_pf Y) (c_answer_reach Y) (c_looked Y TB) F
theorem c_first_fault (Y : Yd h K base mg) (TB : LamX.TabB base mg (lkC K) (lkT K)) : Cal R.prog w K mg base 12 "first_fault" p_first_fault (spP K (tabs K) (f_first_fault 2)) := (hd_first_fault Y).cal fun g fd F => ok_first_fault (y_bi Y) 2 (y_ipf Y) (y_pf Y) (y_xf Y) (y_lkx Y TB) (c_answer_reach Y) (c_is_answer_form Y) F
theorem c_is_right (Y : Yd h K base mg) (TB : LamX.TabB base mg (lkC K) (lkT K)) : Cal R.prog w K mg base 13 "is_right" p_is_right (spP K (tabs K) (f_is_right 2)) := (hd_is_right Y).cal fun g fd F => ok_is_right 2 (c_first_fault Y TB) F
theorem c__law_distance (Y : Yd h K base mg) : Cal R.prog w K mg base 1 "_law_distance" p__law_distance (spP K T f_law_distance) := (hd__law_distance Y).cal fun g fd F => ok_law_distance (y_bi Y) F
theorem cr__law_passes (Y : Yd h K base mg) (n : Nat) : Cal R.prog w K mg base (n + 1) "_law_passes" p__law_passes (spP K T (f_law_passes n)) := by
  induction n with
  | zero => exact (hd__law_passes Y).cal fun g fd F => ok_law_passes (y_bi Y) 0 (fun m e => absurd e (Nat.succ_ne_zero m)) F
  | succ n ih => exact (hd__law_passes Y).cal fun g fd F => ok_law_passes (y_bi Y) (n + 1) (fun m e => by cases e; exact ih) F
theorem c__law_pairs (Y : Yd h K base mg) : Cal R.prog w K mg base 4 "_law_pairs" p__law_pairs (spP K T (f_law_pairs 2)) := (hd__law_pairs Y).cal fun g fd F => ok_law_pairs (y_bi Y) 2 (cr__law_passes Y 2) (c__law_distance Y) F
theorem c__law_near (Y : Yd h K base mg) : Cal R.prog w K mg base 2 "_law_near" p__law_near (spP K T f_law_near) := (hd__law_near Y).cal fun g fd F => ok_law_near (y_bi Y) (c__law_distance Y) F
theorem c__law_lots (Y : Yd h K base mg) : Cal R.prog w K mg base 1 "_law_lots" p__law_lots (spP K T f_lots_in) := (hd__law_lots Y).cal fun g fd F => ok_law_lots  F
theorem c__law_right_words (Y : Yd h K base mg) : Cal R.prog w K mg base 8 "_law_right_words" p__law_right_words (spP K T (f_law_right_words 2)) := (hd__law_right_words Y).cal fun g fd F => ok_law_right_words 2 (c_may_pass Y) (c_floor_of Y) F
theorem c__law_met (Y : Yd h K base mg) : Cal R.prog w K mg base 9 "_law_met" p__law_met (spP K T (f_law_met 2)) := (hd__law_met Y).cal fun g fd F => ok_law_met (y_bi Y) 2 (c__law_right_words Y) (c__law_lots Y) F
theorem c__law_least (Y : Yd h K base mg) : Cal R.prog w K mg base 9 "_law_least" p__law_least (spP K T (f_law_least 2)) := (hd__law_least Y).cal fun g fd F => ok_law_least (y_bi Y) 2 (c__law_right_words Y) (c__law_lots Y) F
theorem c__law_is_number (Y : Yd h K base mg) : Cal R.prog w K mg base 1 "_law_is_number" p__law_is_number (spP K T f_is_number) := (hd__law_is_number Y).cal fun g fd F => ok_law_is_number (y_bi Y) F
theorem c__law_is_form (Y : Yd h K base mg) : Cal R.prog w K mg base 2 "_law_is_form" p__law_is_form (spP K T f_law_is_form) := (hd__law_is_form Y).cal fun g fd F => ok_law_is_form (y_bi Y) (c__law_is_number Y) F
theorem c__law_fault (Y : Yd h K base mg) : Cal R.prog w K mg base 10 "_law_fault" p__law_fault (spP K T (f_law_fault 2)) := (hd__law_fault Y).cal fun g fd F => ok_law_fault (y_bi Y) 2 (y_pf Y) (y_xf Y) (c__law_is_form Y) (c__law_met Y) (c__law_pairs Y) F
theorem c__law_draw (Y : Yd h K base mg) (p q : Addr) : Cal R.prog w K mg base 1 "_law_draw" p__law_draw (spD K (HpM p q) (HpI p q) T (f_draw p)) := (hd__law_draw Y).cal fun g fd F => ok_law_draw (y_bi Y) p q F
theorem c__law_pick (Y : Yd h K base mg) (p q : Addr) : Cal R.prog w K mg base 2 "_law_pick" p__law_pick (spD K (HpM p q) (HpI p q) T (f_pick p)) := (hd__law_pick Y).cal fun g fd F => ok_law_pick (y_bi Y) p q (c__law_draw Y p q) F
theorem c__law_vector (Y : Yd h K base mg) (p q : Addr) : Cal R.prog w K mg base 2 "_law_vector" p__law_vector (spD K (HpM p q) (HpI p q) T (f_vector p)) := (hd__law_vector Y).cal fun g fd F => ok_law_vector (y_bi Y) p q (c__law_draw Y p q) F
theorem cr__law_sieve (Y : Yd h K base mg) (p q : Addr) (n : Nat) : Cal R.prog w K mg base (n + 3) "_law_sieve" p__law_sieve (spD K (HpM p q) (HpI p q) T (f_sieve p n)) := by
  induction n with
  | zero => exact (hd__law_sieve Y).cal fun g fd F => ok_law_sieve (y_bi Y) p q (c__law_draw Y p q) (c__law_pick Y p q) 0 (fun m e => absurd e (Nat.succ_ne_zero m)) F
  | succ n ih => exact (hd__law_sieve Y).cal fun g fd F => ok_law_sieve (y_bi Y) p q (c__law_draw Y p q) (c__law_pick Y p q) (n + 1) (fun m e => by cases e; exact ih) F
theorem c__law_state (Y : Yd h K base mg) (p q : Addr) : Cal R.prog w K mg base 3 "_law_state" p__law_state (spD K (HpM p q) (HpI p q) T (f_state p)) := (hd__law_state Y).cal fun g fd F => ok_law_state (y_bi Y) p q (c__law_draw Y p q) (c__law_pick Y p q) (c__law_vector Y p q) F
theorem c__law_summary (Y : Yd h K base mg) : Cal R.prog w K mg base 1 "_law_summary" p__law_summary (spP K T f_summary) := (hd__law_summary Y).cal fun g fd F => ok_law_summary (y_bi Y) F
theorem c__law_region (Y : Yd h K base mg) (p q : Addr) : Cal R.prog w K mg base 3 "_law_region" p__law_region (spD K (HpM p q) (HpI p q) T (f_region p)) := (hd__law_region Y).cal fun g fd F => ok_law_region (y_bi Y) p q (c__law_pick Y p q) (c__law_distance Y) F
theorem c__law_some_steps (Y : Yd h K base mg) (p q : Addr) : Cal R.prog w K mg base 9 "_law_some_steps" p__law_some_steps (spD K (HpM p q) (HpI p q) T (f_some_steps p 2)) := (hd__law_some_steps Y).cal fun g fd F => ok_law_some_steps (y_bi Y) p q 2 (c__law_pick Y p q) (c__law_right_words Y) (c__law_lots Y) F
theorem cr__law_lot (Y : Yd h K base mg) (p q : Addr) (n : Nat) : Cal R.prog w K mg base (n + 4) "_law_lot" p__law_lot (spD K (HpM p q) (HpI p q) T (f_lot p n)) := by
  induction n with
  | zero => exact (hd__law_lot Y).cal fun g fd F => ok_law_lot (y_bi Y) p q (c__law_draw Y p q) (c__law_pick Y p q) (c__law_region Y p q) (c__law_summary Y) 0 (fun m e => absurd e (Nat.succ_ne_zero m)) F
  | succ n ih => exact (hd__law_lot Y).cal fun g fd F => ok_law_lot (y_bi Y) p q (c__law_draw Y p q) (c__law_pick Y p q) (c__law_region Y p q) (c__law_summary Y) (n + 1) (fun m e => by cases e; exact ih) F
theorem c__law_world (Y : Yd h K base mg) (p q : Addr) : Cal R.prog w K mg base 8 "_law_world" p__law_world (spD K (HpM p q) (HpI p q) T (f_world p)) := (hd__law_world Y).cal fun g fd F => ok_law_world (y_bi Y) p q (c__law_draw Y p q) (c__law_pick Y p q) (c__law_vector Y p q) (c__law_state Y p q) (c__law_near Y) (cr__law_lot Y p q 3) (cr__law_sieve Y p q 2) (y_mkIndex Y) F
theorem c__law_spoilt (Y : Yd h K base mg) (p q : Addr) : Cal R.prog w K mg base 3 "_law_spoilt" p__law_spoilt (spD K (HpM p q) (HpI p q) T (f_spoilt p)) := (hd__law_spoilt Y).cal fun g fd F => ok_law_spoilt (y_bi Y) p q (c__law_draw Y p q) (c__law_pick Y p q) F
theorem c__law_heap (Y : Yd h K base mg) : Cal R.prog w K mg base 1 "_law_heap" p__law_heap (spHeap K T) := (hd__law_heap Y).cal fun g fd F => ok_law_heap (y_bi Y) F
theorem calk_of {k : Nat} {x : Str} {st : Stmt} {ps : List Str} {sp : Sp} (H : Hd K mg x st ps) (ok : ∀ g fd, FnT K x st g fd → FnOk R.prog w K mg base CX0 k g fd ps sp)
    (hb : ∀ (kV doc pm : Value) (an : Option Addr) (cdv ct : Value) (ws : List Value), ws.length = ps.length → bindArgs (PySem.W.fnOf x x (defArgs st) (defBody st) (defScope st) .none kV doc pm an cdv ct) ⟨[], ps.reverse.zip ws⟩ = pure (ps.zip ws.reverse)) : CalK R.prog w K mg base k x ps sp := by
  obtain ⟨g, fd, F, hm, hk, _⟩ := H.ex
  obtain ⟨oc, od, dV, kV, doc, pm, an, cdv, ct, osl, hfd, lk, hcd, hD, hK⟩ := F.ex
  refine ⟨g, fd, ok g fd F, hm, hk, ⟨fun s us ws _ hu hw => ?_, fun _ r => r.reverse⟩⟩
  have e : us = [] := List.length_eq_zero_iff.mp hu
  have hw2 : ws.length = ps.length := by rw [hw, List.length_reverse]
  rcases hD with ⟨_, rfl⟩ | ⟨e2, _⟩
  · rw [e, hfd]
    exact .of_eq (hb kV doc pm an cdv ct ws hw2)
  · exact absurd rfl e2
theorem k_within_paper (Y : Yd h K base mg) (TB : LamX.TabB base mg (lkC K) (lkT K)) : CalK R.prog w K mg base 12 "within_paper" p_within_paper (spP K (tabs K) (f_within_paper 2)) := calk_of (hd_within_paper Y) (fun g fd F => ok_within_paper (y_bi Y) 2 (c_least_steps Y) (c_looked Y TB) (y_mkPaper Y) F) fun _ _ _ _ _ _ ws hl => match ws, hl with
  | [_, _, _, _, _, _], _ => by first | rfl | with_unfolding_all rfl
theorem k_within_fault (Y : Yd h K base mg) (TB : LamX.TabB base mg (lkC K) (lkT K)) : CalK R.prog w K mg base 12 "within_fault" p_within_fault (spP K (tabs K) (f_within_fault 2)) := calk_of (hd_within_fault Y) (fun g fd F => ok_within_fault (y_bi Y) 2 (y_ipf Y) (y_pf Y) (y_xf Y) (y_lkx Y TB) (c_is_answer_form Y) F) fun _ _ _ _ _ _ ws hl => match ws, hl with
  | [_, _, _, _, _, _, _], _ => by first | rfl | with_unfolding_all rfl
theorem k_is_within_paper (Y : Yd h K base mg) (TB : LamX.TabB base mg (lkC K) (lkT K)) : CalK R.prog w K mg base 13 "is_within_paper" p_is_within_paper (spP K (tabs K) (f_is_within_paper 2)) := calk_of (hd_is_within_paper Y) (fun g fd F => ok_is_within_paper 2 (c_within_fault Y TB) F) fun _ _ _ _ _ _ ws hl => match ws, hl with
  | [_, _, _, _, _, _, _], _ => by first | rfl | with_unfolding_all rfl
theorem k_fewer (Y : Yd h K base mg) (TB : LamX.TabB base mg (lkC K) (lkT K)) : CalK R.prog w K mg base 3 "fewer" p_fewer (spP K (tabs K) f_fewer) := calk_of (hd_fewer Y) (fun g fd F => ok_fewer (y_cp Y) (y_pf Y).an (y_pf Y).sn (y_mkPaper Y) F) fun _ _ _ _ _ _ ws hl => match ws, hl with
  | [_, _], _ => by first | rfl | with_unfolding_all rfl
theorem k_tied (Y : Yd h K base mg) (TB : LamX.TabB base mg (lkC K) (lkT K)) : CalK R.prog w K mg base 12 "tied" p_tied (spP K (tabs K) (f_tied 2)) := calk_of (hd_tied Y) (fun g fd F => ok_tied (y_bi Y) 2 (y_pf Y) (c_answer_reach Y) (c_looked Y TB) F) fun _ _ _ _ _ _ ws hl => match ws, hl with
  | [_, _, _, _], _ => by first | rfl | with_unfolding_all rfl
theorem g_wright (Y : Yd h K base mg) (TB : LamX.TabB base mg (lkC K) (lkT K)) (p q : Addr) : CalG R.prog w K mg base 14 "_law_within_right" p__law_within_right (spD K (HpM p q) (HpI p q) (tabs K) (f_wright p)) := by
  obtain ⟨g, fd, F, hm, hk, hb⟩ := (hd__law_within_right Y).ex
  exact ⟨g, fd, ok_law_within_right (y_bi Y) (y_bi Y).repr (y_pf Y) (y_xf Y) (y_mkPaper Y) p q (c__law_pick Y p q) (c__law_pairs Y) (c__law_least Y) (c__law_some_steps Y p q) (c__law_spoilt Y p q) (c_within_paper Y TB) (k_within_paper Y TB) (c_within_fault Y TB) (k_within_fault Y TB) (c__law_fault Y) (c_is_within_paper Y TB) (k_is_within_paper Y TB) F, hm, hk, hb⟩
theorem g_fright (Y : Yd h K base mg) (TB : LamX.TabB base mg (lkC K) (lkT K)) (p q : Addr) : CalG R.prog w K mg base 14 "_law_fewer_right" p__law_fewer_right (spD K (HpM p q) (HpI p q) (tabs K) (f_fright p)) := by
  obtain ⟨g, fd, F, hm, hk, hb⟩ := (hd__law_fewer_right Y).ex
  exact ⟨g, fd, ok_law_fewer_right (y_bi Y) (y_bi Y).repr (y_pf Y) (y_xf Y) (y_mkPaper Y) p q (c__law_pairs Y) (c__law_some_steps Y p q) (c_fewer Y) (k_fewer Y TB) (c_is_right Y TB) (c_tied Y TB) (k_tied Y TB) (c_is_within_paper Y TB) F, hm, hk, hb⟩
theorem y_lc (Y : Yd h K base mg) (TB : LamX.TabB base mg (lkC K) (lkT K)) : LawC R.prog w K mg base (tabs K) :=
  ⟨c__law_heap Y, c_within_paper Y TB, c_within_fault Y TB, c_tied Y TB, c__law_pairs Y, c__law_draw Y, c__law_pick Y, c__law_world Y, g_wright Y TB, g_fright Y TB⟩
theorem y_law (Y : Yd h K base mg) (TB : LamX.TabB base mg (lkC K) (lkT K)) {g : Addr} {fd : FuncData} (F : FnT K "law" s_law g fd) : FnG R.prog w K mg base 15 g fd p_law (spP K (tabs K) f_law) :=
  ok_law (y_bi Y) (y_bi Y).repr (y_pf Y) (y_xf Y) (y_mkPaper Y) (y_mkIndex Y) (y_lc Y TB) F
end
end N
set_option Elab.async false
set_option linter.all false
set_option maxRecDepth 100000
set_option maxHeartbeats 1000000
namespace N
open PySem
open PySem.Spec
open PyProof.Rows
open L2
/-! FIN: the row. -/
/-- all but the tables -/
def noTb (H : Hp) : Hp := fun b => match H b with
  | some (.tbl _) => none
  | o => o
theorem noTb_eq {H : Hp} {b : Addr} {o : HO} (h : H b = some o) (n : ∀ ps, o ≠ .tbl ps) : noTb H b = some o := by
  unfold noTb
  rw [h]
  cases o with
  | tbl ps => exact absurd rfl (n ps)
  | _ => rfl
theorem noTb_cln (H : Hp) : Cln (noTb H) H := by
  refine ⟨fun b o h => ?_, fun b ps h => ?_⟩
  · unfold noTb at h
    cases q : H b with
    | none =>
      rw [q] at h
      cases h
    | some u =>
      rw [q] at h
      cases u <;> first | exact h | cases h
  · unfold noTb at h
    cases q : H b with
    | none =>
      rw [q] at h
      cases h
    | some u =>
      rw [q] at h
      cases u <;> cases h
theorem noTb_sq {K : PySem.W.Frag} {H : Hp} {a : Addr} {xs : List V} (h : SqL K H a xs) : SqL K (noTb H) a xs := by
  rcases h with (h | ⟨o, h⟩) | h
  · exact .inl (.inl (noTb_eq h fun ps e => by cases e))
  · exact .inl (.inr ⟨o, noTb_eq h fun ps e => by cases e⟩)
  · exact .inr h
theorem law_sp {K : PySem.W.Frag} {T : Addr} {H : Hp} {a : Addr} {ns : List Int} (hl : ns.length ≤ 1000) (hT : H T = some (.tbl #[])) (hS : SqL K H a (ns.map V.int)) : spP K [(T, lamQ)] f_law [.ref a] H (fun v _ => v = .bl true) fun _ _ _ => False := by
  refine ⟨noTb H, [.scr ns], fun d => d = .bl true, noTb_cln H, fun b z => z.elim, fun p hp => ?_, trivial, .cons (.scr (noTb_sq hS)) .nil, ⟨ns, rfl, hl, rfl⟩, fun v d G' H' _ _ _ _ r e => ?_⟩
  · rw [List.mem_singleton.mp hp]
    exact .nil hT
  · subst e
    cases r
    rfl
theorem law_at (w : World) (mg : Str → Option Value) (f : Addr) (h : Heap) (Y : hk.says w h) (G : h.Ns mainGlobals mg) (hmg : mg "law" = some (.ref f)) : ∃ K : PySem.W.Frag, K.In h ∧ LawG PySem.Challenge.rw_nonearer_k40_whole_papers_within_a_reach w K 15 63 "_law_script" mg f h := by
  obtain ⟨K, KX, S⟩ := Y
  have Y0 : Yd h K h mg := ⟨S, KX, G⟩
  obtain ⟨g, fd, F, hm, hk, hb⟩ := (hd_law Y0).ex
  refine ⟨K, KX, ⟨fd, lkC K, lkT K, spP K (tabs K) f_law, S.empty, S.out, PySem.W.codeHd_of_K KX S.hd, fun s u => ?_, fun H a ns hl _ hT hS => law_sp (by omega) hT hS, fun base X0 G0 TB => ?_⟩⟩
  · exact FunD.bindsA (ps := ["_law_script"]) F (fun _ _ _ _ _ _ us hl => match us, hl with | [_], _ => by first | rfl | with_unfolding_all rfl) s [u] rfl
  · obtain rfl : f = g := by
      have e := hmg.symm.trans hm
      cases e
      rfl
    exact y_law (w := w) ⟨S, X0, G0⟩ TB F
end N
open PySem PySem.W PySem.Calls PyProof.Rows
theorem PySem.Challenge.cw_nonearer_k40_whole_papers_within_a_reach_holds : PySem.Challenge.rw_nonearer_k40_whole_papers_within_a_reach.Holds := by
  w_on; o_law
  refine HandSHeadRun.head_imp (r := OpenLaw.row PySem.Challenge.rw_nonearer_k40_whole_papers_within_a_reach) (q := N.qv) (H := N.hk) (ob := N.ob) (M := 6000) (loose := N.nms) (d := HandSHeadRun.topDef N.R.prog 82) (kwd := []) N.ob_eq N.run
    (by kernel_rfl) (by kernel_rfl) (by kernel_rfl) (by rfl) (by first | assumption | decide +kernel) (by decide +kernel) ⟨rfl, rfl, rfl, rfl, rfl, by decide +kernel⟩ ?hw ?hc
  case hw => w_witness2
  case hc =>
    refine N.walkG (l := PySem.Challenge.rw_nonearer_k40_whole_papers_within_a_reach) (n := 63) (k := 15) (x := "_law_script") rfl (by decide) (by kernel_rfl) ⟨rfl, by decide, by decide⟩ fun w mg f h Y G hmg0 => ?_
    have hmg : mg ("law" : PySem.Str) = some (.ref f) := by
      have e : (HandSHeadRun.topDef N.R.prog 82).name = ("law" : PySem.Str) := by kernel_rfl
      rw [← e]
      exact hmg0
    exact N.law_at w mg f h Y G hmg

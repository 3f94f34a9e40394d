import PyProof.Rows.All
import Wide.All
import OpenK.AllK
import Wide.FinOn
import KE.KStateDown
import KE.OsGo
import Lean
import HandS.ForSpec
import HandS.Defaults
import HandS.Head0
import HandS.Head1
import HandS.Head2
import HandS.HeadHook1
import HandS.HeadHook2
import PySem.Challenge.RW_matrixwalks_s01_answers
import PyKv426
import HandS.Comp
import HandS.Dict
import HandS.Iter
import HandS.Wide
import HandS.Deep
import HandS.Conv
import HandS.Evl
import HandS.TupAny
import HandS.Style
import HandS.NoneIn
import PyProof.EnumMake
import PyProof.Draws
import PyProof.WalksMore
import HandS.DictTup
import HandS.CallLocal
set_option Elab.async false
set_option linter.all false
set_option maxRecDepth 100000
set_option maxHeartbeats 4000000
section
set_option Elab.async false
set_option linter.all false
set_option maxRecDepth 100000
set_option maxHeartbeats 0
/-! # The text's defs and the head's facts (printed by gen_head.py) -/
namespace MwH
open PySem PySem.Spec PyProof.Rows L2
abbrev prog : Program := PySem.Challenge.pw_matrixwalks_s01_answers
def topS (i : Nat) : Stmt := PySem.Challenge.pw_matrixwalks_s01_answers.main.body.getD i (.Pass ⟨0, 0, 0, 0⟩)
/-! the statements of the top, by their places -/
abbrev s_identity : Stmt := topS 1
abbrev s_product_entry : Stmt := topS 2
abbrev s_product_of : Stmt := topS 3
abbrev s_product_of_word : Stmt := topS 4
abbrev s_longer_words : Stmt := topS 5
abbrev s_greatest_total : Stmt := topS 6
abbrev s_row_sum : Stmt := topS 8
abbrev s_has_no_zero_row : Stmt := topS 9
abbrev s_are_chances : Stmt := topS 10
abbrev s_denominator_of : Stmt := topS 11
abbrev s_scaled : Stmt := topS 12
abbrev s_chances_of_word : Stmt := topS 13
abbrev s_common_divisor : Stmt := topS 14
abbrev s_lowest_terms : Stmt := topS 15
abbrev s_distance_of : Stmt := topS 16
abbrev s_greatest_distance : Stmt := topS 17
abbrev s_coefficient_of : Stmt := topS 18
abbrev s_has_index : Stmt := topS 20
abbrev s_indices_in : Stmt := topS 21
abbrev s_set_of_row : Stmt := topS 22
abbrev s_pattern_of : Stmt := topS 23
abbrev s_patterns_of : Stmt := topS 24
abbrev s_mapped : Stmt := topS 25
abbrev s_pattern_after : Stmt := topS 26
abbrev s_set_after : Stmt := topS 27
abbrev s_met_patterns : Stmt := topS 28
abbrev s_word_of : Stmt := topS 29
abbrev s_is_zero : Stmt := topS 30
abbrev s_common_columns : Stmt := topS 31
abbrev s_zero_word : Stmt := topS 32
abbrev s_positive_column_word : Stmt := topS 33
abbrev s_steps_by : Stmt := topS 35
abbrev s_states_behind : Stmt := topS 36
abbrev s_follow_table : Stmt := topS 37
abbrev s_is_or_follows : Stmt := topS 38
abbrev s_parts_and_meets : Stmt := topS 39
abbrev s_doubles_on_way : Stmt := topS 40
abbrev s_is_exponential : Stmt := topS 41
abbrev s_leaks_of : Stmt := topS 42
abbrev s_continues : Stmt := topS 43
abbrev s_degree_of : Stmt := topS 44
abbrev s_growth_of : Stmt := topS 45
abbrev s_are_apart : Stmt := topS 47
abbrev s_pair_after : Stmt := topS 48
abbrev s_first_pairs : Stmt := topS 49
abbrev s_next_pairs : Stmt := topS 50
abbrev s_mixing_index : Stmt := topS 51
abbrev s_all_pairs : Stmt := topS 52
abbrev s_first_matrix_into : Stmt := topS 53
abbrev s_lasting_pairs : Stmt := topS 54
abbrev s_walk_apart : Stmt := topS 55
abbrev s_separating_words : Stmt := topS 56
abbrev s_is_guarantee : Stmt := topS 64
abbrev s_is_satisfied : Stmt := topS 65
abbrev s_are_satisfied : Stmt := topS 66
abbrev s_has_word : Stmt := topS 79
abbrev s_pair_refusal : Stmt := topS 80
abbrev s_get_matrix : Stmt := topS 81
abbrev s_list_guarantees : Stmt := topS 82
abbrev s_answer_is_satisfied : Stmt := topS 83
abbrev s_is_reachable : Stmt := topS 84
abbrev s_count_paths : Stmt := topS 85
abbrev s_path_probability : Stmt := topS 86
abbrev s_reachable_set : Stmt := topS 87
abbrev s_count_patterns : Stmt := topS 88
abbrev s_told_word : Stmt := topS 89
abbrev s_answer_zero_word : Stmt := topS 90
abbrev s_answer_positive_column_word : Stmt := topS 91
abbrev s_growth : Stmt := topS 92
abbrev s_max_paths : Stmt := topS 93
abbrev s_ergodicity_coefficient : Stmt := topS 94
abbrev s_answer_mixing_index : Stmt := topS 95
abbrev s_answer_separating_words : Stmt := topS 96
abbrev s_get_position : Stmt := topS 97
abbrev s_step_refusal : Stmt := topS 98
abbrev s_is_stuck : Stmt := topS 99
abbrev s_next_position : Stmt := topS 100
abbrev s_preview_walk : Stmt := topS 101
abbrev s_get_log_entry : Stmt := topS 102
abbrev s_get_state : Stmt := topS 103
abbrev s_with_item : Stmt := topS 116
abbrev s_without_item : Stmt := topS 117
abbrev s_keeps_guarantees : Stmt := topS 118
abbrev s_are_entries : Stmt := topS 119
abbrev s_add_matrix : Stmt := topS 120
abbrev s_set_entry : Stmt := topS 121
abbrev s_remove_matrix : Stmt := topS 122
abbrev s_add_guarantee : Stmt := topS 123
abbrev s_remove_guarantee : Stmt := topS 124
abbrev s_set_position : Stmt := topS 125
abbrev s_walk : Stmt := topS 126
abbrev s_undo : Stmt := topS 127
abbrev s_create : Stmt := topS 136
abbrev s_answer_to : Stmt := topS 137
abbrev s_list_end : Stmt := topS 138
abbrev s_answers : Stmt := topS 139
abbrev s_Model_init : Stmt := inClass (topS 67) 0
abbrev s_Model_remember : Stmt := inClass (topS 67) 1
abbrev s_Model_take_matrices : Stmt := inClass (topS 67) 2
abbrev s_Model_take_guarantees : Stmt := inClass (topS 67) 3
abbrev s_Model_take_walk : Stmt := inClass (topS 67) 4
abbrev s_Model_go_back : Stmt := inClass (topS 67) 5
abbrev s_Desk_init : Stmt := inClass (topS 68) 0
abbrev s_Desk_place_model : Stmt := inClass (topS 68) 1
/-! the defs -/
def d_identity : He.DefD := ⟨("identity", none), "identity", "identity", defArgs s_identity, defBody s_identity, defScope s_identity, [], []⟩
def d_product_entry : He.DefD := ⟨("product_entry", none), "product_entry", "product_entry", defArgs s_product_entry, defBody s_product_entry, defScope s_product_entry, [], []⟩
def d_product_of : He.DefD := ⟨("product_of", none), "product_of", "product_of", defArgs s_product_of, defBody s_product_of, defScope s_product_of, [], []⟩
def d_product_of_word : He.DefD := ⟨("product_of_word", none), "product_of_word", "product_of_word", defArgs s_product_of_word, defBody s_product_of_word, defScope s_product_of_word, [], []⟩
def d_longer_words : He.DefD := ⟨("longer_words", none), "longer_words", "longer_words", defArgs s_longer_words, defBody s_longer_words, defScope s_longer_words, [], []⟩
def d_greatest_total : He.DefD := ⟨("greatest_total", none), "greatest_total", "greatest_total", defArgs s_greatest_total, defBody s_greatest_total, defScope s_greatest_total, [], []⟩
def d_row_sum : He.DefD := ⟨("row_sum", none), "row_sum", "row_sum", defArgs s_row_sum, defBody s_row_sum, defScope s_row_sum, [], []⟩
def d_has_no_zero_row : He.DefD := ⟨("has_no_zero_row", none), "has_no_zero_row", "has_no_zero_row", defArgs s_has_no_zero_row, defBody s_has_no_zero_row, defScope s_has_no_zero_row, [], []⟩
def d_are_chances : He.DefD := ⟨("are_chances", none), "are_chances", "are_chances", defArgs s_are_chances, defBody s_are_chances, defScope s_are_chances, [], []⟩
def d_denominator_of : He.DefD := ⟨("denominator_of", none), "denominator_of", "denominator_of", defArgs s_denominator_of, defBody s_denominator_of, defScope s_denominator_of, [], []⟩
def d_scaled : He.DefD := ⟨("scaled", none), "scaled", "scaled", defArgs s_scaled, defBody s_scaled, defScope s_scaled, [], []⟩
def d_chances_of_word : He.DefD := ⟨("chances_of_word", none), "chances_of_word", "chances_of_word", defArgs s_chances_of_word, defBody s_chances_of_word, defScope s_chances_of_word, [], []⟩
def d_common_divisor : He.DefD := ⟨("common_divisor", none), "common_divisor", "common_divisor", defArgs s_common_divisor, defBody s_common_divisor, defScope s_common_divisor, [], []⟩
def d_lowest_terms : He.DefD := ⟨("lowest_terms", none), "lowest_terms", "lowest_terms", defArgs s_lowest_terms, defBody s_lowest_terms, defScope s_lowest_terms, [], []⟩
def d_distance_of : He.DefD := ⟨("distance_of", none), "distance_of", "distance_of", defArgs s_distance_of, defBody s_distance_of, defScope s_distance_of, [], []⟩
def d_greatest_distance : He.DefD := ⟨("greatest_distance", none), "greatest_distance", "greatest_distance", defArgs s_greatest_distance, defBody s_greatest_distance, defScope s_greatest_distance, [], []⟩
def d_coefficient_of : He.DefD := ⟨("coefficient_of", none), "coefficient_of", "coefficient_of", defArgs s_coefficient_of, defBody s_coefficient_of, defScope s_coefficient_of, [], []⟩
def d_has_index : He.DefD := ⟨("has_index", none), "has_index", "has_index", defArgs s_has_index, defBody s_has_index, defScope s_has_index, [], []⟩
def d_indices_in : He.DefD := ⟨("indices_in", none), "indices_in", "indices_in", defArgs s_indices_in, defBody s_indices_in, defScope s_indices_in, [], []⟩
def d_set_of_row : He.DefD := ⟨("set_of_row", none), "set_of_row", "set_of_row", defArgs s_set_of_row, defBody s_set_of_row, defScope s_set_of_row, [], []⟩
def d_pattern_of : He.DefD := ⟨("pattern_of", none), "pattern_of", "pattern_of", defArgs s_pattern_of, defBody s_pattern_of, defScope s_pattern_of, [], []⟩
def d_patterns_of : He.DefD := ⟨("patterns_of", none), "patterns_of", "patterns_of", defArgs s_patterns_of, defBody s_patterns_of, defScope s_patterns_of, [], []⟩
def d_mapped : He.DefD := ⟨("mapped", none), "mapped", "mapped", defArgs s_mapped, defBody s_mapped, defScope s_mapped, [], []⟩
def d_pattern_after : He.DefD := ⟨("pattern_after", none), "pattern_after", "pattern_after", defArgs s_pattern_after, defBody s_pattern_after, defScope s_pattern_after, [], []⟩
def d_set_after : He.DefD := ⟨("set_after", none), "set_after", "set_after", defArgs s_set_after, defBody s_set_after, defScope s_set_after, [], []⟩
def d_met_patterns : He.DefD := ⟨("met_patterns", none), "met_patterns", "met_patterns", defArgs s_met_patterns, defBody s_met_patterns, defScope s_met_patterns, [], []⟩
def d_word_of : He.DefD := ⟨("word_of", none), "word_of", "word_of", defArgs s_word_of, defBody s_word_of, defScope s_word_of, [], []⟩
def d_is_zero : He.DefD := ⟨("is_zero", none), "is_zero", "is_zero", defArgs s_is_zero, defBody s_is_zero, defScope s_is_zero, [], []⟩
def d_common_columns : He.DefD := ⟨("common_columns", none), "common_columns", "common_columns", defArgs s_common_columns, defBody s_common_columns, defScope s_common_columns, [], []⟩
def d_zero_word : He.DefD := ⟨("zero_word", none), "zero_word", "zero_word", defArgs s_zero_word, defBody s_zero_word, defScope s_zero_word, [], []⟩
def d_positive_column_word : He.DefD := ⟨("positive_column_word", none), "positive_column_word", "positive_column_word", defArgs s_positive_column_word, defBody s_positive_column_word, defScope s_positive_column_word, [], []⟩
def d_steps_by : He.DefD := ⟨("steps_by", none), "steps_by", "steps_by", defArgs s_steps_by, defBody s_steps_by, defScope s_steps_by, [], []⟩
def d_states_behind : He.DefD := ⟨("states_behind", none), "states_behind", "states_behind", defArgs s_states_behind, defBody s_states_behind, defScope s_states_behind, [], []⟩
def d_follow_table : He.DefD := ⟨("follow_table", none), "follow_table", "follow_table", defArgs s_follow_table, defBody s_follow_table, defScope s_follow_table, [], []⟩
def d_is_or_follows : He.DefD := ⟨("is_or_follows", none), "is_or_follows", "is_or_follows", defArgs s_is_or_follows, defBody s_is_or_follows, defScope s_is_or_follows, [], []⟩
def d_parts_and_meets : He.DefD := ⟨("parts_and_meets", none), "parts_and_meets", "parts_and_meets", defArgs s_parts_and_meets, defBody s_parts_and_meets, defScope s_parts_and_meets, [], []⟩
def d_doubles_on_way : He.DefD := ⟨("doubles_on_way", none), "doubles_on_way", "doubles_on_way", defArgs s_doubles_on_way, defBody s_doubles_on_way, defScope s_doubles_on_way, [], []⟩
def d_is_exponential : He.DefD := ⟨("is_exponential", none), "is_exponential", "is_exponential", defArgs s_is_exponential, defBody s_is_exponential, defScope s_is_exponential, [], []⟩
def d_leaks_of : He.DefD := ⟨("leaks_of", none), "leaks_of", "leaks_of", defArgs s_leaks_of, defBody s_leaks_of, defScope s_leaks_of, [], []⟩
def d_continues : He.DefD := ⟨("continues", none), "continues", "continues", defArgs s_continues, defBody s_continues, defScope s_continues, [], []⟩
def d_degree_of : He.DefD := ⟨("degree_of", none), "degree_of", "degree_of", defArgs s_degree_of, defBody s_degree_of, defScope s_degree_of, [], []⟩
def d_growth_of : He.DefD := ⟨("growth_of", none), "growth_of", "growth_of", defArgs s_growth_of, defBody s_growth_of, defScope s_growth_of, [], []⟩
def d_are_apart : He.DefD := ⟨("are_apart", none), "are_apart", "are_apart", defArgs s_are_apart, defBody s_are_apart, defScope s_are_apart, [], []⟩
def d_pair_after : He.DefD := ⟨("pair_after", none), "pair_after", "pair_after", defArgs s_pair_after, defBody s_pair_after, defScope s_pair_after, [], []⟩
def d_first_pairs : He.DefD := ⟨("first_pairs", none), "first_pairs", "first_pairs", defArgs s_first_pairs, defBody s_first_pairs, defScope s_first_pairs, [], []⟩
def d_next_pairs : He.DefD := ⟨("next_pairs", none), "next_pairs", "next_pairs", defArgs s_next_pairs, defBody s_next_pairs, defScope s_next_pairs, [], []⟩
def d_mixing_index : He.DefD := ⟨("mixing_index", none), "mixing_index", "mixing_index", defArgs s_mixing_index, defBody s_mixing_index, defScope s_mixing_index, [], []⟩
def d_all_pairs : He.DefD := ⟨("all_pairs", none), "all_pairs", "all_pairs", defArgs s_all_pairs, defBody s_all_pairs, defScope s_all_pairs, [], []⟩
def d_first_matrix_into : He.DefD := ⟨("first_matrix_into", none), "first_matrix_into", "first_matrix_into", defArgs s_first_matrix_into, defBody s_first_matrix_into, defScope s_first_matrix_into, [], []⟩
def d_lasting_pairs : He.DefD := ⟨("lasting_pairs", none), "lasting_pairs", "lasting_pairs", defArgs s_lasting_pairs, defBody s_lasting_pairs, defScope s_lasting_pairs, [], []⟩
def d_walk_apart : He.DefD := ⟨("walk_apart", none), "walk_apart", "walk_apart", defArgs s_walk_apart, defBody s_walk_apart, defScope s_walk_apart, [], []⟩
def d_separating_words : He.DefD := ⟨("separating_words", none), "separating_words", "separating_words", defArgs s_separating_words, defBody s_separating_words, defScope s_separating_words, [], []⟩
def d_is_guarantee : He.DefD := ⟨("is_guarantee", none), "is_guarantee", "is_guarantee", defArgs s_is_guarantee, defBody s_is_guarantee, defScope s_is_guarantee, [], []⟩
def d_is_satisfied : He.DefD := ⟨("is_satisfied", none), "is_satisfied", "is_satisfied", defArgs s_is_satisfied, defBody s_is_satisfied, defScope s_is_satisfied, [], []⟩
def d_are_satisfied : He.DefD := ⟨("are_satisfied", none), "are_satisfied", "are_satisfied", defArgs s_are_satisfied, defBody s_are_satisfied, defScope s_are_satisfied, [], []⟩
def d_has_word : He.DefD := ⟨("has_word", none), "has_word", "has_word", defArgs s_has_word, defBody s_has_word, defScope s_has_word, [], []⟩
def d_pair_refusal : He.DefD := ⟨("pair_refusal", none), "pair_refusal", "pair_refusal", defArgs s_pair_refusal, defBody s_pair_refusal, defScope s_pair_refusal, [], []⟩
def d_get_matrix : He.DefD := ⟨("get_matrix", none), "get_matrix", "get_matrix", defArgs s_get_matrix, defBody s_get_matrix, defScope s_get_matrix, [], []⟩
def d_list_guarantees : He.DefD := ⟨("list_guarantees", none), "list_guarantees", "list_guarantees", defArgs s_list_guarantees, defBody s_list_guarantees, defScope s_list_guarantees, [], []⟩
def d_answer_is_satisfied : He.DefD := ⟨("answer_is_satisfied", none), "answer_is_satisfied", "answer_is_satisfied", defArgs s_answer_is_satisfied, defBody s_answer_is_satisfied, defScope s_answer_is_satisfied, [], []⟩
def d_is_reachable : He.DefD := ⟨("is_reachable", none), "is_reachable", "is_reachable", defArgs s_is_reachable, defBody s_is_reachable, defScope s_is_reachable, [], []⟩
def d_count_paths : He.DefD := ⟨("count_paths", none), "count_paths", "count_paths", defArgs s_count_paths, defBody s_count_paths, defScope s_count_paths, [], []⟩
def d_path_probability : He.DefD := ⟨("path_probability", none), "path_probability", "path_probability", defArgs s_path_probability, defBody s_path_probability, defScope s_path_probability, [], []⟩
def d_reachable_set : He.DefD := ⟨("reachable_set", none), "reachable_set", "reachable_set", defArgs s_reachable_set, defBody s_reachable_set, defScope s_reachable_set, [], []⟩
def d_count_patterns : He.DefD := ⟨("count_patterns", none), "count_patterns", "count_patterns", defArgs s_count_patterns, defBody s_count_patterns, defScope s_count_patterns, [], []⟩
def d_told_word : He.DefD := ⟨("told_word", none), "told_word", "told_word", defArgs s_told_word, defBody s_told_word, defScope s_told_word, [], []⟩
def d_answer_zero_word : He.DefD := ⟨("answer_zero_word", none), "answer_zero_word", "answer_zero_word", defArgs s_answer_zero_word, defBody s_answer_zero_word, defScope s_answer_zero_word, [], []⟩
def d_answer_positive_column_word : He.DefD := ⟨("answer_positive_column_word", none), "answer_positive_column_word", "answer_positive_column_word", defArgs s_answer_positive_column_word, defBody s_answer_positive_column_word, defScope s_answer_positive_column_word, [], []⟩
def d_growth : He.DefD := ⟨("growth", none), "growth", "growth", defArgs s_growth, defBody s_growth, defScope s_growth, [], []⟩
def d_max_paths : He.DefD := ⟨("max_paths", none), "max_paths", "max_paths", defArgs s_max_paths, defBody s_max_paths, defScope s_max_paths, [], []⟩
def d_ergodicity_coefficient : He.DefD := ⟨("ergodicity_coefficient", none), "ergodicity_coefficient", "ergodicity_coefficient", defArgs s_ergodicity_coefficient, defBody s_ergodicity_coefficient, defScope s_ergodicity_coefficient, [], []⟩
def d_answer_mixing_index : He.DefD := ⟨("answer_mixing_index", none), "answer_mixing_index", "answer_mixing_index", defArgs s_answer_mixing_index, defBody s_answer_mixing_index, defScope s_answer_mixing_index, [], []⟩
def d_answer_separating_words : He.DefD := ⟨("answer_separating_words", none), "answer_separating_words", "answer_separating_words", defArgs s_answer_separating_words, defBody s_answer_separating_words, defScope s_answer_separating_words, [], []⟩
def d_get_position : He.DefD := ⟨("get_position", none), "get_position", "get_position", defArgs s_get_position, defBody s_get_position, defScope s_get_position, [], []⟩
def d_step_refusal : He.DefD := ⟨("step_refusal", none), "step_refusal", "step_refusal", defArgs s_step_refusal, defBody s_step_refusal, defScope s_step_refusal, [], []⟩
def d_is_stuck : He.DefD := ⟨("is_stuck", none), "is_stuck", "is_stuck", defArgs s_is_stuck, defBody s_is_stuck, defScope s_is_stuck, [], []⟩
def d_next_position : He.DefD := ⟨("next_position", none), "next_position", "next_position", defArgs s_next_position, defBody s_next_position, defScope s_next_position, [], []⟩
def d_preview_walk : He.DefD := ⟨("preview_walk", none), "preview_walk", "preview_walk", defArgs s_preview_walk, defBody s_preview_walk, defScope s_preview_walk, [], []⟩
def d_get_log_entry : He.DefD := ⟨("get_log_entry", none), "get_log_entry", "get_log_entry", defArgs s_get_log_entry, defBody s_get_log_entry, defScope s_get_log_entry, [], []⟩
def d_get_state : He.DefD := ⟨("get_state", none), "get_state", "get_state", defArgs s_get_state, defBody s_get_state, defScope s_get_state, [], []⟩
def d_with_item : He.DefD := ⟨("with_item", none), "with_item", "with_item", defArgs s_with_item, defBody s_with_item, defScope s_with_item, [], []⟩
def d_without_item : He.DefD := ⟨("without_item", none), "without_item", "without_item", defArgs s_without_item, defBody s_without_item, defScope s_without_item, [], []⟩
def d_keeps_guarantees : He.DefD := ⟨("keeps_guarantees", none), "keeps_guarantees", "keeps_guarantees", defArgs s_keeps_guarantees, defBody s_keeps_guarantees, defScope s_keeps_guarantees, [], []⟩
def d_are_entries : He.DefD := ⟨("are_entries", none), "are_entries", "are_entries", defArgs s_are_entries, defBody s_are_entries, defScope s_are_entries, [], []⟩
def d_add_matrix : He.DefD := ⟨("add_matrix", none), "add_matrix", "add_matrix", defArgs s_add_matrix, defBody s_add_matrix, defScope s_add_matrix, [], []⟩
def d_set_entry : He.DefD := ⟨("set_entry", none), "set_entry", "set_entry", defArgs s_set_entry, defBody s_set_entry, defScope s_set_entry, [], []⟩
def d_remove_matrix : He.DefD := ⟨("remove_matrix", none), "remove_matrix", "remove_matrix", defArgs s_remove_matrix, defBody s_remove_matrix, defScope s_remove_matrix, [], []⟩
def d_add_guarantee : He.DefD := ⟨("add_guarantee", none), "add_guarantee", "add_guarantee", defArgs s_add_guarantee, defBody s_add_guarantee, defScope s_add_guarantee, [], []⟩
def d_remove_guarantee : He.DefD := ⟨("remove_guarantee", none), "remove_guarantee", "remove_guarantee", defArgs s_remove_guarantee, defBody s_remove_guarantee, defScope s_remove_guarantee, [], []⟩
def d_set_position : He.DefD := ⟨("set_position", none), "set_position", "set_position", defArgs s_set_position, defBody s_set_position, defScope s_set_position, [], []⟩
def d_walk : He.DefD := ⟨("walk", none), "walk", "walk", defArgs s_walk, defBody s_walk, defScope s_walk, [], []⟩
def d_undo : He.DefD := ⟨("undo", none), "undo", "undo", defArgs s_undo, defBody s_undo, defScope s_undo, [], []⟩
def d_create : He.DefD := ⟨("create", none), "create", "create", defArgs s_create, defBody s_create, defScope s_create, [], []⟩
def d_answer_to : He.DefD := ⟨("answer_to", none), "answer_to", "answer_to", defArgs s_answer_to, defBody s_answer_to, defScope s_answer_to, [], []⟩
def d_list_end : He.DefD := ⟨("list_end", none), "list_end", "list_end", defArgs s_list_end, defBody s_list_end, defScope s_list_end, [], []⟩
def d_answers : He.DefD := ⟨("answers", none), "answers", "answers", defArgs s_answers, defBody s_answers, defScope s_answers, [], []⟩
def d_Model_init : He.DefD := ⟨("Model", some "__init__"), "__init__", "Model.__init__", defArgs s_Model_init, defBody s_Model_init, defScope s_Model_init, [], []⟩
def d_Model_remember : He.DefD := ⟨("Model", some "remember"), "remember", "Model.remember", defArgs s_Model_remember, defBody s_Model_remember, defScope s_Model_remember, [], []⟩
def d_Model_take_matrices : He.DefD := ⟨("Model", some "take_matrices"), "take_matrices", "Model.take_matrices", defArgs s_Model_take_matrices, defBody s_Model_take_matrices, defScope s_Model_take_matrices, [], []⟩
def d_Model_take_guarantees : He.DefD := ⟨("Model", some "take_guarantees"), "take_guarantees", "Model.take_guarantees", defArgs s_Model_take_guarantees, defBody s_Model_take_guarantees, defScope s_Model_take_guarantees, [], []⟩
def d_Model_take_walk : He.DefD := ⟨("Model", some "take_walk"), "take_walk", "Model.take_walk", defArgs s_Model_take_walk, defBody s_Model_take_walk, defScope s_Model_take_walk, [], []⟩
def d_Model_go_back : He.DefD := ⟨("Model", some "go_back"), "go_back", "Model.go_back", defArgs s_Model_go_back, defBody s_Model_go_back, defScope s_Model_go_back, [], []⟩
def d_Desk_init : He.DefD := ⟨("Desk", some "__init__"), "__init__", "Desk.__init__", defArgs s_Desk_init, defBody s_Desk_init, defScope s_Desk_init, [], []⟩
def d_Desk_place_model : He.DefD := ⟨("Desk", some "place_model"), "place_model", "Desk.place_model", defArgs s_Desk_place_model, defBody s_Desk_place_model, defScope s_Desk_place_model, [], []⟩
def fn : List He.DefD := [d_identity, d_product_entry, d_product_of, d_product_of_word, d_longer_words, d_greatest_total, d_row_sum, d_has_no_zero_row, d_are_chances, d_denominator_of, d_scaled, d_chances_of_word, d_common_divisor, d_lowest_terms, d_distance_of, d_greatest_distance, d_coefficient_of, d_has_index, d_indices_in, d_set_of_row, d_pattern_of, d_patterns_of, d_mapped, d_pattern_after, d_set_after, d_met_patterns, d_word_of, d_is_zero, d_common_columns, d_zero_word, d_positive_column_word, d_steps_by, d_states_behind, d_follow_table, d_is_or_follows, d_parts_and_meets, d_doubles_on_way, d_is_exponential, d_leaks_of, d_continues, d_degree_of, d_growth_of, d_are_apart, d_pair_after, d_first_pairs, d_next_pairs, d_mixing_index, d_all_pairs, d_first_matrix_into, d_lasting_pairs, d_walk_apart, d_separating_words, d_is_guarantee, d_is_satisfied, d_are_satisfied, d_has_word, d_pair_refusal, d_get_matrix, d_list_guarantees, d_answer_is_satisfied, d_is_reachable, d_count_paths, d_path_probability, d_reachable_set, d_count_patterns, d_told_word, d_answer_zero_word, d_answer_positive_column_word, d_growth, d_max_paths, d_ergodicity_coefficient, d_answer_mixing_index, d_answer_separating_words, d_get_position, d_step_refusal, d_is_stuck, d_next_position, d_preview_walk, d_get_log_entry, d_get_state, d_with_item, d_without_item, d_keeps_guarantees, d_are_entries, d_add_matrix, d_set_entry, d_remove_matrix, d_add_guarantee, d_remove_guarantee, d_set_position, d_walk, d_undo, d_create, d_answer_to, d_list_end, d_answers, d_Model_init, d_Model_remember, d_Model_take_matrices, d_Model_take_guarantees, d_Model_take_walk, d_Model_go_back, d_Desk_init, d_Desk_place_model]
def fnNames : List String := ["d_identity", "d_product_entry", "d_product_of", "d_product_of_word", "d_longer_words", "d_greatest_total", "d_row_sum", "d_has_no_zero_row", "d_are_chances", "d_denominator_of", "d_scaled", "d_chances_of_word", "d_common_divisor", "d_lowest_terms", "d_distance_of", "d_greatest_distance", "d_coefficient_of", "d_has_index", "d_indices_in", "d_set_of_row", "d_pattern_of", "d_patterns_of", "d_mapped", "d_pattern_after", "d_set_after", "d_met_patterns", "d_word_of", "d_is_zero", "d_common_columns", "d_zero_word", "d_positive_column_word", "d_steps_by", "d_states_behind", "d_follow_table", "d_is_or_follows", "d_parts_and_meets", "d_doubles_on_way", "d_is_exponential", "d_leaks_of", "d_continues", "d_degree_of", "d_growth_of", "d_are_apart", "d_pair_after", "d_first_pairs", "d_next_pairs", "d_mixing_index", "d_all_pairs", "d_first_matrix_into", "d_lasting_pairs", "d_walk_apart", "d_separating_words", "d_is_guarantee", "d_is_satisfied", "d_are_satisfied", "d_has_word", "d_pair_refusal", "d_get_matrix", "d_list_guarantees", "d_answer_is_satisfied", "d_is_reachable", "d_count_paths", "d_path_probability", "d_reachable_set", "d_count_patterns", "d_told_word", "d_answer_zero_word", "d_answer_positive_column_word", "d_growth", "d_max_paths", "d_ergodicity_coefficient", "d_answer_mixing_index", "d_answer_separating_words", "d_get_position", "d_step_refusal", "d_is_stuck", "d_next_position", "d_preview_walk", "d_get_log_entry", "d_get_state", "d_with_item", "d_without_item", "d_keeps_guarantees", "d_are_entries", "d_add_matrix", "d_set_entry", "d_remove_matrix", "d_add_guarantee", "d_remove_guarantee", "d_set_position", "d_walk", "d_undo", "d_create", "d_answer_to", "d_list_end", "d_answers", "d_Model_init", "d_Model_remember", "d_Model_take_matrices", "d_Model_take_guarantees", "d_Model_take_walk", "d_Model_go_back", "d_Desk_init", "d_Desk_place_model"]
def fa : List He.Fa := [.glo "identity", .glo "product_entry", .glo "product_of", .glo "product_of_word", .glo "longer_words", .glo "greatest_total", .glo "row_sum", .glo "has_no_zero_row", .glo "are_chances", .glo "denominator_of", .glo "scaled", .glo "chances_of_word", .glo "common_divisor", .glo "lowest_terms", .glo "distance_of", .glo "greatest_distance", .glo "coefficient_of", .glo "has_index", .glo "indices_in", .glo "set_of_row", .glo "pattern_of", .glo "patterns_of", .glo "mapped", .glo "pattern_after", .glo "set_after", .glo "met_patterns", .glo "word_of", .glo "is_zero", .glo "common_columns", .glo "zero_word", .glo "positive_column_word", .glo "steps_by", .glo "states_behind", .glo "follow_table", .glo "is_or_follows", .glo "parts_and_meets", .glo "doubles_on_way", .glo "is_exponential", .glo "leaks_of", .glo "continues", .glo "degree_of", .glo "growth_of", .glo "are_apart", .glo "pair_after", .glo "first_pairs", .glo "next_pairs", .glo "mixing_index", .glo "all_pairs", .glo "first_matrix_into", .glo "lasting_pairs", .glo "walk_apart", .glo "separating_words", .glo "is_guarantee", .glo "is_satisfied", .glo "are_satisfied", .glo "has_word", .glo "pair_refusal", .glo "get_matrix", .glo "list_guarantees", .glo "answer_is_satisfied", .glo "is_reachable", .glo "count_paths", .glo "path_probability", .glo "reachable_set", .glo "count_patterns", .glo "told_word", .glo "answer_zero_word", .glo "answer_positive_column_word", .glo "growth", .glo "max_paths", .glo "ergodicity_coefficient", .glo "answer_mixing_index", .glo "answer_separating_words", .glo "get_position", .glo "step_refusal", .glo "is_stuck", .glo "next_position", .glo "preview_walk", .glo "get_log_entry", .glo "get_state", .glo "with_item", .glo "without_item", .glo "keeps_guarantees", .glo "are_entries", .glo "add_matrix", .glo "set_entry", .glo "remove_matrix", .glo "add_guarantee", .glo "remove_guarantee", .glo "set_position", .glo "walk", .glo "undo", .glo "create", .glo "answer_to", .glo "list_end", .glo "answers", .glo "Model", .glo "Desk", .glo "WIDTHS", .glo "WITH_LIST", .glo "DEEDS", .int "NO_ZERO" (0), .int "BOUNDED" (1), .int "MIXED" (2), .int "MAX_CLASS" (2), .int "MAX_MIXING" (20), .int "MAX_HISTORY" (10), .int "MAX_WORD" (40), .int "MAX_CHANCE_WORD" (8), .int "MAX_LENGTH" (4), .int "MAX_RANDOM" (999), .int "THOUSAND" (1000), .int "NOTHING_queries" (-2), .int "OUT_OF_RANGE_queries" (-22), .int "IMPOSSIBLE" (-33), .int "NO_MIXING" (-34), .int "MAX_ENTRY" (9), .int "MAX_MATRICES" (3), .int "MAX_GUARANTEES" (3), .int "MAX_STEPS" (12), .int "NOTHING_changes" (-2), .int "NO_HISTORY" (-6), .int "KNOWN" (-17), .int "OUT_OF_RANGE_changes" (-22), .int "FULL" (-28), .int "VIOLATED" (-30), .int "STUCK" (-33), .int "CREATE" (0), .int "MAX_SIZE" (3), .int "OUT_OF_RANGE_desk" (-22), .int "NO_MODEL" (-11), .free "len", .free "sum", .free "range", .free "int", .free "enumerate", .free "list", .free "tuple", .free "all", .free "min", .free "max", .cls "Model", .mkr "Model", .noat "Model" "size", .noat "Model" "matrices", .noat "Model" "guarantees", .noat "Model" "position", .noat "Model" "steps", .noat "Model" "history", .meth "Model" "remember", .meth "Model" "take_matrices", .meth "Model" "take_guarantees", .meth "Model" "take_walk", .meth "Model" "go_back", .cls "Desk", .mkr "Desk", .noat "Desk" "model", .meth "Desk" "place_model"]
def t_WIDTHS : List He.Dv := [.int (1), .int (0), .int (4), .int (1), .int (2), .int (1), .int (1), .int (2), .int (1), .int (0), .int (2), .int (2), .int (2), .int (2), .int (1), .int (0), .int (0), .int (0), .int (0), .int (1), .int (0), .int (0), .int (0), .int (0), .int (2), .int (1), .int (0), .int (0)]
def t_WITH_LIST : List He.Dv := [.int (1), .int (11), .int (12), .int (13), .int (14), .int (20)]
def t_DEEDS : List He.Dv := [.glo "add_matrix", .glo "set_entry", .glo "remove_matrix", .glo "add_guarantee", .glo "remove_guarantee", .glo "set_position", .glo "walk", .glo "get_matrix", .glo "list_guarantees", .glo "answer_is_satisfied", .glo "is_reachable", .glo "count_paths", .glo "path_probability", .glo "reachable_set", .glo "count_patterns", .glo "answer_zero_word", .glo "answer_positive_column_word", .glo "growth", .glo "max_paths", .glo "ergodicity_coefficient", .glo "answer_mixing_index", .glo "answer_separating_words", .glo "get_position", .glo "preview_walk", .glo "get_log_entry", .glo "undo", .glo "get_state"]
def ex (K : PySem.W.Frag) : Bool := He.tupB K "WIDTHS" t_WIDTHS && He.tupB K "WITH_LIST" t_WITH_LIST && He.tupB K "DEEDS" t_DEEDS
def ansPlace : Nat := 139
def loose0 : List PySem.Str := ["identity", "product_entry", "product_of", "product_of_word", "longer_words", "greatest_total", "row_sum", "has_no_zero_row", "are_chances", "denominator_of", "scaled", "chances_of_word", "common_divisor", "lowest_terms", "distance_of", "greatest_distance", "coefficient_of", "has_index", "indices_in", "set_of_row"]
def loose1 : List PySem.Str := ["pattern_of", "patterns_of", "mapped", "pattern_after", "set_after", "met_patterns", "word_of", "is_zero", "common_columns", "zero_word", "positive_column_word", "steps_by", "states_behind", "follow_table", "is_or_follows", "parts_and_meets", "doubles_on_way", "is_exponential", "leaks_of", "continues"]
def loose2 : List PySem.Str := ["degree_of", "growth_of", "are_apart", "pair_after", "first_pairs", "next_pairs", "mixing_index", "all_pairs", "first_matrix_into", "lasting_pairs", "walk_apart", "separating_words", "is_guarantee", "is_satisfied", "are_satisfied", "has_word", "pair_refusal", "get_matrix", "list_guarantees", "answer_is_satisfied"]
def loose3 : List PySem.Str := ["is_reachable", "count_paths", "path_probability", "reachable_set", "count_patterns", "told_word", "answer_zero_word", "answer_positive_column_word", "growth", "max_paths", "ergodicity_coefficient", "answer_mixing_index", "answer_separating_words", "get_position", "step_refusal", "is_stuck", "next_position", "preview_walk", "get_log_entry", "get_state"]
def loose4 : List PySem.Str := ["with_item", "without_item", "keeps_guarantees", "are_entries", "add_matrix", "set_entry", "remove_matrix", "add_guarantee", "remove_guarantee", "set_position", "walk", "undo", "create", "answer_to", "list_end", "Model", "Desk", "NO_ZERO", "BOUNDED", "MIXED"]
def loose5 : List PySem.Str := ["MAX_CLASS", "MAX_MIXING", "MAX_HISTORY", "MAX_WORD", "MAX_CHANCE_WORD", "MAX_LENGTH", "MAX_RANDOM", "THOUSAND", "NOTHING_queries", "OUT_OF_RANGE_queries", "IMPOSSIBLE", "NO_MIXING", "MAX_ENTRY", "MAX_MATRICES", "MAX_GUARANTEES", "MAX_STEPS", "NOTHING_changes", "NO_HISTORY", "KNOWN", "OUT_OF_RANGE_changes"]
def loose6 : List PySem.Str := ["FULL", "VIOLATED", "STUCK", "CREATE", "MAX_SIZE", "OUT_OF_RANGE_desk", "NO_MODEL", "WIDTHS", "WITH_LIST", "DEEDS"]
def loose : List PySem.Str := loose0 ++ loose1 ++ loose2 ++ loose3 ++ loose4 ++ loose5 ++ loose6
end MwH
end
section
set_option Elab.async false
set_option linter.all false
set_option maxRecDepth 100000
set_option maxHeartbeats 0
/-! # The head: what the top leaves, by one run in the kernel -/
namespace MwH
open PySem PySem.W PySem.Calls PyProof.Rows HandSHeadRun
/-! ### which objects are looked at -/
def refsAt (g : Addr → Option Obj) (a : Addr) : List Addr := match g a with
  | some o => He.refsO o
  | none => []
def clsNs (g : Addr → Option Obj) (a : Addr) : List Addr := match g a with
  | some ⟨_, _, .cls cd, _⟩ => [cd.ns]
  | _ => []
def lookA (g : Addr → Option Obj) : List Addr :=
  let a1 := refsAt g mainGlobals
  let a2 := a1.flatMap (refsAt g)
  let a3 := (a1.flatMap (clsNs g)).flatMap (refsAt g)
  let a4 := a3.flatMap (refsAt g)
  mainGlobals :: a1 ++ a2 ++ a3 ++ a4
/-- the addresses as numerals ahead of the rest -/
def forceL {α : Type} : List Addr → (List Addr → α) → α
  | [], k => k []
  | a :: r, k => frNat a fun a => forceL r fun r => k (a :: r)
theorem forceL_eq {α : Type} : ∀ (l : List Addr) (k : List Addr → α), forceL l k = k l
  | [], _ => rfl
  | a :: r, k => by
    show frNat a (fun a => forceL r fun r => k (a :: r)) = _
    rw [frNat_eq, forceL_eq r]
abbrev AlE : Type := He.AlD × Bool
def obsK (K : Frag) : AlE := (He.obsD fa fn K, ex K)
def obsE (g : Addr → Option Obj) : AlE := forceL (lookA g) fun as => obsK (He.frG g as)
def valE : AlE := (He.valD fn, true)
def SaysE (K : Frag) : Prop := He.SaysD fa fn K ∧ ex K = true
theorem saysE_of {K : Frag} (h : obsK K = valE) : SaysE K := ⟨congrArg (fun z : AlE => z.1) h, congrArg (fun z : AlE => z.2) h⟩
def hookE : Hook where
  α := AlE
  obs := fun s => obsE s.heap.get?
  val := fun _ => valE
  says := fun _ h => ∃ K : Frag, K.In h ∧ SaysE K
  of := fun w s e => ⟨He.frG s.heap.get? (lookA s.heap.get?), He.frG_in, saysE_of (by
    have e2 : obsE s.heap.get? = valE := e
    unfold obsE at e2
    rw [forceL_eq] at e2
    exact e2)⟩
  keeps := fun _ _ _ ⟨K, hK, c⟩ k => ⟨K, Frag.In.keeps hK k, c⟩
def ob (s : SharedT) : AlE := obsE (getT s)
theorem ob_eq (s : SharedT) : ob s = hookE.obs s.abs := by
  have e : getT s = s.abs.heap.get? := funext (getT_eq s)
  show obsE (getT s) = obsE s.abs.heap.get?
  rw [e]
/-! ### the run -/
abbrev qv : Program := view MwH.prog [ansPlace]
noncomputable def endS (w : World) (os : OsState) : Option SharedT := endF (stepQ (denQ tabQ) MwH.prog w) 60000 MwH.prog w os
theorem run1 (w : World) (os : OsState) : (endS w os).map (fun s => (looksF MwH.prog (boot_heap w.params) s.abs, seenQ qv loose (importedModules MwH.prog.main.body) (fun s => xlAt qv [] s && recOk [] s) s.abs)) = some (true, openGood qv loose) := by
  kernel_rfl
theorem run2 (w : World) (os : OsState) : (endS w os).map ob = some valE := by
  kernel_rfl
end MwH
end
section
set_option Elab.async false
set_option linter.all false
set_option maxRecDepth 100000
set_option maxHeartbeats 0
namespace MwH
open PySem PySem.W PySem.Calls PyProof.Rows HandSHeadRun
abbrev R : OpenSpec := PySem.Challenge.rw_matrixwalks_s01_answers
theorem both {α β γ : Type} {o : Option α} {f : α → β} {g : α → γ} {b : β} {c : γ} (h1 : o.map f = some b) (h2 : o.map g = some c) : o.map (fun x => (f x, g x)) = some (b, c) := by
  cases o with
  | none => cases h1
  | some x =>
    cases h1
    cases h2
    rfl
theorem leftE : LeftO MwH.prog qv loose (fun s => xlAt qv [] s && recOk [] s) hookE.obs hookE.val (60000 + 600) true :=
  left_one (M := 60000) (by kernel_rfl) (Nat.ble_eq_true_of_le (by omega)) (fun s => by kernel_rfl) (Nat.ble_eq_true_of_le (by omega)) fun w os => by
    have eo : ob = fun s => hookE.obs s.abs := funext ob_eq
    have z := both (run1 w os) (run2 w os)
    rw [eo] at z
    unfold endS at z
    simp only [endQ_eq, seenQ_eq]
    obtain ⟨s, hs, hv⟩ := Option.map_eq_some_iff.mp z
    rw [hs]
    have h1 := congrArg (fun z => z.1.1) hv
    have h2 := congrArg (fun z => z.1.2) hv
    have h3 := congrArg (fun z => z.2) hv
    exact congrArg some (Prod.ext h1 (Prod.ext h2 h3))
abbrev dAns : DefRec := topDef MwH.prog ansPlace
theorem holds_of (call : WalkOS qv loose (XL qv []) hookE.says R dAns [] (fun f vs => PySem.call f vs)) : R.Holds :=
  holds_os (r := R) (q := qv) (loose := loose) (XP := XL qv []) (YP := hookE.says) (d := dAns) (kwd := []) leftE hookE.of hookE.keeps (fun s z => xl_of s (Bool.and_eq_true_iff.mp z).1) XL.keeps
    (by kernel_rfl) (by kernel_rfl) (by kernel_rfl) (fun s z => recFacts_of (Bool.and_eq_true_iff.mp z).2) os_shapes (by decide +kernel) (by decide +kernel) ⟨rfl, rfl, rfl, rfl, rfl, by decide +kernel⟩
    ⟨[.list [.int 27]], by decide +kernel, by decide +kernel⟩ call
end MwH
end
section
/-! The mirror: each def of the program as a total Lean function over plain data. A matrix is flat, row by row. -/
namespace Mw

/-! ### counts -/
def identity (n : Nat) : List Nat := (List.range (n * n)).map fun p => if p / n = p % n then 1 else 0
def productEntry (n : Nat) (a b : List Nat) (p : Nat) : Nat := ((List.range n).map fun m => a.getD (p / n * n + m) 0 * b.getD (m * n + p % n) 0).sum
def productOf (n : Nat) (a b : List Nat) : List Nat := (List.range (n * n)).map (productEntry n a b)
def productOfWord (n : Nat) (ms : List (List Nat)) (w : List Nat) : List Nat := w.foldl (fun f k => productOf n f (ms.getD k [])) (identity n)
def longerWords (n : Nat) (ms : List (List Nat)) (rows : List (List Nat × List Nat)) : List (List Nat × List Nat) :=
  rows.flatMap fun r => (List.range ms.length).map fun k => (r.1 ++ [k], productOf n r.2 (ms.getD k []))
def wordRows (n : Nat) (ms : List (List Nat)) : Nat → List (List Nat × List Nat)
  | 0 => [([], identity n)]
  | m + 1 => longerWords n ms (wordRows n ms m)
def better (best : Option (Nat × List Nat)) (r : List Nat × List Nat) : Option (Nat × List Nat) := match best with
  | none => some (r.2.sum, r.1)
  | some b => if b.1 < r.2.sum then some (r.2.sum, r.1) else some b
def greatestTotal (n : Nat) (ms : List (List Nat)) (m : Nat) : Option (Nat × List Nat) := (wordRows n ms m).foldl better none

/-! ### chances -/
def rowSum (n : Nat) (e : List Nat) (r : Nat) : Nat := ((e.drop (r * n)).take n).sum
def noZeroRow (n : Nat) (e : List Nat) : Bool := (List.range n).all fun r => decide (0 < rowSum n e r)
def areChances (n : Nat) (ms : List (List Nat)) : Bool := ms.all (noZeroRow n)
def denominator (n : Nat) (e : List Nat) : Nat := (List.range n).foldl (fun f r => f * rowSum n e r) 1
def scaled (n : Nat) (e : List Nat) : List Nat := (List.range e.length).map fun p => e.getD p 0 * (denominator n e / rowSum n e (p / n))
def chancesTurn (n : Nat) (ms : List (List Nat)) (f : List Nat × Nat) (k : Nat) : List Nat × Nat := (productOf n f.1 (scaled n (ms.getD k [])), f.2 * denominator n (ms.getD k []))
def chancesOfWord (n : Nat) (ms : List (List Nat)) (w : List Nat) : List Nat × Nat := w.foldl (chancesTurn n ms) (identity n, 1)
def lowest (a b : Nat) : List Nat := [a / Nat.gcd a b, b / Nat.gcd a b]
def distance (n : Nat) (x : List Nat) (i j : Nat) : Nat := ((List.range n).map fun c => x.getD (i * n + c) 0 - x.getD (j * n + c) 0).sum
def greatestDistance (n : Nat) (x : List Nat) : Nat := (List.range n).foldl (fun f i => (List.range n).foldl (fun g j => max g (distance n x i j)) f) 0
def coefficient (n : Nat) (ms : List (List Nat)) (w : List Nat) : List Nat := lowest (greatestDistance n (chancesOfWord n ms w).1) (chancesOfWord n ms w).2

/-! ### patterns -/
def hasIndex (s i : Nat) : Bool := s / 2 ^ i % 2 == 1
def indicesIn (n s : Nat) : List Nat := (List.range n).filter (hasIndex s)
def setOfRow (n : Nat) (e : List Nat) (r : Nat) : Nat := (((List.range n).filter fun c => decide (0 < e.getD (r * n + c) 0)).map fun c => 2 ^ c).sum
def patternOf (n : Nat) (e : List Nat) : List Nat := (List.range n).map (setOfRow n e)
def patternsOf (n : Nat) (ms : List (List Nat)) : List (List Nat) := ms.map (patternOf n)
def mappedTo (p : List Nat) (s : Nat) (i : Nat) : Nat := (List.range i).foldl (fun f i => if hasIndex s i then f ||| p.getD i 0 else f) 0
def mapped (p : List Nat) (s : Nat) : Nat := mappedTo p s p.length
def patternAfter (one other : List Nat) : List Nat := one.map (mapped other)
def setAfter (ps : List (List Nat)) (s : Nat) (w : List Nat) : Nat := w.foldl (fun f k => mapped (ps.getD k []) f) s
/-- a row of met_patterns: the pattern, the place of the row it came from (-1: none), the matrix -/
abbrev Row := List Nat × Int × Nat
def meet (acc : List Row) (after : List Nat) (place : Int) (k : Nat) : List Row := if acc.any (fun r => r.1 == after) then acc else acc ++ [(after, place, k)]
def metStart (ps : List (List Nat)) : List Row := (List.range ps.length).foldl (fun acc k => meet acc (ps.getD k []) (-1) k) []
def metTurn (ps : List (List Nat)) (at_ : Nat) (acc : List Row) : List Row :=
  (List.range ps.length).foldl (fun a k => meet a (patternAfter (a.getD at_ ([], -1, 0)).1 (ps.getD k [])) (at_ : Int) k) acc
def metLoop (ps : List (List Nat)) : Nat → Nat → List Row → List Row
  | 0, _, acc => acc
  | f + 1, at_, acc => if at_ < acc.length then metLoop ps f (at_ + 1) (metTurn ps at_ acc) else acc
/-- 512 patterns of three rows at the most -/
def metPatterns (ps : List (List Nat)) : List Row := metLoop ps 513 0 (metStart ps)
def wordBack (rows : List Row) : Nat → Int → List Nat
  | 0, _ => []
  | f + 1, at_ => if 0 ≤ at_ then (rows.getD at_.toNat ([], -1, 0)).2.2 :: wordBack rows f (rows.getD at_.toNat ([], -1, 0)).2.1 else []
def wordOf (rows : List Row) (place : Nat) : List Nat := (wordBack rows (place + 1) (place : Int)).reverse
def isZero (p : List Nat) : Bool := p.sum == 0
def commonColumns (n : Nat) (p : List Nat) : Nat := p.foldl (fun f r => f &&& r) (2 ^ n - 1)
def zeroWord (ps : List (List Nat)) : Option (List Nat) := ((List.range (metPatterns ps).length).find? fun i => isZero ((metPatterns ps).getD i ([], -1, 0)).1).map (wordOf (metPatterns ps))
def positiveColumnWord (n : Nat) (ps : List (List Nat)) : Option (List Nat) :=
  ((List.range (metPatterns ps).length).find? fun i => decide (0 < commonColumns n ((metPatterns ps).getD i ([], -1, 0)).1)).map (wordOf (metPatterns ps))

/-! ### growth -/
def stepsLonger (n : Nat) (p : List Nat) (found : List (List Nat)) (i : Nat) : List (List Nat) := found.flatMap fun b => (indicesIn n (p.getD i 0)).map fun c => b ++ [c]
def stepsBy (n : Nat) (p : List Nat) (state : List Nat) : List (List Nat) := state.foldl (stepsLonger n p) [[]]
/-- known, left -/
abbrev Seen := List (List Nat) × List (List Nat)
def visit (s : Seen) (after : List Nat) : Seen := if after ∈ s.1 then s else (s.1 ++ [after], s.2 ++ [after])
def behindOne (n : Nat) (here : List Nat) (s : Seen) (p : List Nat) : Seen := (stepsBy n p here).foldl visit s
def behindTurn (n : Nat) (ps : List (List Nat)) (s : Seen) : Seen := ps.foldl (behindOne n (s.2.getLast?.getD [])) (s.1, s.2.dropLast)
def behindLoop (n : Nat) (ps : List (List Nat)) : Nat → Seen → List (List Nat)
  | 0, s => s.1
  | f + 1, s => if s.2 = [] then s.1 else behindLoop n ps f (behindTurn n ps s)
/-- 27 states of three places at the most, and the first one once more -/
def statesBehind (n : Nat) (ps : List (List Nat)) (state : List Nat) : List (List Nat) := behindLoop n ps 28 ([], [state])
def followTable (n : Nat) (ps : List (List Nat)) : List (List (List Nat)) := (List.range n).map fun i => statesBehind n ps [i]
def isOrFollows (table : List (List (List Nat))) (i j : Nat) : Bool := i == j || (table.getD i []).contains [j]
def partsAndMeets (n : Nat) (ps : List (List Nat)) (i : Nat) : Bool :=
  (statesBehind n ps [i, i]).any fun s => s.getD 0 0 != s.getD 1 0 && (statesBehind n ps s).contains [i, i]
def doublesOnWay (n : Nat) (ms : List (List Nat)) (table : List (List (List Nat))) (i : Nat) : Bool :=
  ms.any fun e => (List.range e.length).any fun p => decide (1 < e.getD p 0) && (isOrFollows table i (p / n) && isOrFollows table (p % n) i)
def isExponential (n : Nat) (ms ps : List (List Nat)) (table : List (List (List Nat))) : Bool := (List.range n).any fun i => partsAndMeets n ps i || doublesOnWay n ms table i
def leaksOf (n : Nat) (ps : List (List Nat)) : List (Nat × Nat) :=
  (List.range n).flatMap fun i => ((List.range n).filter fun j => i != j && (statesBehind n ps [i, i, j]).contains [i, j, j]).map fun j => (i, j)
def continues_ (table : List (List (List Nat))) (leaks : List (Nat × Nat)) (leak : Nat × Nat) : Bool := leaks.any fun b => isOrFollows table b.2 leak.1
/-- turns left, found, last -/
def degreeLoop (table : List (List (List Nat))) (leaks : List (Nat × Nat)) : Nat → Nat → List (Nat × Nat) → Nat
  | 0, found, _ => found
  | f + 1, found, last => if last = [] then found else degreeLoop table leaks f (found + 1) (leaks.filter (continues_ table last))
def degreeOf (table : List (List (List Nat))) (leaks : List (Nat × Nat)) : Nat := degreeLoop table leaks leaks.length 0 leaks
def growthOf (n : Nat) (ms ps : List (List Nat)) : Nat × Nat :=
  if isExponential n ms ps (followTable n ps) then (3, 0)
  else if (List.range n).filter (fun i => ((followTable n ps).getD i []).contains [i]) = [] then (0, 0)
  else if degreeOf (followTable n ps) (leaksOf n ps) = 0 then (1, 0) else (2, degreeOf (followTable n ps) (leaksOf n ps))

/-! ### mixing -/
def areApart (q : Nat × Nat) : Bool := q.1 &&& q.2 == 0
def pairAfter (p : List Nat) (q : Nat × Nat) : Nat × Nat := (mapped p q.1, mapped p q.2)
def firstPairs (n : Nat) : List (Nat × Nat) := (List.range n).flatMap fun i => (List.range (n - (i + 1))).map fun j => (2 ^ i, 2 ^ (i + 1 + j))
def addApart (known : List (Nat × Nat)) (after : Nat × Nat) : List (Nat × Nat) := if areApart after then (if after ∈ known then known else known ++ [after]) else known
def nextPairs (ps : List (List Nat)) (pairs : List (Nat × Nat)) : List (Nat × Nat) := pairs.foldl (fun known q => ps.foldl (fun k p => addApart k (pairAfter p q)) known) []
def pairsAt (n : Nat) (ps : List (List Nat)) : Nat → List (Nat × Nat)
  | 0 => firstPairs n
  | m + 1 => nextPairs ps (pairsAt n ps m)
def mixingIndex (n : Nat) (ps : List (List Nat)) : Option Nat := (List.range (2 ^ (2 * n) + 1)).find? fun m => (pairsAt n ps m).isEmpty
def allPairs (n : Nat) : List (Nat × Nat) := (List.range (2 ^ n - 1)).flatMap fun i => (((List.range (2 ^ n - 1)).map fun j => (i + 1, j + 1)).filter areApart)
def firstMatrixInto (ps : List (List Nat)) (q : Nat × Nat) (kept : List (Nat × Nat)) : Option Nat := (List.range ps.length).find? fun k => kept.contains (pairAfter (ps.getD k []) q)
def keptFewer (ps : List (List Nat)) (kept : List (Nat × Nat)) : List (Nat × Nat) := kept.filter fun q => (firstMatrixInto ps q kept).isSome
def lastingLoop (ps : List (List Nat)) : Nat → List (Nat × Nat) → List (Nat × Nat)
  | 0, kept => kept
  | f + 1, kept => if (keptFewer ps kept).length = kept.length then kept else lastingLoop ps f (keptFewer ps kept)
def lastingPairs (n : Nat) (ps : List (List Nat)) : List (Nat × Nat) := lastingLoop ps ((allPairs n).length + 1) (allPairs n)
/-- turns left, met, word -/
def walkLoop (ps : List (List Nat)) (kept : List (Nat × Nat)) : Nat → List (Nat × Nat) → List Nat → List Nat × List Nat
  | 0, _, word => (word, [])
  | f + 1, met, word =>
    let q := met.getLast?.getD (0, 0)
    let k := (firstMatrixInto ps q kept).getD 0
    let after := pairAfter (ps.getD k []) q
    if after ∈ met then ((word ++ [k]).take (met.idxOf after), (word ++ [k]).drop (met.idxOf after)) else walkLoop ps kept f (met ++ [after]) (word ++ [k])
def walkApart (ps : List (List Nat)) (kept : List (Nat × Nat)) (start : Nat × Nat) : List Nat × List Nat := walkLoop ps kept kept.length [start] []
def indexPairs (n : Nat) : List (Nat × Nat) := (List.range n).flatMap fun i => (List.range (n - (i + 1))).map fun j => (i, i + 1 + j)
def separatingWords (n : Nat) (ps : List (List Nat)) : Option (Nat × Nat × List Nat × List Nat) :=
  ((indexPairs n).find? fun q => (lastingPairs n ps).contains (2 ^ q.1, 2 ^ q.2)).map fun q => (q.1, q.2, walkApart ps (lastingPairs n ps) (2 ^ q.1, 2 ^ q.2))

/-! ### the model -/
def isGuarantee (kind bound : Nat) : Bool := if kind = 0 then bound == 0 else if kind = 1 then decide (bound ≤ 2) else kind == 2 && decide (bound ≤ 20)
def isSatisfied (n : Nat) (ms : List (List Nat)) (kind bound : Nat) : Bool :=
  if kind = 0 then (zeroWord (patternsOf n ms)).isNone
  else if kind = 1 then decide ((growthOf n ms (patternsOf n ms)).1 ≤ bound)
  else if areChances n ms then (match mixingIndex n (patternsOf n ms) with
    | none => false
    | some m => decide (m ≤ bound)) else false
def areSatisfied (n : Nat) (ms : List (List Nat)) (gs : List (Nat × Nat)) : Bool := gs.all fun g => isSatisfied n ms g.1 g.2
/-- what the history holds -/
structure Past where
  matrices : List (List Nat)
  guarantees : List (Nat × Nat)
  position : Nat
  steps : List (Nat × Nat × Nat)
structure Model where
  size : Nat
  now : Past
  /-- the latest last -/
  history : List Past
def fresh (size : Nat) : Model := ⟨size, ⟨[], [], 0, []⟩, []⟩
def lastTen (l : List Past) : List Past := l.drop (l.length - 10)
def Model.take (m : Model) (p : Past) : Model := ⟨m.size, p, lastTen (m.history ++ [m.now])⟩
def Model.back (m : Model) : Model := ⟨m.size, m.history.getLast?.getD m.now, m.history.dropLast⟩

def withItem {α : Type} (l : List α) (i : Nat) (x : α) : List α := l.take i ++ [x] ++ l.drop (i + 1)
def withoutItem {α : Type} (l : List α) (i : Nat) : List α := l.take i ++ l.drop (i + 1)
def areEntries (n : Nat) (l : List Nat) : Bool := l.length == n * n && l.all fun e => decide (e ≤ 9)
/-- an answer: the model behind it, the numbers -/
abbrev Told := Model × List Int
def zs (l : List Nat) : List Int := l.map fun (n : Nat) => (n : Int)

def addMatrix (m : Model) (items : List Nat) : Told :=
  if areEntries m.size items = false then (m, [-22])
  else if m.now.matrices.length = 3 then (m, [-28])
  else if areSatisfied m.size (m.now.matrices ++ [items]) m.now.guarantees = false then (m, [-30])
  else (m.take { m.now with matrices := m.now.matrices ++ [items] }, [(m.now.matrices.length : Int)])
def entrySet (n : Nat) (ms : List (List Nat)) (k r c v : Nat) : List (List Nat) := withItem ms k (withItem (ms.getD k []) (r * n + c) v)
def setEntry (m : Model) (k r c v : Nat) : Told :=
  if m.now.matrices.length ≤ k ∨ m.size ≤ r ∨ m.size ≤ c then (m, [-2])
  else if 9 < v then (m, [-22])
  else if areSatisfied m.size (entrySet m.size m.now.matrices k r c v) m.now.guarantees = false then (m, [-30])
  else (m.take { m.now with matrices := entrySet m.size m.now.matrices k r c v }, [(((m.now.matrices.getD k []).getD (r * m.size + c) 0 : Nat) : Int)])
def removeMatrix (m : Model) (k : Nat) : Told :=
  if m.now.matrices.length ≤ k then (m, [-2])
  else if areSatisfied m.size (withoutItem m.now.matrices k) m.now.guarantees = false then (m, [-30])
  else (m.take { m.now with matrices := withoutItem m.now.matrices k }, [((withoutItem m.now.matrices k).length : Int)])
def addGuarantee (m : Model) (kind bound : Nat) : Told :=
  if isGuarantee kind bound = false then (m, [-22])
  else if (kind, bound) ∈ m.now.guarantees then (m, [-17])
  else if isSatisfied m.size m.now.matrices kind bound = false then (m, [-30])
  else if m.now.guarantees.length = 3 then (m, [-28])
  else (m.take { m.now with guarantees := m.now.guarantees ++ [(kind, bound)] }, [(m.now.guarantees.length : Int)])
def removeGuarantee (m : Model) (i : Nat) : Told :=
  if m.now.guarantees.length ≤ i then (m, [-2])
  else (m.take { m.now with guarantees := withoutItem m.now.guarantees i }, [((withoutItem m.now.guarantees i).length : Int)])
def setPosition (m : Model) (p : Nat) : Told :=
  if m.size ≤ p then (m, [-2]) else (m.take { m.now with position := p, steps := [] }, [(m.now.position : Int)])
def stepRefusal (m : Model) (k chance : Nat) : List Int := if m.now.matrices.length ≤ k then [-2] else if 999 < chance then [-22] else []
def isStuck (m : Model) (k : Nat) : Bool := rowSum m.size (m.now.matrices.getD k []) m.now.position == 0
def nextPosition (m : Model) (k chance : Nat) : Nat :=
  ((List.range m.size).find? fun i => decide (chance * rowSum m.size (m.now.matrices.getD k []) m.now.position <
    1000 * (((m.now.matrices.getD k []).drop (m.now.position * m.size)).take (i + 1)).sum)).getD m.now.position
def walk (m : Model) (k chance : Nat) : Told :=
  if stepRefusal m k chance ≠ [] then (m, stepRefusal m k chance)
  else if m.now.steps.length = 12 then (m, [-28])
  else if isStuck m k then (m, [-33])
  else (m.take { m.now with position := nextPosition m k chance, steps := m.now.steps ++ [(k, m.now.position, nextPosition m k chance)] }, [(nextPosition m k chance : Int)])
def undo (m : Model) : Told := if m.history = [] then (m, [-6]) else (m.back, [(m.back.history.length : Int)])

def hasWord (m : Model) (w : List Nat) : Bool := w.all fun k => decide (k < m.now.matrices.length)
def pairRefusal (m : Model) (i j : Nat) (w : List Nat) (most : Nat) : List Int :=
  if m.size ≤ i ∨ m.size ≤ j ∨ hasWord m w = false then [-2] else if most < w.length then [-22] else []
def getMatrix (m : Model) (k : Nat) : List Int := if m.now.matrices.length ≤ k then [-2] else ((m.now.matrices.getD k []).length : Int) :: zs (m.now.matrices.getD k [])
def listGuarantees (m : Model) : List Int := (m.now.guarantees.length : Int) :: zs (m.now.guarantees.flatMap fun g => [g.1, g.2])
def answerIsSatisfied (m : Model) (kind bound : Nat) : List Int := if isGuarantee kind bound = false then [-22] else [if isSatisfied m.size m.now.matrices kind bound then 1 else 0]
def isReachable (m : Model) (i j : Nat) (w : List Nat) : List Int :=
  if pairRefusal m i j w 40 ≠ [] then pairRefusal m i j w 40 else [if hasIndex (setAfter (patternsOf m.size m.now.matrices) (2 ^ i) w) j then 1 else 0]
def countPaths (m : Model) (i j : Nat) (w : List Nat) : List Int :=
  if pairRefusal m i j w 40 ≠ [] then pairRefusal m i j w 40 else [(((productOfWord m.size m.now.matrices w).getD (i * m.size + j) 0 : Nat) : Int)]
def pathProbability (m : Model) (i j : Nat) (w : List Nat) : List Int :=
  if pairRefusal m i j w 8 ≠ [] then pairRefusal m i j w 8
  else if areChances m.size m.now.matrices = false then [-33]
  else 0 :: zs (lowest ((chancesOfWord m.size m.now.matrices w).1.getD (i * m.size + j) 0) (chancesOfWord m.size m.now.matrices w).2)
def reachableSet (m : Model) (s : Nat) (w : List Nat) : List Int :=
  if hasWord m w = false then [-2] else if 2 ^ m.size ≤ s ∨ 40 < w.length then [-22] else [((setAfter (patternsOf m.size m.now.matrices) s w : Nat) : Int)]
def countPatterns (m : Model) : List Int := [((metPatterns (patternsOf m.size m.now.matrices)).length : Int)]
def toldWord (w : Option (List Nat)) : List Int := match w with
  | none => [-33]
  | some w => (w.length : Int) :: zs w
def answerZeroWord (m : Model) : List Int := toldWord (zeroWord (patternsOf m.size m.now.matrices))
def answerPositiveColumnWord (m : Model) : List Int := toldWord (positiveColumnWord m.size (patternsOf m.size m.now.matrices))
def growth (m : Model) : List Int := zs [(growthOf m.size m.now.matrices (patternsOf m.size m.now.matrices)).1, (growthOf m.size m.now.matrices (patternsOf m.size m.now.matrices)).2]
def maxPaths (m : Model) (len : Nat) : List Int := if 4 < len then [-22] else match greatestTotal m.size m.now.matrices len with
  | none => [0]
  | some b => (b.1 : Int) :: zs b.2
def ergodicity (m : Model) (w : List Nat) : List Int :=
  if hasWord m w = false then [-2] else if 8 < w.length then [-22] else if areChances m.size m.now.matrices = false then [-33] else 0 :: zs (coefficient m.size m.now.matrices w)
def answerMixingIndex (m : Model) : List Int :=
  if areChances m.size m.now.matrices = false then [-33] else match mixingIndex m.size (patternsOf m.size m.now.matrices) with
    | none => [-34]
    | some k => [(k : Int)]
def answerSeparatingWords (m : Model) : List Int :=
  if areChances m.size m.now.matrices = false then [-33] else if (mixingIndex m.size (patternsOf m.size m.now.matrices)).isSome then [-34]
  else match separatingWords m.size (patternsOf m.size m.now.matrices) with
    | none => []
    | some (i, j, p, c) => zs (i :: j :: p.length :: p ++ c.length :: c)
def getPosition (m : Model) : List Int := [(m.now.position : Int), (m.now.steps.length : Int)]
def previewWalk (m : Model) (k chance : Nat) : List Int :=
  if stepRefusal m k chance ≠ [] then stepRefusal m k chance else if isStuck m k then [-33] else [(nextPosition m k chance : Int)]
def getLogEntry (m : Model) (i : Nat) : List Int := match m.now.steps[i]? with
  | none => [-2]
  | some s => zs [s.1, s.2.1, s.2.2]
def getState (m : Model) : List Int := zs [m.size, m.now.matrices.length, m.now.guarantees.length, m.history.length]

/-! ### the desk -/
def deed (number : Nat) (m : Model) (a : List Nat) (items : List Nat) : Told :=
  let x := a.getD 0 0; let y := a.getD 1 0
  match number with
  | 1 => addMatrix m items
  | 2 => setEntry m x y (a.getD 2 0) (a.getD 3 0)
  | 3 => removeMatrix m x
  | 4 => addGuarantee m x y
  | 5 => removeGuarantee m x
  | 6 => setPosition m x
  | 7 => walk m x y
  | 8 => (m, getMatrix m x)
  | 9 => (m, listGuarantees m)
  | 10 => (m, answerIsSatisfied m x y)
  | 11 => (m, isReachable m x y items)
  | 12 => (m, countPaths m x y items)
  | 13 => (m, pathProbability m x y items)
  | 14 => (m, reachableSet m x items)
  | 15 => (m, countPatterns m)
  | 16 => (m, answerZeroWord m)
  | 17 => (m, answerPositiveColumnWord m)
  | 18 => (m, growth m)
  | 19 => (m, maxPaths m x)
  | 20 => (m, ergodicity m items)
  | 21 => (m, answerMixingIndex m)
  | 22 => (m, answerSeparatingWords m)
  | 23 => (m, getPosition m)
  | 24 => (m, previewWalk m x y)
  | 25 => (m, getLogEntry m x)
  | 26 => undo m
  | 27 => (m, getState m)
  | _ => (m, [])
def create (d : Option Model) (size : Nat) : Option Model × List Int := if size < 1 ∨ 3 < size then (d, [-22]) else (some (fresh size), [0])
def answerTo (d : Option Model) (number : Nat) (a : List Nat) (items : List Nat) : Option Model × List Int :=
  if number = 0 then create d (a.getD 0 0) else match d with
    | none => (none, [-11])
    | some m => (some (deed number m a items).1, (deed number m a items).2)
end Mw
end
section
namespace Mw
theorem getD_map_range {α : Type} {n i : Nat} {f : Nat → α} {d : α} (h : i < n) : ((List.range n).map f).getD i d = f i := by
  rw [List.getD_eq_getElem?_getD, List.getElem?_map, List.getElem?_range h] <;> rfl
theorem getD_of_lt {α : Type} {l : List α} {i : Nat} {d : α} (h : i < l.length) : l.getD i d = l[i] := by
  rw [List.getD_eq_getElem?_getD, List.getElem?_eq_getElem h] <;> rfl
theorem getD_of_ge {α : Type} {l : List α} {i : Nat} {d : α} (h : l.length ≤ i) : l.getD i d = d := by
  rw [List.getD_eq_getElem?_getD, List.getElem?_eq_none h] <;> rfl
theorem getD_mem {α : Type} {l : List α} {i : Nat} {d : α} (h : i < l.length) : l.getD i d ∈ l := by
  rw [getD_of_lt h]
  exact List.getElem_mem h
theorem getD_map {α β : Type} {l : List α} {i : Nat} {f : α → β} {d : α} {e : β} (h : i < l.length) : (l.map f).getD i e = f (l.getD i d) := by
  rw [getD_of_lt (by rw [List.length_map]; exact h), getD_of_lt h, List.getElem_map]
theorem ext_getD {α : Type} {l m : List α} {d : α} (hl : l.length = m.length) (h : ∀ i, i < l.length → l.getD i d = m.getD i d) : l = m := by
  refine List.ext_getElem hl fun i h1 h2 => ?_
  have e := h i h1
  rw [getD_of_lt h1, getD_of_lt h2] at e
  exact e
theorem map_range_getD {α : Type} (l : List α) (d : α) : (List.range l.length).map (fun i => l.getD i d) = l := by
  refine ext_getD (d := d) (by simp) fun i h => ?_
  rw [List.length_map, List.length_range] at h
  exact getD_map_range h
theorem map_range_congr {α : Type} {n : Nat} {f g : Nat → α} (h : ∀ i, i < n → f i = g i) : (List.range n).map f = (List.range n).map g :=
  List.map_congr_left fun i hi => h i (List.mem_range.mp hi)
theorem sum_map_if {α : Type} (p : α → Bool) (f : α → Nat) : ∀ l : List α, (l.map fun x => if p x then f x else 0).sum = ((l.filter p).map f).sum
  | [] => rfl
  | x :: r => by
    rw [List.map_cons, List.sum_cons, sum_map_if p f r, List.filter_cons]
    cases e : p x with
    | true =>
      rw [if_pos rfl, if_pos rfl, List.map_cons, List.sum_cons]
    | false =>
      rw [if_neg (by decide), if_neg (by decide), Nat.zero_add]
theorem foldl_filter {α β : Type} (p : α → Bool) (f : β → α → β) : ∀ (l : List α) (b : β), (l.filter p).foldl f b = l.foldl (fun b x => if p x then f b x else b) b
  | [], _ => rfl
  | x :: r, b => by
    rw [List.filter_cons, List.foldl_cons]
    cases e : p x with
    | true =>
      rw [if_pos rfl, if_pos rfl, List.foldl_cons, foldl_filter p f r]
    | false =>
      rw [if_neg (by decide), if_neg (by decide), foldl_filter p f r]
/-- a fold that keeps a property, and on it is another fold -/
theorem foldl_congr_inv {α β : Type} {f g : β → α → β} {I : β → Prop} : ∀ {l : List α} {b : β}, I b → (∀ b x, I b → x ∈ l → f b x = g b x ∧ I (g b x)) → l.foldl f b = l.foldl g b ∧ I (l.foldl g b)
  | [], _, h, _ => ⟨rfl, h⟩
  | x :: r, b, h, k => by
    obtain ⟨e, i⟩ := k b x h (List.mem_cons_self ..)
    rw [List.foldl_cons, List.foldl_cons, e]
    exact foldl_congr_inv i fun b y hb hy => k b y hb (List.mem_cons_of_mem _ hy)
theorem foldl_inv {α β : Type} {f : β → α → β} {I : β → Prop} {l : List α} {b : β} (h : I b) (k : ∀ b x, I b → x ∈ l → I (f b x)) : I (l.foldl f b) :=
  (foldl_congr_inv (f := f) (g := f) h fun b x hb hx => ⟨rfl, k b x hb hx⟩).2
/-- the sizes that a model may have -/
def Sz (n : Nat) : Prop := n = 1 ∨ n = 2 ∨ n = 3
theorem Sz.pos {n : Nat} (h : Sz n) : 0 < n := by rcases h with rfl | rfl | rfl <;> decide
theorem Sz.le {n : Nat} (h : Sz n) : n ≤ 3 := by rcases h with rfl | rfl | rfl <;> decide
/-- a matrix of the model: so many entries, none above 9 -/
structure Mat (n : Nat) (e : List Nat) : Prop where
  len : e.length = n * n
  le : ∀ x ∈ e, x ≤ 9
/-- a pattern: a mask for each row -/
structure Pat (n : Nat) (p : List Nat) : Prop where
  len : p.length = n
  lt : ∀ r ∈ p, r < 2 ^ n
theorem Pat.get {n : Nat} {p : List Nat} (h : Pat n p) (i : Nat) : p.getD i 0 < 2 ^ n := by
  by_cases hi : i < p.length
  · exact h.lt _ (getD_mem hi)
  · rw [getD_of_ge (Nat.le_of_not_lt hi)]
    exact Nat.two_pow_pos n
theorem idx_div {n i j : Nat} (hj : j < n) : (i * n + j) / n = i := by
  rw [Nat.mul_comm, Nat.mul_add_div (by omega), Nat.div_eq_of_lt hj, Nat.add_zero]
theorem idx_mod {n i j : Nat} (hj : j < n) : (i * n + j) % n = j := by
  rw [Nat.mul_comm, Nat.mul_add_mod, Nat.mod_eq_of_lt hj]
theorem idx_lt {n i j : Nat} (hi : i < n) (hj : j < n) : i * n + j < n * n := by
  have h : (i + 1) * n ≤ n * n := Nat.mul_le_mul_right n hi
  rw [Nat.add_mul, Nat.one_mul] at h
  omega
end Mw
end
section
namespace Mw
/-! ### the patterns are the specification's Boolean tables -/
theorem hasIndex_eq (s i : Nat) : hasIndex s i = Kv423.bit s i := rfl
theorem sz3 {P : Nat → Prop} {n : Nat} (h : Sz n) (h1 : P 1) (h2 : P 2) (h3 : P 3) : P n := by
  rcases h with rfl | rfl | rfl
  · exact h1
  · exact h2
  · exact h3
theorem join_all : (∀ a < 2, ∀ b < 2, Kv423.join 1 a b = a ||| b) ∧ (∀ a < 4, ∀ b < 4, Kv423.join 2 a b = a ||| b) ∧ (∀ a < 8, ∀ b < 8, Kv423.join 3 a b = a ||| b) := by decide +kernel
theorem join_eq {n a b : Nat} (h : Sz n) (ha : a < 2 ^ n) (hb : b < 2 ^ n) : Kv423.join n a b = a ||| b := by
  rcases h with rfl | rfl | rfl
  · exact join_all.1 a ha b hb
  · exact join_all.2.1 a ha b hb
  · exact join_all.2.2 a ha b hb
theorem or_lt {n a b : Nat} (ha : a < 2 ^ n) (hb : b < 2 ^ n) : a ||| b < 2 ^ n := Nat.or_lt_two_pow ha hb
theorem mapped_goes {n : Nat} {p : List Nat} {s : Nat} (h : Sz n) (hp : Pat n p) : Kv423.goes n p s = mapped p s ∧ mapped p s < 2 ^ n := by
  unfold Kv423.goes Kv423.elems
  rw [foldl_filter]
  unfold mapped mappedTo
  rw [hp.len]
  exact foldl_congr_inv (I := fun x => x < 2 ^ n) (Nat.two_pow_pos n) fun b x hb _ => by
    show (if hasIndex s x = true then Kv423.join n b (p.getD x 0) else b) = (if hasIndex s x = true then b ||| p.getD x 0 else b) ∧ (if hasIndex s x = true then b ||| p.getD x 0 else b) < 2 ^ n
    cases e : hasIndex s x with
    | true =>
      rw [if_pos rfl, if_pos rfl, join_eq h hb (hp.get x)]
      exact ⟨rfl, or_lt hb (hp.get x)⟩
    | false => exact ⟨rfl, hb⟩
theorem Pat.mapped_lt {n : Nat} {p : List Nat} (h : Sz n) (hp : Pat n p) (s : Nat) : mapped p s < 2 ^ n := (mapped_goes h hp).2
theorem Pat.after {n : Nat} {p q : List Nat} (h : Sz n) (hp : Pat n p) (hq : Pat n q) : Pat n (patternAfter p q) :=
  ⟨by unfold patternAfter; rw [List.length_map]; exact hp.len, fun r hr => by
    obtain ⟨x, _, rfl⟩ := List.mem_map.mp hr
    exact hq.mapped_lt h x⟩
theorem mul_eq {n : Nat} {p q : List Nat} (h : Sz n) (hp : Pat n p) (hq : Pat n q) : Kv423.mul n p q = patternAfter p q := by
  unfold Kv423.mul patternAfter
  have e : ∀ s, Kv423.goes n q s = mapped q s := fun s => (mapped_goes h hq).1
  rw [map_range_congr (g := fun i => mapped q (p.getD i 0)) fun i _ => e _]
  refine ext_getD (d := 0) (by simp [hp.len]) fun i hi => ?_
  have hi' : i < n := by simpa using hi
  rw [getD_map_range hi', getD_map (d := 0) (by rw [hp.len]; exact hi')]
/-! ### a matrix's pattern -/
theorem at_cut {n : Nat} {e : List Nat} {i j : Nat} (hi : i < n) (hj : j < n) : Kv424.at_ (Kv424.cutUp n e) i j = e.getD (i * n + j) 0 := by
  unfold Kv424.at_ Kv424.cutUp
  rw [getD_map_range hi, getD_map_range hj]
theorem row_eq {n : Nat} {e : List Nat} {i : Nat} (hi : i < n) : ((List.range n).map fun j => if Kv424.at_ (Kv424.cutUp n e) i j = 0 then 0 else 2 ^ j).sum = setOfRow n e i := by
  unfold setOfRow
  rw [← sum_map_if]
  refine congrArg List.sum (map_range_congr fun j hj => ?_)
  rw [at_cut hi hj]
  by_cases z : e.getD (i * n + j) 0 = 0
  · rw [if_pos z, if_neg (by rw [z]; decide)]
  · rw [if_neg z, if_pos (decide_eq_true (Nat.pos_of_ne_zero z))]
theorem pattern_plain {n : Nat} {e : List Nat} : (List.range n).map (fun i => ((List.range n).map fun j => if Kv424.at_ (Kv424.cutUp n e) i j = 0 then 0 else 2 ^ j).sum) = patternOf n e := by
  unfold patternOf
  exact map_range_congr fun i hi => row_eq hi
/-- the matrices as the specification has them -/
def cut (n : Nat) (ms : List (List Nat)) : List (List (List Nat)) := ms.map (Kv424.cutUp n)
theorem plain_eq (n : Nat) (ms : List (List Nat)) : (⟨n, cut n ms⟩ : Kv424.Now).plain = ⟨n, patternsOf n ms⟩ := by
  unfold Kv424.Now.plain patternsOf cut
  rw [List.map_map]
  refine congrArg (Kv423.Now.mk n) (List.map_congr_left fun e _ => ?_)
  exact pattern_plain
theorem plain5_eq (n : Nat) (ms : List (List Nat)) : (⟨n, cut n ms⟩ : Kv425.Now).plain = ⟨n, patternsOf n ms⟩ := plain_eq n ms
theorem setOfRow_lt {n : Nat} (h : Sz n) (e : List Nat) (r : Nat) : setOfRow n e r < 2 ^ n := by
  unfold setOfRow
  rw [← sum_map_if]
  rcases h with rfl | rfl | rfl
  · simp only [List.range_succ, List.range_zero, List.nil_append, List.map_cons, List.map_nil, List.sum_cons, List.sum_nil]
    repeat' split
    all_goals simp
  · simp only [List.range_succ, List.range_zero, List.nil_append, List.map_cons, List.map_nil, List.sum_cons, List.sum_nil, List.cons_append]
    repeat' split
    all_goals simp
  · simp only [List.range_succ, List.range_zero, List.nil_append, List.map_cons, List.map_nil, List.sum_cons, List.sum_nil, List.cons_append]
    repeat' split
    all_goals simp
theorem Pat.of {n : Nat} (h : Sz n) (e : List Nat) : Pat n (patternOf n e) := ⟨by simp [patternOf], fun r hr => by
  obtain ⟨x, _, rfl⟩ := List.mem_map.mp hr
  exact setOfRow_lt h e x⟩
/-- the patterns of the model -/
def Pats (n : Nat) (ps : List (List Nat)) : Prop := ∀ p ∈ ps, Pat n p
theorem Pats.of {n : Nat} (h : Sz n) (ms : List (List Nat)) : Pats n (patternsOf n ms) := fun p hp => by
  obtain ⟨e, _, rfl⟩ := List.mem_map.mp hp
  exact Pat.of h e
theorem Pats.get {n : Nat} {ps : List (List Nat)} (h : Pats n ps) {k : Nat} (hk : k < ps.length) : Pat n (ps.getD k []) := h _ (getD_mem hk)
/-! ### a word's set -/
theorem Pat.one {n : Nat} (h : Sz n) : Pat n (Kv423.one n) := by
  rcases h with rfl | rfl | rfl <;> exact ⟨by decide, by decide⟩
theorem word_pat {n : Nat} {ps : List (List Nat)} (h : Sz n) (hp : Pats n ps) : ∀ {w : List Nat} {x : List Nat}, Pat n x → (∀ k ∈ w, k < ps.length) → Pat n (w.foldl (fun x k => Kv423.mul n x (ps.getD k [])) x)
  | [], _, hx, _ => hx
  | k :: r, x, hx, hw => by
    rw [List.foldl_cons]
    refine word_pat h hp ?_ fun j hj => hw j (List.mem_cons_of_mem _ hj)
    have hk := hp.get (hw k (List.mem_cons_self ..))
    rw [mul_eq h hx hk]
    exact hx.after h hk
theorem word_row {n : Nat} {ps : List (List Nat)} (h : Sz n) (hp : Pats n ps) {i : Nat} (hi : i < n) : ∀ {w : List Nat} {x : List Nat}, Pat n x → (∀ k ∈ w, k < ps.length) →
    (w.foldl (fun x k => Kv423.mul n x (ps.getD k [])) x).getD i 0 = setAfter ps (x.getD i 0) w
  | [], _, _, _ => rfl
  | k :: r, x, hx, hw => by
    have hk := hp.get (hw k (List.mem_cons_self ..))
    rw [List.foldl_cons, word_row h hp hi (by rw [mul_eq h hx hk]; exact hx.after h hk) fun j hj => hw j (List.mem_cons_of_mem _ hj), mul_eq h hx hk]
    unfold patternAfter
    rw [getD_map (d := 0) (by rw [hx.len]; exact hi)]
    rfl
theorem reach_eq {n : Nat} {ps : List (List Nat)} (h : Sz n) (hp : Pats n ps) {i : Nat} (hi : i < n) {w : List Nat} (hw : ∀ k ∈ w, k < ps.length) :
    ((⟨n, ps⟩ : Kv423.Now).word w).getD i 0 = setAfter ps (2 ^ i) w := by
  have e := word_row h hp hi (Pat.one h) hw
  rw [show (Kv423.one n).getD i 0 = 2 ^ i from getD_map_range hi] at e
  exact e
/-! ### sets by their bits -/
theorem hasIndex_bit (s i : Nat) : hasIndex s i = s.testBit i := by
  rw [Nat.testBit_eq_decide_div_mod_eq]
  unfold hasIndex
  by_cases e : s / 2 ^ i % 2 = 1
  · rw [e]
    rfl
  · rw [decide_eq_false e]
    exact beq_eq_false_iff_ne.mpr e
theorem mappedTo_bit (p : List Nat) (s j : Nat) : ∀ i, (mappedTo p s i).testBit j = true ↔ ∃ k, k < i ∧ s.testBit k = true ∧ (p.getD k 0).testBit j = true
  | 0 => by
    constructor
    · intro h
      have h2 : (0 : Nat).testBit j = true := h
      rw [Nat.zero_testBit] at h2
      cases h2
    · rintro ⟨k, hk, _⟩
      exact absurd hk (Nat.not_lt_zero k)
  | i + 1 => by
    have ih := mappedTo_bit p s j i
    have e : mappedTo p s (i + 1) = if hasIndex s i = true then mappedTo p s i ||| p.getD i 0 else mappedTo p s i := by
      unfold mappedTo
      rw [List.range_succ, List.foldl_append] <;> rfl
    rw [e]
    cases q : hasIndex s i with
    | true =>
      rw [if_pos rfl, Nat.testBit_or, Bool.or_eq_true, ih]
      rw [hasIndex_bit] at q
      constructor
      · rintro (⟨k, hk, h1, h2⟩ | h2)
        · exact ⟨k, Nat.lt_succ_of_lt hk, h1, h2⟩
        · exact ⟨i, Nat.lt_succ_self i, q, h2⟩
      · rintro ⟨k, hk, h1, h2⟩
        rcases Nat.lt_or_ge k i with hi | hi
        · exact .inl ⟨k, hi, h1, h2⟩
        · obtain rfl : k = i := by omega
          exact .inr h2
    | false =>
      rw [if_neg (by decide), ih]
      rw [hasIndex_bit] at q
      constructor
      · rintro ⟨k, hk, h1, h2⟩
        exact ⟨k, Nat.lt_succ_of_lt hk, h1, h2⟩
      · rintro ⟨k, hk, h1, h2⟩
        refine ⟨k, ?_, h1, h2⟩
        by_cases hki : k = i
        · rw [hki, q] at h1
          cases h1
        · omega
theorem mapped_bit (p : List Nat) (s j : Nat) : (mapped p s).testBit j = true ↔ ∃ k, k < p.length ∧ s.testBit k = true ∧ (p.getD k 0).testBit j = true := mappedTo_bit p s j p.length
theorem bit_eq {a b : Nat} (h : ∀ j, a.testBit j = true ↔ b.testBit j = true) : a = b := Nat.eq_of_testBit_eq fun j => by
  have hj := h j
  cases e1 : a.testBit j <;> cases e2 : b.testBit j <;> simp_all
theorem mapped_after {n : Nat} {p q : List Nat} (hp : Pat n p) (hq : Pat n q) (s : Nat) : mapped (patternAfter p q) s = mapped q (mapped p s) := by
  refine bit_eq fun j => ?_
  have hl : (patternAfter p q).length = n := by unfold patternAfter; rw [List.length_map]; exact hp.len
  rw [mapped_bit, mapped_bit, hl, hq.len]
  have hg : ∀ k, k < n → (patternAfter p q).getD k 0 = mapped q (p.getD k 0) := fun k hk => by
    unfold patternAfter
    rw [getD_map (d := 0) (by rw [hp.len]; exact hk)]
  constructor
  · rintro ⟨k, hk, h1, h2⟩
    rw [hg k hk, mapped_bit] at h2
    obtain ⟨m, hm, h3, h4⟩ := h2
    refine ⟨m, by rw [← hq.len]; exact hm, ?_, h4⟩
    rw [mapped_bit]
    exact ⟨k, by rw [hp.len]; exact hk, h1, h3⟩
  · rintro ⟨m, hm, h1, h2⟩
    rw [mapped_bit] at h1
    obtain ⟨k, hk, h3, h4⟩ := h1
    rw [hp.len] at hk
    refine ⟨k, hk, h3, ?_⟩
    rw [hg k hk, mapped_bit]
    exact ⟨m, by rw [hq.len]; exact hm, h4, h2⟩
theorem mapped_one_all : (∀ s < 2, mapped (Kv423.one 1) s = s) ∧ (∀ s < 4, mapped (Kv423.one 2) s = s) ∧ (∀ s < 8, mapped (Kv423.one 3) s = s) := by decide +kernel
theorem mapped_one {n s : Nat} (h : Sz n) (hs : s < 2 ^ n) : mapped (Kv423.one n) s = s := by
  rcases h with rfl | rfl | rfl
  · exact mapped_one_all.1 s hs
  · exact mapped_one_all.2.1 s hs
  · exact mapped_one_all.2.2 s hs
theorem mapped_word {n : Nat} {ps : List (List Nat)} (h : Sz n) (hp : Pats n ps) (s : Nat) : ∀ {w : List Nat} {x : List Nat}, Pat n x → (∀ k ∈ w, k < ps.length) →
    mapped (w.foldl (fun x k => Kv423.mul n x (ps.getD k [])) x) s = setAfter ps (mapped x s) w
  | [], _, _, _ => rfl
  | k :: r, x, hx, hw => by
    have hk := hp.get (hw k (List.mem_cons_self ..))
    rw [List.foldl_cons, mapped_word h hp s (by rw [mul_eq h hx hk]; exact hx.after h hk) fun j hj => hw j (List.mem_cons_of_mem _ hj), mul_eq h hx hk, mapped_after hx hk]
    rfl
theorem set_eq {n : Nat} {ps : List (List Nat)} (h : Sz n) (hp : Pats n ps) {s : Nat} (hs : s < 2 ^ n) {w : List Nat} (hw : ∀ k ∈ w, k < ps.length) :
    Kv423.goes n ((⟨n, ps⟩ : Kv423.Now).word w) s = setAfter ps s w := by
  have e := mapped_word h hp s (Pat.one h) hw
  rw [mapped_one h hs] at e
  rw [← e]
  exact (mapped_goes h (word_pat h hp (Pat.one h) hw)).1
end Mw
end
section
namespace Mw
/-! ### a list without repetition of small numbers is short -/
theorem pigeon : ∀ (N : Nat) (l : List Nat), l.Nodup → (∀ x ∈ l, x < N) → l.length ≤ N
  | 0, l, _, h => by
    cases l with
    | nil => exact Nat.le_refl _
    | cons x r => exact absurd (h x (List.mem_cons_self ..)) (Nat.not_lt_zero x)
  | N + 1, l, nd, h => by
    have ih := pigeon N (l.erase N) (nd.erase N) fun x hx => by
      have h1 := (List.Nodup.mem_erase_iff nd).mp hx
      have h2 := h x h1.2
      have h3 := h1.1
      omega
    have e := List.length_erase (a := N) (l := l)
    split at e <;> omega
/-- a list without repetition whose items have small numbers of their own -/
theorem pigeonOf {α : Type} {N : Nat} {l : List α} (code : α → Nat) (nd : l.Nodup) (h : ∀ x ∈ l, code x < N) (inj : ∀ x ∈ l, ∀ y ∈ l, code x = code y → x = y) : l.length ≤ N := by
  have nd2 : (l.map code).Nodup := by
    rw [List.nodup_iff_pairwise_ne] at nd ⊢
    refine List.pairwise_map.mpr ?_
    refine List.Pairwise.imp_of_mem ?_ nd
    intro a b ha hb hab e
    exact hab (inj a ha b hb e)
  have e := pigeon N (l.map code) nd2 fun x hx => by
    obtain ⟨y, hy, rfl⟩ := List.mem_map.mp hx
    exact h y hy
  rw [List.length_map] at e
  exact e
/-! ### a pattern's number -/
theorem len1 {α : Type} {l : List α} (h : l.length = 1) : ∃ a, l = [a] := by
  match l, h with
  | [a], _ => exact ⟨a, rfl⟩
theorem len2 {α : Type} {l : List α} (h : l.length = 2) : ∃ a b, l = [a, b] := by
  match l, h with
  | [a, b], _ => exact ⟨a, b, rfl⟩
theorem len3 {α : Type} {l : List α} (h : l.length = 3) : ∃ a b c, l = [a, b, c] := by
  match l, h with
  | [a, b, c], _ => exact ⟨a, b, c, rfl⟩
theorem code_lt {n : Nat} {p : List Nat} (h : Sz n) (hp : Pat n p) : Kv423.code n p < 2 ^ (n * n) := by
  obtain ⟨hl, hr⟩ := hp
  rcases h with rfl | rfl | rfl
  · obtain ⟨a, rfl⟩ := len1 hl
    have ha := hr a (by simp)
    show (0 * 2 ^ 1 + a) < 2
    omega
  · obtain ⟨a, b, rfl⟩ := len2 hl
    have ha := hr a (by simp)
    have hb := hr b (by simp)
    show ((0 * 2 ^ 2 + a) * 2 ^ 2 + b) < 16
    omega
  · obtain ⟨a, b, c, rfl⟩ := len3 hl
    have ha := hr a (by simp)
    have hb := hr b (by simp)
    have hc := hr c (by simp)
    show (((0 * 2 ^ 3 + a) * 2 ^ 3 + b) * 2 ^ 3 + c) < 512
    omega
theorem code_inj {n : Nat} {p q : List Nat} (h : Sz n) (hp : Pat n p) (hq : Pat n q) (e : Kv423.code n p = Kv423.code n q) : p = q := by
  obtain ⟨hl, hr⟩ := hp
  obtain ⟨hl2, hr2⟩ := hq
  rcases h with rfl | rfl | rfl
  · obtain ⟨a, rfl⟩ := len1 hl
    obtain ⟨x, rfl⟩ := len1 hl2
    have e2 : (0 * 2 ^ 1 + a) = (0 * 2 ^ 1 + x) := e
    have : a = x := by omega
    rw [this]
  · obtain ⟨a, b, rfl⟩ := len2 hl
    obtain ⟨x, y, rfl⟩ := len2 hl2
    have ha := hr a (by simp)
    have hb := hr b (by simp)
    have hx := hr2 x (by simp)
    have hy := hr2 y (by simp)
    have e2 : ((0 * 2 ^ 2 + a) * 2 ^ 2 + b) = ((0 * 2 ^ 2 + x) * 2 ^ 2 + y) := e
    have h1 : a = x := by omega
    have h2 : b = y := by omega
    rw [h1, h2]
  · obtain ⟨a, b, c, rfl⟩ := len3 hl
    obtain ⟨x, y, z, rfl⟩ := len3 hl2
    have ha := hr a (by simp)
    have hb := hr b (by simp)
    have hc := hr c (by simp)
    have hx := hr2 x (by simp)
    have hy := hr2 y (by simp)
    have hz := hr2 z (by simp)
    have e2 : (((0 * 2 ^ 3 + a) * 2 ^ 3 + b) * 2 ^ 3 + c) = (((0 * 2 ^ 3 + x) * 2 ^ 3 + y) * 2 ^ 3 + z) := e
    have h1 : a = x := by omega
    have h2 : b = y := by omega
    have h3 : c = z := by omega
    rw [h1, h2, h3]
/-! ### rows with words -/
abbrev WRow := List Nat × List Nat
def meetW (acc : List WRow) (x : WRow) : List WRow := if acc.any (fun r => r.1 == x.1) then acc else acc ++ [x]
theorem any_key {β : Type} (acc : List (List Nat × β)) (p : List Nat) : acc.any (fun r => r.1 == p) = true ↔ p ∈ acc.map Prod.fst := by
  rw [List.any_eq_true, List.mem_map]
  constructor
  · rintro ⟨r, hr, e⟩
    exact ⟨r, hr, eq_of_beq e⟩
  · rintro ⟨r, hr, e⟩
    exact ⟨r, hr, by rw [e]; exact beq_self_eq_true p⟩
theorem any_key_false {β : Type} {acc : List (List Nat × β)} {p : List Nat} (h : ¬ p ∈ acc.map Prod.fst) : acc.any (fun r => r.1 == p) = false := by
  cases e : acc.any (fun r => r.1 == p) with
  | false => rfl
  | true => exact absurd ((any_key acc p).mp e) h
theorem meetW_in {acc : List WRow} {x : WRow} (h : x.1 ∈ acc.map Prod.fst) : meetW acc x = acc := if_pos ((any_key acc x.1).mpr h)
theorem meetW_out {acc : List WRow} {x : WRow} (h : ¬ x.1 ∈ acc.map Prod.fst) : meetW acc x = acc ++ [x] := by
  unfold meetW
  rw [any_key_false h, if_neg (by decide)]
/-- the rows met so far: no pattern twice, each a pattern -/
structure Met (n : Nat) (acc : List WRow) : Prop where
  nd : (acc.map Prod.fst).Nodup
  pat : ∀ r ∈ acc, Pat n r.1
theorem Met.nil (n : Nat) : Met n [] := ⟨List.nodup_nil, fun r hr => by cases hr⟩
theorem Met.add {n : Nat} {acc : List WRow} {x : WRow} (h : Met n acc) (hx : Pat n x.1) : Met n (meetW acc x) := by
  by_cases hm : x.1 ∈ acc.map Prod.fst
  · rw [meetW_in hm]
    exact h
  · rw [meetW_out hm]
    refine ⟨?_, fun r hr => ?_⟩
    · rw [List.map_append, List.map_cons, List.map_nil]
      refine List.nodup_append.mpr ⟨h.nd, by simp, fun a ha b hb => ?_⟩
      rw [List.mem_singleton] at hb
      rw [hb]
      intro e
      exact hm (by rw [← e]; exact ha)
    · rcases List.mem_append.mp hr with q | q
      · exact h.pat r q
      · rw [List.mem_singleton] at q
        rw [q]
        exact hx
theorem Met.short {n : Nat} {acc : List WRow} (hs : Sz n) (h : Met n acc) : acc.length ≤ 2 ^ (n * n) := by
  have e := pigeonOf (N := 2 ^ (n * n)) (l := acc.map Prod.fst) (Kv423.code n) h.nd (fun x hx => by
    obtain ⟨r, hr, rfl⟩ := List.mem_map.mp hx
    exact code_lt hs (h.pat r hr)) fun x hx y hy e => by
    obtain ⟨r, hr, rfl⟩ := List.mem_map.mp hx
    obtain ⟨u, hu, rfl⟩ := List.mem_map.mp hy
    exact code_inj hs (h.pat r hr) (h.pat u hu) e
  rw [List.length_map] at e
  exact e
theorem meetW_pre (acc : List WRow) (x : WRow) : ∃ more, meetW acc x = acc ++ more := by
  by_cases hm : x.1 ∈ acc.map Prod.fst
  · exact ⟨[], by rw [meetW_in hm, List.append_nil]⟩
  · exact ⟨[x], meetW_out hm⟩
/-! ### the specification's look, by what was met -/
/-- the array says what was met -/
structure Says (n : Nat) (seen : Array Bool) (acc : List WRow) : Prop where
  size : seen.size = 2 ^ (n * n)
  at_ : ∀ p, Pat n p → (seen.getD (Kv423.code n p) false = true ↔ p ∈ acc.map Prod.fst)
theorem Says.start (n : Nat) : Says n (Array.replicate (2 ^ (n * n)) false) [] := ⟨by simp, fun p _ => by simp [Array.getD_eq_getD_getElem?, Array.getElem?_replicate]; split <;> simp⟩
theorem look_ok {n : Nat} {a : Kv423.Now} (hn : a.n = n) (hs : Sz n) {seen : Array Bool} {done new : List WRow} (h : Says n seen (done ++ new)) {x : WRow} (hx : Pat n x.1) :
    ∃ seen' new', a.look (seen, new) x = (seen', new') ∧ done ++ new' = meetW (done ++ new) x ∧ Says n seen' (done ++ new') := by
  unfold Kv423.Now.look
  by_cases hm : x.1 ∈ (done ++ new).map Prod.fst
  · refine ⟨seen, new, ?_, (meetW_in hm).symm, h⟩
    dsimp only
    rw [hn, (h.at_ x.1 hx).mpr hm, if_pos rfl]
  · have e : ¬ seen.getD (Kv423.code n x.1) false = true := fun q => hm ((h.at_ x.1 hx).mp q)
    refine ⟨seen.setIfInBounds (Kv423.code n x.1) true, new ++ [x], ?_, ?_, ?_, fun p hp => ?_⟩
    · dsimp only
      rw [hn, if_neg e]
    · rw [meetW_out hm, List.append_assoc]
    · rw [Array.size_setIfInBounds]
      exact h.size
    · have hc : Kv423.code n x.1 < seen.size := by rw [h.size]; exact code_lt hs hx
      rw [Array.getD_eq_getD_getElem?, Array.getElem?_setIfInBounds, ← List.append_assoc, List.map_append, List.mem_append, ← h.at_ p hp]
      by_cases q : Kv423.code n x.1 = Kv423.code n p
      · have e2 := code_inj hs hx hp q
        rw [if_pos q, if_pos hc]
        subst e2
        simp
      · rw [if_neg q, ← Array.getD_eq_getD_getElem?]
        have e2 : ¬ p = x.1 := fun z => q (by rw [z])
        simp [e2]
/-! ### levels and the queue -/
def turnW (ps : List (List Nat)) (x : WRow) (acc : List WRow) : List WRow := (List.range ps.length).foldl (fun a k => meetW a (patternAfter x.1 (ps.getD k []), x.2 ++ [k])) acc
def levelW (ps : List (List Nat)) (last acc : List WRow) : List WRow := last.foldl (fun a x => turnW ps x a) acc
def queueW (ps : List (List Nat)) : Nat → Nat → List WRow → List WRow
  | 0, _, acc => acc
  | f + 1, at_, acc => if at_ < acc.length then queueW ps f (at_ + 1) (turnW ps (acc.getD at_ ([], [])) acc) else acc
def startW (ps : List (List Nat)) : List WRow := (List.range ps.length).foldl (fun a k => meetW a (ps.getD k [], [k])) []
section
variable {n : Nat} {ps : List (List Nat)}
theorem foldl_pre {α β : Type} {f : List α → β → List α} (h : ∀ a x, ∃ more, f a x = a ++ more) : ∀ (l : List β) (a : List α), ∃ more, l.foldl f a = a ++ more
  | [], a => ⟨[], (List.append_nil a).symm⟩
  | x :: r, a => by
    obtain ⟨m1, e1⟩ := h a x
    obtain ⟨m2, e2⟩ := foldl_pre h r (f a x)
    exact ⟨m1 ++ m2, by rw [List.foldl_cons, e2, e1, List.append_assoc]⟩
theorem turnW_pre (x : WRow) (acc : List WRow) : ∃ more, turnW ps x acc = acc ++ more := foldl_pre (fun a _ => meetW_pre a _) _ acc
theorem levelW_pre (last acc : List WRow) : ∃ more, levelW ps last acc = acc ++ more := foldl_pre (fun a x => turnW_pre x a) last acc
theorem Met.turn {acc : List WRow} {x : WRow} (hs : Sz n) (hp : Pats n ps) (h : Met n acc) (hx : Pat n x.1) : Met n (turnW ps x acc) :=
  foldl_inv (I := Met n) h fun a k ha hk => ha.add (hx.after hs (hp.get (List.mem_range.mp hk)))
theorem Met.level {last acc : List WRow} (hs : Sz n) (hp : Pats n ps) (h : Met n acc) (hx : ∀ x ∈ last, Pat n x.1) : Met n (levelW ps last acc) :=
  foldl_inv (I := Met n) h fun _ x ha hk => ha.turn hs hp (hx x hk)
theorem Met.start (hp : Pats n ps) : Met n (startW ps) := foldl_inv (I := Met n) (Met.nil n) fun _ _ ha hk => ha.add (hp.get (List.mem_range.mp hk))
theorem queue_run : ∀ (k f at_ : Nat) (acc : List WRow), at_ + k ≤ acc.length → queueW ps (k + f) at_ acc = queueW ps f (at_ + k) (levelW ps ((acc.drop at_).take k) acc)
  | 0, f, at_, acc, _ => by
    rw [Nat.zero_add, Nat.add_zero, List.take_zero]
    rfl
  | k + 1, f, at_, acc, h => by
    have hlt : at_ < acc.length := by omega
    obtain ⟨more, e⟩ := turnW_pre (ps := ps) (acc.getD at_ ([], [])) acc
    have e1 : queueW ps (k + 1 + f) at_ acc = queueW ps (k + f) (at_ + 1) (turnW ps (acc.getD at_ ([], [])) acc) := by
      rw [show k + 1 + f = (k + f) + 1 by omega]
      exact if_pos hlt
    rw [e1, queue_run k f (at_ + 1) _ (by rw [e, List.length_append]; omega), show at_ + 1 + k = at_ + (k + 1) by omega]
    have e2 : ((turnW ps (acc.getD at_ ([], [])) acc).drop (at_ + 1)).take k = (acc.drop (at_ + 1)).take k := by
      rw [e, List.drop_append_of_le_length (by omega), List.take_append_of_le_length (by rw [List.length_drop]; omega)]
    have e3 : (acc.drop at_).take (k + 1) = acc.getD at_ ([], []) :: (acc.drop (at_ + 1)).take k := by
      rw [List.drop_eq_getElem_cons hlt, List.take_succ_cons, getD_of_lt hlt]
    rw [e2, e3]
    rfl
theorem queue_end (f : Nat) (acc : List WRow) : queueW ps f acc.length acc = acc := by
  cases f with
  | zero => rfl
  | succ f => exact if_neg (Nat.lt_irrefl _)
/-- the specification's levels are the queue -/
theorem grow_ok (hs : Sz n) (hp : Pats n ps) : ∀ (f : Nat) (seen : Array Bool) (done : List WRow) (a F : Nat), Met n done → Says n seen done → a ≤ done.length → 2 ^ (n * n) ≤ f + done.length → 2 ^ (n * n) ≤ F + a →
    (⟨n, ps⟩ : Kv423.Now).grow f seen done (done.drop a) = queueW ps F a done
  | f, seen, done, a, F, hm, hsay, ha, hf, hF => by
    have hF2 : done.length - a + (F - (done.length - a)) = F := by
      have := hm.short hs
      omega
    have run := queue_run (ps := ps) (done.length - a) (F - (done.length - a)) a done (by omega)
    rw [hF2, show a + (done.length - a) = done.length by omega, List.take_of_length_le (by rw [List.length_drop]; exact Nat.le_refl _)] at run
    obtain ⟨more, e⟩ := levelW_pre (ps := ps) (done.drop a) done
    have hlast : ∀ x ∈ done.drop a, Pat n x.1 := fun x hx => hm.pat x (List.mem_of_mem_drop hx)
    have hm2 := hm.level hs hp hlast
    cases f with
    | zero =>
      have h1 := hm2.short hs
      rw [e, List.length_append] at h1
      have h2 : more = [] := List.length_eq_zero_iff.mp (by omega)
      rw [h2, List.append_nil] at e
      rw [run, e, queue_end]
      rfl
    | succ f =>
      -- the specification's level
      have inner : ∀ (x : WRow), Pat n x.1 → ∀ (ks : List Nat), (∀ k ∈ ks, k < ps.length) → ∀ (seen : Array Bool) (new : List WRow), Says n seen (done ++ new) →
          ∃ seen' new', ks.foldl (fun z k => (⟨n, ps⟩ : Kv423.Now).look z (Kv423.mul n x.1 (ps.getD k []), x.2 ++ [k])) (seen, new) = (seen', new') ∧
            done ++ new' = ks.foldl (fun a k => meetW a (patternAfter x.1 (ps.getD k []), x.2 ++ [k])) (done ++ new) ∧ Says n seen' (done ++ new') := by
        intro x hx ks
        induction ks with
        | nil => exact fun _ seen new h => ⟨seen, new, rfl, rfl, h⟩
        | cons k r ih =>
          intro hk seen new h
          have hpk := hp.get (hk k (List.mem_cons_self ..))
          obtain ⟨s1, n1, e1, e2, h1⟩ := look_ok (a := ⟨n, ps⟩) rfl hs h (x := (patternAfter x.1 (ps.getD k []), x.2 ++ [k])) (hx.after hs hpk)
          obtain ⟨s2, n2, e3, e4, h2⟩ := ih (fun j hj => hk j (List.mem_cons_of_mem _ hj)) s1 n1 h1
          refine ⟨s2, n2, ?_, ?_, h2⟩
          · rw [List.foldl_cons, mul_eq hs hx hpk, e1]
            exact e3
          · rw [List.foldl_cons, ← e2]
            exact e4
      have outer : ∀ (last : List WRow), (∀ x ∈ last, Pat n x.1) → ∀ (seen : Array Bool) (new : List WRow), Says n seen (done ++ new) →
          ∃ seen' new', last.foldl (fun z x => (List.range ps.length).foldl (fun z k => (⟨n, ps⟩ : Kv423.Now).look z (Kv423.mul n x.1 (ps.getD k []), x.2 ++ [k])) z) (seen, new) = (seen', new') ∧
            done ++ new' = levelW ps last (done ++ new) ∧ Says n seen' (done ++ new') := by
        intro last
        induction last with
        | nil => exact fun _ seen new h => ⟨seen, new, rfl, rfl, h⟩
        | cons x r ih =>
          intro hx seen new h
          obtain ⟨s1, n1, e1, e2, h1⟩ := inner x (hx x (List.mem_cons_self ..)) (List.range ps.length) (fun k hk => List.mem_range.mp hk) seen new h
          obtain ⟨s2, n2, e3, e4, h2⟩ := ih (fun y hy => hx y (List.mem_cons_of_mem _ hy)) s1 n1 h1
          refine ⟨s2, n2, ?_, ?_, h2⟩
          · rw [List.foldl_cons, e1]
            exact e3
          · rw [e4, e2]
            rfl
      obtain ⟨s1, n1, e1, e2, h1⟩ := outer (done.drop a) hlast seen [] (by rw [List.append_nil]; exact hsay)
      rw [List.append_nil] at e2
      have eg : (⟨n, ps⟩ : Kv423.Now).grow (f + 1) seen done (done.drop a) = if n1.isEmpty = true then done else (⟨n, ps⟩ : Kv423.Now).grow f s1 (done ++ n1) n1 := by
        show (let z := (done.drop a).foldl (fun z x => (List.range ps.length).foldl (fun z k => (⟨n, ps⟩ : Kv423.Now).look z (Kv423.mul n x.1 (ps.getD k []), x.2 ++ [k])) z) (seen, [])
          if z.2.isEmpty then done else (⟨n, ps⟩ : Kv423.Now).grow f z.1 (done ++ z.2) z.2) = _
        dsimp only
        rw [e1]
      rw [eg, run, ← e2]
      cases n1 with
      | nil =>
        rw [if_pos (show ([] : List WRow).isEmpty = true from rfl), List.append_nil, queue_end]
      | cons y r =>
        rw [if_neg (by simp)]
        have e3 : (done ++ y :: r).drop done.length = y :: r := by simp
        have g := grow_ok hs hp f s1 (done ++ y :: r) done.length (F - (done.length - a)) (by rw [e2]; exact hm2) h1 (by simp) (by simp; omega) (by omega)
        rw [e3] at g
        exact g
/-- all that the specification meets -/
def metW (ps : List (List Nat)) : List WRow := queueW ps 513 0 (startW ps)
theorem pow_sz {n : Nat} (hs : Sz n) : 2 ^ (n * n) ≤ 512 := by rcases hs with rfl | rfl | rfl <;> decide
theorem all_ok (hs : Sz n) (hp : Pats n ps) : (⟨n, ps⟩ : Kv423.Now).all = metW ps := by
  have key : ∀ (ks : List Nat), (∀ k ∈ ks, k < ps.length) → ∀ (seen : Array Bool) (new : List WRow), Says n seen new →
      ∃ seen' new', ks.foldl (fun z k => (⟨n, ps⟩ : Kv423.Now).look z (ps.getD k [], [k])) (seen, new) = (seen', new') ∧ new' = ks.foldl (fun a k => meetW a (ps.getD k [], [k])) new ∧ Says n seen' new' := by
    intro ks
    induction ks with
    | nil => exact fun _ seen new h => ⟨seen, new, rfl, rfl, h⟩
    | cons k r ih =>
      intro hk seen new h
      obtain ⟨s1, n1, e1, e2, h1⟩ := look_ok (a := ⟨n, ps⟩) rfl hs (done := []) h (x := (ps.getD k [], [k])) (hp.get (hk k (List.mem_cons_self ..)))
      obtain ⟨s2, n2, e3, e4, h2⟩ := ih (fun j hj => hk j (List.mem_cons_of_mem _ hj)) s1 n1 h1
      refine ⟨s2, n2, ?_, ?_, h2⟩
      · rw [List.foldl_cons, e1]
        exact e3
      · have e5 : n1 = meetW new (ps.getD k [], [k]) := e2
        rw [List.foldl_cons, ← e5]
        exact e4
  obtain ⟨s1, n1, e1, e2, h1⟩ := key (List.range ps.length) (fun k hk => List.mem_range.mp hk) (Array.replicate (2 ^ (n * n)) false) [] (Says.start n)
  have e2' : n1 = startW ps := e2
  have g := grow_ok hs hp (2 ^ (n * n)) s1 n1 0 513 (by rw [e2']; exact Met.start hp) h1 (Nat.zero_le _) (Nat.le_add_right _ _) (by have := pow_sz hs; omega)
  rw [List.drop_zero] at g
  show (let s := (List.range ps.length).foldl (fun z k => (⟨n, ps⟩ : Kv423.Now).look z (ps.getD k [], [k])) (Array.replicate (2 ^ (n * n)) false, [])
    (⟨n, ps⟩ : Kv423.Now).grow (2 ^ (n * n)) s.1 s.2 s.2) = metW ps
  dsimp only
  rw [e1]
  show (⟨n, ps⟩ : Kv423.Now).grow (2 ^ (n * n)) s1 n1 n1 = metW ps
  rw [g, e2']
  rfl
end
end Mw
end
section
namespace Mw
abbrev row0 : Row := ([], -1, 0)
abbrev wrow0 : WRow := ([], [])
theorem getD_append_left {α : Type} {l m : List α} {i : Nat} {d : α} (h : i < l.length) : (l ++ m).getD i d = l.getD i d := by
  rw [List.getD_eq_getElem?_getD, List.getElem?_append_left h, ← List.getD_eq_getElem?_getD]
theorem getD_append_last {α : Type} {l : List α} {x d : α} : (l ++ [x]).getD l.length d = x := by
  rw [List.getD_eq_getElem?_getD, List.getElem?_append_right (Nat.le_refl _), Nat.sub_self] <;> rfl
/-- a row and the row with its word -/
structure Hold (rows : List Row) (ws : List WRow) (i : Nat) : Prop where
  pat : (rows.getD i row0).1 = (ws.getD i wrow0).1
  word : ((rows.getD i row0).2.1 = -1 ∧ (ws.getD i wrow0).2 = [(rows.getD i row0).2.2]) ∨
    ∃ j, j < i ∧ (rows.getD i row0).2.1 = (j : Int) ∧ (ws.getD i wrow0).2 = (ws.getD j wrow0).2 ++ [(rows.getD i row0).2.2]
structure Held (rows : List Row) (ws : List WRow) : Prop where
  len : rows.length = ws.length
  hold : ∀ i, i < rows.length → Hold rows ws i
theorem Held.keys {rows : List Row} {ws : List WRow} (h : Held rows ws) : rows.map Prod.fst = ws.map Prod.fst := by
  refine ext_getD (d := []) (by rw [List.length_map, List.length_map, h.len]) fun i hi => ?_
  rw [List.length_map] at hi
  rw [getD_map (d := row0) hi, getD_map (d := wrow0) (by rw [← h.len]; exact hi)]
  exact (h.hold i hi).pat
theorem Hold.more {rows : List Row} {ws : List WRow} {x : Row} {y : WRow} {i : Nat} (hl : rows.length = ws.length) (hi : i < rows.length) (h : Hold rows ws i) : Hold (rows ++ [x]) (ws ++ [y]) i := by
  have hi2 : i < ws.length := by rw [← hl]; exact hi
  refine ⟨?_, ?_⟩
  · rw [getD_append_left hi, getD_append_left hi2]
    exact h.pat
  · rw [getD_append_left hi, getD_append_left hi2]
    rcases h.word with q | ⟨j, hj, e1, e2⟩
    · exact .inl q
    · exact .inr ⟨j, hj, e1, by rw [getD_append_left (Nat.lt_trans hj hi2)]; exact e2⟩
theorem Held.add {rows : List Row} {ws : List WRow} (h : Held rows ws) {p w : List Nat} {place : Int} {k : Nat}
    (hw : (place = -1 ∧ w = []) ∨ ∃ j, j < rows.length ∧ place = (j : Int) ∧ w = (ws.getD j wrow0).2) : Held (meet rows p place k) (meetW ws (p, w ++ [k])) := by
  by_cases hm : p ∈ ws.map Prod.fst
  · rw [meetW_in hm]
    unfold meet
    rw [if_pos ((any_key rows p).mpr (by rw [h.keys]; exact hm))]
    exact h
  · rw [meetW_out hm]
    unfold meet
    rw [any_key_false (by rw [h.keys]; exact hm), if_neg (by decide)]
    refine ⟨by rw [List.length_append, List.length_append, h.len] <;> rfl, fun i hi => ?_⟩
    rw [List.length_append] at hi
    rcases Nat.lt_or_ge i rows.length with q | q
    · exact (h.hold i q).more h.len q
    · have e : i = rows.length := by
        have : ([(p, place, k)] : List Row).length = 1 := rfl
        omega
      subst e
      refine ⟨?_, ?_⟩
      · rw [getD_append_last, h.len, getD_append_last]
      · rw [getD_append_last]
        have e2 : (ws ++ [(p, w ++ [k])]).getD rows.length wrow0 = (p, w ++ [k]) := by rw [h.len]; exact getD_append_last
        rw [e2]
        rcases hw with ⟨e3, e4⟩ | ⟨j, hj, e3, e4⟩
        · exact .inl ⟨e3, by rw [e4]; rfl⟩
        · exact .inr ⟨j, hj, e3, by rw [getD_append_left (by rw [← h.len]; exact hj), e4]⟩
theorem meet_pre (acc : List Row) (p : List Nat) (place : Int) (k : Nat) : ∃ more, meet acc p place k = acc ++ more := by
  unfold meet
  cases acc.any (fun r => r.1 == p) with
  | true => exact ⟨[], (List.append_nil _).symm⟩
  | false => exact ⟨_, rfl⟩
section
variable {n : Nat} {ps : List (List Nat)}
theorem Held.start (ps : List (List Nat)) : Held (metStart ps) (startW ps) := by
  have key : ∀ (ks : List Nat) (rows : List Row) (ws : List WRow), Held rows ws → Held (ks.foldl (fun acc k => meet acc (ps.getD k []) (-1) k) rows) (ks.foldl (fun a k => meetW a (ps.getD k [], [k])) ws) := by
    intro ks
    induction ks with
    | nil => exact fun _ _ h => h
    | cons k r ih => exact fun rows ws h => ih _ _ (h.add (w := []) (.inl ⟨rfl, rfl⟩))
  exact key _ _ _ ⟨rfl, fun i hi => absurd hi (Nat.not_lt_zero i)⟩
theorem Held.turn {rows : List Row} {ws : List WRow} (h : Held rows ws) {at_ : Nat} (ha : at_ < rows.length) : Held (metTurn ps at_ rows) (turnW ps (ws.getD at_ wrow0) ws) := by
  have key : ∀ (ks : List Nat) (r2 : List Row) (w2 : List WRow), Held r2 w2 → (∃ more, r2 = rows ++ more) → (∃ more, w2 = ws ++ more) →
      Held (ks.foldl (fun a k => meet a (patternAfter (a.getD at_ row0).1 (ps.getD k [])) (at_ : Int) k) r2) (ks.foldl (fun a k => meetW a (patternAfter (ws.getD at_ wrow0).1 (ps.getD k []), (ws.getD at_ wrow0).2 ++ [k])) w2) := by
    intro ks
    induction ks with
    | nil => exact fun _ _ h _ _ => h
    | cons k r ih =>
      rintro r2 w2 h2 ⟨m1, e1⟩ ⟨m2, e2⟩
      have g1 : r2.getD at_ row0 = rows.getD at_ row0 := by rw [e1]; exact getD_append_left ha
      have g2 : w2.getD at_ wrow0 = ws.getD at_ wrow0 := by rw [e2]; exact getD_append_left (by rw [← h.len]; exact ha)
      have g3 : (r2.getD at_ row0).1 = (ws.getD at_ wrow0).1 := by rw [g1]; exact (h.hold at_ ha).pat
      rw [List.foldl_cons, List.foldl_cons, g3]
      refine ih _ _ (h2.add (.inr ⟨at_, by rw [e1, List.length_append]; omega, rfl, by rw [g2]⟩)) ?_ ?_
      · obtain ⟨m3, e3⟩ := meet_pre r2 (patternAfter (ws.getD at_ wrow0).1 (ps.getD k [])) (at_ : Int) k
        exact ⟨m1 ++ m3, by rw [e3, e1, List.append_assoc]⟩
      · obtain ⟨m3, e3⟩ := meetW_pre w2 (patternAfter (ws.getD at_ wrow0).1 (ps.getD k []), (ws.getD at_ wrow0).2 ++ [k])
        exact ⟨m2 ++ m3, by rw [e3, e2, List.append_assoc]⟩
  exact key _ _ _ h ⟨[], (List.append_nil _).symm⟩ ⟨[], (List.append_nil _).symm⟩
theorem Held.loop : ∀ (f at_ : Nat) {rows : List Row} {ws : List WRow}, Held rows ws → Held (metLoop ps f at_ rows) (queueW ps f at_ ws)
  | 0, _, _, _, h => h
  | f + 1, at_, rows, ws, h => by
    unfold metLoop queueW
    rw [← h.len]
    by_cases c : at_ < rows.length
    · rw [if_pos c, if_pos c]
      exact Held.loop f (at_ + 1) (h.turn c)
    · rw [if_neg c, if_neg c]
      exact h
theorem Held.all (ps : List (List Nat)) : Held (metPatterns ps) (metW ps) := Held.loop 513 0 (Held.start ps)
theorem Held.back {rows : List Row} {ws : List WRow} (h : Held rows ws) : ∀ (f i : Nat), i < rows.length → i < f → (wordBack rows f (i : Int)).reverse = (ws.getD i wrow0).2
  | 0, i, _, hf => absurd hf (Nat.not_lt_zero i)
  | f + 1, i, hi, hf => by
    unfold wordBack
    rw [if_pos (Int.natCast_nonneg i), Int.toNat_natCast, List.reverse_cons]
    rcases (h.hold i hi).word with ⟨e1, e2⟩ | ⟨j, hj, e1, e2⟩
    · rw [e1, e2]
      have e3 : wordBack rows f (-1) = [] := by
        cases f with
        | zero => rfl
        | succ f => exact if_neg (by decide)
      rw [e3]
      rfl
    · rw [e1, e2, Held.back h f j (Nat.lt_trans hj hi) (by omega)]
theorem Held.wordOf {rows : List Row} {ws : List WRow} (h : Held rows ws) {i : Nat} (hi : i < rows.length) : Mw.wordOf rows i = (ws.getD i wrow0).2 := h.back (i + 1) i hi (Nat.lt_succ_self i)
theorem find_range {α : Type} (l : List α) (d : α) (p : α → Bool) : l.find? p = ((List.range l.length).find? fun i => p (l.getD i d)).map fun i => l.getD i d := by
  have e := map_range_getD l d
  have e2 : l.find? p = ((List.range l.length).map fun i => l.getD i d).find? p := by rw [e]
  rw [e2, List.find?_map] <;> rfl
theorem find_held {rows : List Row} {ws : List WRow} (h : Held rows ws) (g : List Nat → Bool) :
    (ws.find? fun z => g z.1).map Prod.snd = ((List.range rows.length).find? fun i => g (rows.getD i row0).1).map (Mw.wordOf rows) := by
  rw [find_range ws wrow0 (fun z => g z.1), Option.map_map, ← h.len]
  have e : (List.range rows.length).find? (fun i => g (ws.getD i wrow0).1) = (List.range rows.length).find? (fun i => g (rows.getD i row0).1) := by
    have key : ∀ ks : List Nat, (∀ i ∈ ks, i < rows.length) → ks.find? (fun i => g (ws.getD i wrow0).1) = ks.find? (fun i => g (rows.getD i row0).1) := by
      intro ks
      induction ks with
      | nil => exact fun _ => rfl
      | cons k r ih =>
        intro hk
        rw [List.find?_cons, List.find?_cons, (h.hold k (hk k (List.mem_cons_self ..))).pat, ih fun j hj => hk j (List.mem_cons_of_mem _ hj)]
    exact key _ fun i hi => List.mem_range.mp hi
  rw [e]
  cases q : (List.range rows.length).find? (fun i => g (rows.getD i row0).1) with
  | none => rfl
  | some i =>
    have hi := List.mem_range.mp (List.mem_of_find?_eq_some q)
    show some (ws.getD i wrow0).2 = some (Mw.wordOf rows i)
    rw [h.wordOf hi]
/-- what the specification finds first -/
theorem first_ok (hs : Sz n) (hp : Pats n ps) (g : List Nat → Bool) :
    ((⟨n, ps⟩ : Kv423.Now).first g).map Prod.snd = ((List.range (metPatterns ps).length).find? fun i => g ((metPatterns ps).getD i row0).1).map (Mw.wordOf (metPatterns ps)) := by
  unfold Kv423.Now.first
  rw [all_ok hs hp]
  exact find_held (Held.all ps) g
theorem zero_eq (p : List Nat) : Kv423.nothing p = isZero p := by
  unfold Kv423.nothing isZero
  induction p with
  | nil => rfl
  | cons x r ih =>
    rw [List.all_cons, List.sum_cons, ih]
    by_cases h : x = 0
    · rw [h]
      simp
    · have e1 : (x == 0) = false := beq_eq_false_iff_ne.mpr h
      have e2 : (x + r.sum == 0) = false := beq_eq_false_iff_ne.mpr (by omega)
      rw [e1, e2]
      rfl
theorem zeroWord_ok (hs : Sz n) (hp : Pats n ps) : ((⟨n, ps⟩ : Kv423.Now).first Kv423.nothing).map Prod.snd = zeroWord ps := by
  rw [show Kv423.nothing = isZero from funext zero_eq]
  exact first_ok hs hp isZero
theorem common_bit (n : Nat) (j : Nat) : ∀ (p : List Nat) (x : Nat), (p.foldl (fun f r => f &&& r) x).testBit j = (x.testBit j && p.all fun r => r.testBit j)
  | [], x => (Bool.and_true _).symm
  | r :: p, x => by rw [List.foldl_cons, common_bit n j p, List.all_cons, Nat.testBit_and, Bool.and_assoc]
theorem met_eq (n : Nat) (p : List Nat) : Kv423.met n p = decide (0 < commonColumns n p) := by
  unfold Kv423.met commonColumns
  by_cases h : 0 < p.foldl (fun f r => f &&& r) (2 ^ n - 1)
  · rw [decide_eq_true h]
    obtain ⟨j, hj⟩ := Nat.exists_testBit_of_ne_zero (Nat.pos_iff_ne_zero.mp h)
    rw [common_bit n, Nat.testBit_two_pow_sub_one, Bool.and_eq_true, decide_eq_true_eq] at hj
    refine List.any_eq_true.mpr ⟨j, List.mem_range.mpr hj.1, ?_⟩
    rw [← hj.2]
    refine congrArg (p.all ·) (funext fun r => ?_)
    exact hasIndex_bit r j
  · rw [decide_eq_false h]
    have e : p.foldl (fun f r => f &&& r) (2 ^ n - 1) = 0 := by omega
    refine List.any_eq_false.mpr fun j hj q => ?_
    have z := common_bit n j p (2 ^ n - 1)
    rw [e, Nat.zero_testBit, Nat.testBit_two_pow_sub_one, decide_eq_true (List.mem_range.mp hj), Bool.true_and] at z
    have q2 : (p.all fun r => r.testBit j) = true := by
      rw [← q]
      refine congrArg (p.all ·) (funext fun r => ?_)
      exact (hasIndex_bit r j).symm
    rw [q2] at z
    cases z
theorem columnWord_ok (hs : Sz n) (hp : Pats n ps) : ((⟨n, ps⟩ : Kv423.Now).first (Kv423.met n)).map Prod.snd = positiveColumnWord n ps := by
  rw [show Kv423.met n = fun p => decide (0 < commonColumns n p) from funext (met_eq n)]
  exact first_ok hs hp _
theorem count_ok (hs : Sz n) (hp : Pats n ps) : (⟨n, ps⟩ : Kv423.Now).all.length = (metPatterns ps).length := by
  rw [all_ok hs hp]
  exact (Held.all ps).len.symm
end
end Mw
end
section
namespace Mw
/-! ### path counts -/
section
variable {n : Nat}
theorem product_at (a b : List Nat) {i j : Nat} (hi : i < n) (hj : j < n) : (productOf n a b).getD (i * n + j) 0 = ((List.range n).map fun m => a.getD (i * n + m) 0 * b.getD (m * n + j) 0).sum := by
  unfold productOf
  rw [getD_map_range (idx_lt hi hj)]
  unfold productEntry
  rw [idx_div hj, idx_mod hj]
theorem cut_product (a b : List Nat) : Kv424.cutUp n (productOf n a b) = Kv424.mul n (Kv424.cutUp n a) (Kv424.cutUp n b) := by
  unfold Kv424.cutUp Kv424.mul
  refine map_range_congr fun i hi => map_range_congr fun j hj => ?_
  rw [product_at a b hi hj]
  refine congrArg List.sum (map_range_congr fun m hm => ?_)
  rw [← at_cut hi hm, ← at_cut hm hj]
  rfl
theorem cut_identity : Kv424.cutUp n (identity n) = Kv424.one n := by
  unfold Kv424.cutUp Kv424.one identity
  refine map_range_congr fun i hi => map_range_congr fun j hj => ?_
  rw [getD_map_range (idx_lt hi hj), idx_div hj, idx_mod hj]
theorem cut_get {ms : List (List Nat)} {k : Nat} (hk : k < ms.length) : (cut n ms).getD k [] = Kv424.cutUp n (ms.getD k []) := getD_map (d := []) hk
theorem cut_word {ms : List (List Nat)} : ∀ {w : List Nat} (x : List Nat), (∀ k ∈ w, k < ms.length) →
    Kv424.cutUp n (w.foldl (fun f k => productOf n f (ms.getD k [])) x) = w.foldl (fun x k => Kv424.mul n x ((cut n ms).getD k [])) (Kv424.cutUp n x)
  | [], _, _ => rfl
  | k :: r, x, hw => by
    rw [List.foldl_cons, List.foldl_cons, cut_word _ (fun j hj => hw j (List.mem_cons_of_mem _ hj)), cut_product, cut_get (hw k (List.mem_cons_self ..))]
theorem paths_eq {ms : List (List Nat)} {w : List Nat} {i j : Nat} (hi : i < n) (hj : j < n) (hw : ∀ k ∈ w, k < ms.length) :
    Kv424.at_ ((⟨n, cut n ms⟩ : Kv424.Now).word w) i j = (productOfWord n ms w).getD (i * n + j) 0 := by
  unfold Kv424.Now.word productOfWord
  have e := cut_word (n := n) (ms := ms) (w := w) (identity n) hw
  rw [cut_identity] at e
  have e2 : w.foldl (fun x k => Kv424.mul n x ((⟨n, cut n ms⟩ : Kv424.Now).tab k)) (Kv424.one n) = w.foldl (fun x k => Kv424.mul n x ((cut n ms).getD k [])) (Kv424.one n) := rfl
  show Kv424.at_ (w.foldl (fun x k => Kv424.mul n x ((⟨n, cut n ms⟩ : Kv424.Now).tab k)) (Kv424.one n)) i j = _
  rw [e2, ← e, at_cut hi hj]
/-! ### the greatest total -/
theorem sum_append (a b : List Nat) : (a ++ b).sum = a.sum + b.sum := List.sum_append
theorem rows_sum (n : Nat) (e : List Nat) : ∀ m, ((List.range m).map fun i => ((List.range n).map fun j => e.getD (i * n + j) 0).sum).sum = ((List.range (m * n)).map fun p => e.getD p 0).sum
  | 0 => by rw [Nat.zero_mul] <;> rfl
  | m + 1 => by
    rw [List.range_succ, List.map_append, sum_append, rows_sum n e m, Nat.add_mul, Nat.one_mul, List.range_add, List.map_append, sum_append, List.map_map]
    simp
    rfl
theorem total_cut {e : List Nat} (h : e.length = n * n) : Kv424.total (Kv424.cutUp n e) = e.sum := by
  unfold Kv424.total Kv424.cutUp
  rw [List.map_map]
  have h1 := rows_sum n e n
  rw [← h, map_range_getD] at h1
  exact h1
theorem product_len (a b : List Nat) : (productOf n a b).length = n * n := by simp [productOf]
theorem identity_len : (identity n).length = n * n := by simp [identity]
theorem rows_len {ms : List (List Nat)} : ∀ m, ∀ r ∈ wordRows n ms m, r.2.length = n * n
  | 0, r, hr => by
    have e : r = ([], identity n) := List.mem_singleton.mp hr
    rw [e]
    exact identity_len
  | m + 1, r, hr => by
    obtain ⟨q, _, h2⟩ := List.mem_flatMap.mp (show r ∈ (wordRows n ms m).flatMap _ from hr)
    obtain ⟨k, _, rfl⟩ := List.mem_map.mp h2
    exact product_len _ _
theorem rows_words (ms : List (List Nat)) : ∀ m, (wordRows n ms m).map Prod.fst = Kv424.words ms.length m
  | 0 => rfl
  | m + 1 => by
    show ((wordRows n ms m).flatMap _).map Prod.fst = (Kv424.words ms.length m).flatMap _
    rw [← rows_words ms m, List.map_flatMap, List.flatMap_map]
    refine congrArg (fun f => (wordRows n ms m).flatMap f) (funext fun r => ?_)
    rw [List.map_map]
    rfl
theorem rows_come (ms : List (List Nat)) : ∀ m, (wordRows n ms m).map (fun r => Kv424.cutUp n r.2) = (⟨n, cut n ms⟩ : Kv424.Now).come m
  | 0 => by
    show [Kv424.cutUp n (identity n)] = [Kv424.one n]
    rw [cut_identity]
  | m + 1 => by
    show ((wordRows n ms m).flatMap _).map _ = ((⟨n, cut n ms⟩ : Kv424.Now).come m).flatMap _
    rw [← rows_come ms m, List.map_flatMap, List.flatMap_map]
    refine congrArg (fun f => (wordRows n ms m).flatMap f) (funext fun r => ?_)
    rw [List.map_map]
    show (List.range ms.length).map (fun k => Kv424.cutUp n (productOf n r.2 (ms.getD k []))) = (cut n ms).map fun t => Kv424.mul n (Kv424.cutUp n r.2) t
    unfold cut
    rw [List.map_map]
    have e := map_range_getD ms []
    have e2 : ms.map ((fun t => Kv424.mul n (Kv424.cutUp n r.2) t) ∘ Kv424.cutUp n) = ((List.range ms.length).map fun i => ms.getD i []).map ((fun t => Kv424.mul n (Kv424.cutUp n r.2) t) ∘ Kv424.cutUp n) := by rw [e]
    rw [e2, List.map_map]
    refine map_range_congr fun k _ => ?_
    rw [cut_product]
    rfl
theorem totals_eq (ms : List (List Nat)) (m : Nat) : ((⟨n, cut n ms⟩ : Kv424.Now).come m).map Kv424.total = (wordRows n ms m).map fun r => r.2.sum := by
  rw [← rows_come, List.map_map]
  exact List.map_congr_left fun r hr => total_cut (rows_len m r hr)
theorem idxOf_past {x y : Nat} (l : List Nat) (h : x ≠ y) : (x :: l).idxOf y = l.idxOf y + 1 := by
  rw [List.idxOf_cons]
  have e : (x == y) = false := beq_eq_false_iff_ne.mpr h
  rw [e] <;> rfl
/-- the running best: the greatest so far, its first word -/
theorem better_fold : ∀ (rows : List (List Nat × List Nat)) (b : Nat × List Nat),
    rows.foldl better (some b) = if (rows.map fun r => r.2.sum).foldl max b.1 = b.1 then some b
      else some ((rows.map fun r => r.2.sum).foldl max b.1, (rows.map Prod.fst).getD ((rows.map fun r => r.2.sum).idxOf ((rows.map fun r => r.2.sum).foldl max b.1)) [])
  | [], b => by simp
  | r :: rest, b => by
    have mono : ∀ (l : List Nat) (x : Nat), x ≤ l.foldl max x := by
      intro l
      induction l with
      | nil => exact fun x => Nat.le_refl x
      | cons y l ih => exact fun x => Nat.le_trans (Nat.le_max_left x y) (ih (max x y))
    rw [List.foldl_cons, List.map_cons, List.map_cons, List.foldl_cons]
    by_cases c : b.1 < r.2.sum
    · have e : better (some b) r = some (r.2.sum, r.1) := if_pos c
      have em : max b.1 r.2.sum = r.2.sum := Nat.max_eq_right (Nat.le_of_lt c)
      rw [e, better_fold rest, em]
      have h2 := mono (rest.map fun r => r.2.sum) r.2.sum
      by_cases d : (rest.map fun r => r.2.sum).foldl max r.2.sum = r.2.sum
      · rw [if_pos d, d, if_neg (by omega), List.idxOf_cons_self]
        rfl
      · rw [if_neg d, if_neg (by omega)]
        have ne : r.2.sum ≠ (rest.map fun r => r.2.sum).foldl max r.2.sum := fun z => d z.symm
        rw [idxOf_past _ ne]
        rfl
    · have e : better (some b) r = some b := if_neg c
      have em : max b.1 r.2.sum = b.1 := Nat.max_eq_left (Nat.le_of_not_lt c)
      rw [e, better_fold rest, em]
      by_cases d : (rest.map fun r => r.2.sum).foldl max b.1 = b.1
      · rw [if_pos d, if_pos d]
      · rw [if_neg d, if_neg d]
        have h2 := mono (rest.map fun r => r.2.sum) b.1
        have ne : r.2.sum ≠ (rest.map fun r => r.2.sum).foldl max b.1 := by omega
        rw [idxOf_past _ ne]
        rfl
theorem greatest_eq (ms : List (List Nat)) (m : Nat) : (match greatestTotal n ms m with
    | none => ((0 : Nat), ([] : List Nat))
    | some b => b) = ((⟨n, cut n ms⟩ : Kv424.Now).most m, (⟨n, cut n ms⟩ : Kv424.Now).best m) := by
  have e1 : (⟨n, cut n ms⟩ : Kv424.Now).most m = ((wordRows n ms m).map fun r => r.2.sum).foldl max 0 := by
    unfold Kv424.Now.most
    rw [totals_eq]
  have e2 : (⟨n, cut n ms⟩ : Kv424.Now).best m = ((wordRows n ms m).map Prod.fst).getD (((wordRows n ms m).map fun r => r.2.sum).idxOf (((wordRows n ms m).map fun r => r.2.sum).foldl max 0)) [] := by
    unfold Kv424.Now.best
    rw [totals_eq, e1, rows_words]
    show (Kv424.words (cut n ms).length m).getD _ _ = _
    unfold cut
    rw [List.length_map]
  rw [e1, e2]
  unfold greatestTotal
  cases wordRows n ms m with
  | nil => rfl
  | cons r rest =>
    have e3 : (r :: rest).foldl better none = rest.foldl better (some (r.2.sum, r.1)) := rfl
    rw [e3, better_fold, List.map_cons, List.map_cons, List.foldl_cons, Nat.zero_max]
    by_cases d : (rest.map fun r => r.2.sum).foldl max r.2.sum = r.2.sum
    · rw [if_pos d, d, List.idxOf_cons_self]
      rfl
    · rw [if_neg d]
      have ne : r.2.sum ≠ (rest.map fun r => r.2.sum).foldl max r.2.sum := fun z => d z.symm
      rw [idxOf_past _ ne]
      rfl
end
end Mw
end
section
namespace Mw
open Kv414 (Q)
/-! ### fractions -/
/-- q stands for a by b -/
structure Is (q : Q) (a b : Nat) : Prop where
  pos : 0 < q.d
  eq : q.n * (b : Int) = (a : Int) * (q.d : Int)
theorem lowest_unique {n d a b : Nat} (hd : 0 < d) (hb : 0 < b) (h : n * b = a * d) : n / Nat.gcd n d = a / Nat.gcd a b ∧ d / Nat.gcd n d = b / Nat.gcd a b := by
  have g1 : 0 < Nat.gcd n d := Nat.gcd_pos_of_pos_right _ hd
  have g2 : 0 < Nat.gcd a b := Nat.gcd_pos_of_pos_right _ hb
  have c1 : Nat.Coprime (n / Nat.gcd n d) (d / Nat.gcd n d) := Nat.coprime_div_gcd_div_gcd g1
  have c2 : Nat.Coprime (a / Nat.gcd a b) (b / Nat.gcd a b) := Nat.coprime_div_gcd_div_gcd g2
  have en := Nat.div_mul_cancel (Nat.gcd_dvd_left n d)
  have ed := Nat.div_mul_cancel (Nat.gcd_dvd_right n d)
  have ea := Nat.div_mul_cancel (Nat.gcd_dvd_left a b)
  have eb := Nat.div_mul_cancel (Nat.gcd_dvd_right a b)
  generalize Nat.gcd n d = g at *
  generalize Nat.gcd a b = k at *
  generalize n / g = x at *
  generalize d / g = y at *
  generalize a / k = u at *
  generalize b / k = v at *
  subst en ed ea eb
  have h2 : x * v = u * y := by
    have h3 : (x * v) * (g * k) = (u * y) * (g * k) := by
      calc (x * v) * (g * k) = x * g * (v * k) := by simp only [Nat.mul_assoc, Nat.mul_left_comm]
        _ = u * k * (y * g) := h
        _ = (u * y) * (g * k) := by simp only [Nat.mul_comm, Nat.mul_left_comm]
    exact Nat.eq_of_mul_eq_mul_right (Nat.mul_pos g1 g2) h3
  have d1 : y ∣ v := c1.symm.dvd_of_dvd_mul_left ⟨u, by rw [h2, Nat.mul_comm]⟩
  have d2 : v ∣ y := c2.symm.dvd_of_dvd_mul_left ⟨x, by rw [← h2, Nat.mul_comm]⟩
  have e : y = v := Nat.dvd_antisymm d1 d2
  subst e
  have hy : 0 < y := by
    rcases Nat.eq_zero_or_pos y with z | z
    · rw [z, Nat.zero_mul] at hd
      exact absurd hd (Nat.lt_irrefl 0)
    · exact z
  exact ⟨Nat.eq_of_mul_eq_mul_right hy h2, rfl⟩
theorem Is.nat {q : Q} {a b : Nat} (h : Is q a b) (hb : 0 < b) : ∃ m : Nat, q.n = (m : Int) ∧ m * b = a * q.d := by
  obtain ⟨hp, he⟩ := h
  have hn : 0 ≤ q.n := by
    rcases Int.lt_or_le q.n 0 with z | z
    · have h1 : q.n * (b : Int) < 0 := Int.mul_neg_of_neg_of_pos z (by omega)
      have h2 : 0 ≤ (a : Int) * (q.d : Int) := Int.mul_nonneg (Int.natCast_nonneg a) (Int.natCast_nonneg _)
      omega
    · exact z
  obtain ⟨m, hm⟩ := Int.eq_ofNat_of_zero_le hn
  refine ⟨m, hm, ?_⟩
  rw [hm] at he
  exact_mod_cast he
theorem red_nat {m d : Nat} (hd : 0 < d) : Q.red ⟨(m : Int), d⟩ = ⟨((m / Nat.gcd m d : Nat) : Int), d / Nat.gcd m d⟩ := by
  have g1 : 0 < Nat.gcd m d := Nat.gcd_pos_of_pos_right _ hd
  unfold Q.red Kv414.gcd'
  dsimp only
  rw [Int.natAbs_natCast, if_neg (by omega)]
  rw [Int.natCast_ediv]
theorem Is.red {q : Q} {a b : Nat} (hb : 0 < b) (h : Is q a b) : Is q.red a b := by
  obtain ⟨m, hm, e⟩ := h.nat hb
  obtain ⟨n, d⟩ := q
  have hd : 0 < d := h.pos
  dsimp only at hm e
  rw [hm, red_nat hd]
  have g1 : 0 < Nat.gcd m d := Nat.gcd_pos_of_pos_right _ hd
  refine ⟨Nat.div_pos (Nat.le_of_dvd hd (Nat.gcd_dvd_right m d)) g1, ?_⟩
  dsimp only
  have en := Nat.div_mul_cancel (Nat.gcd_dvd_left m d)
  have ed := Nat.div_mul_cancel (Nat.gcd_dvd_right m d)
  generalize Nat.gcd m d = g at *
  have h3 : (m / g * b) * g = (a * (d / g)) * g := by
    calc (m / g * b) * g = (m / g * g) * b := by simp only [Nat.mul_comm, Nat.mul_left_comm]
      _ = m * b := by rw [en]
      _ = a * d := e
      _ = a * (d / g * g) := by rw [ed]
      _ = (a * (d / g)) * g := by rw [Nat.mul_assoc]
  exact_mod_cast Nat.eq_of_mul_eq_mul_right g1 h3
theorem Is.told {q : Q} {a b : Nat} (hb : 0 < b) (h : Is q a b) : q.told = zs (lowest a b) := by
  obtain ⟨m, hm, e⟩ := h.nat hb
  obtain ⟨n, d⟩ := q
  have hd : 0 < d := h.pos
  dsimp only at hm e
  obtain ⟨e1, e2⟩ := lowest_unique hd hb e
  unfold Q.told
  rw [hm, red_nat hd, e1, e2]
  rfl
theorem Is.zero {b : Nat} : Is ⟨0, 1⟩ 0 b := ⟨by decide, by simp⟩
theorem Is.add {x y : Q} {a c b : Nat} (hb : 0 < b) (hx : Is x a b) (hy : Is y c b) : Is (x.add y) (a + c) b := by
  refine Is.red hb ⟨Nat.mul_pos hx.pos hy.pos, ?_⟩
  obtain ⟨xn, xd⟩ := x
  obtain ⟨yn, yd⟩ := y
  have h1 := hx.eq
  have h2 := hy.eq
  dsimp only at h1 h2 ⊢
  rw [Int.natCast_add, Int.natCast_mul, Int.add_mul, Int.add_mul]
  have e1 : xn * (yd : Int) * (b : Int) = (a : Int) * ((xd : Int) * (yd : Int)) := by
    rw [Int.mul_right_comm, h1, Int.mul_assoc]
  have e2 : yn * (xd : Int) * (b : Int) = (c : Int) * ((xd : Int) * (yd : Int)) := by
    rw [Int.mul_right_comm, h2, Int.mul_assoc, Int.mul_comm (yd : Int)]
  rw [e1, e2]
theorem Is.mul {x y : Q} {a b c d : Nat} (hb : 0 < b) (hd : 0 < d) (hx : Is x a b) (hy : Is y c d) : Is (x.mul y) (a * c) (b * d) := by
  refine Is.red (Nat.mul_pos hb hd) ⟨Nat.mul_pos hx.pos hy.pos, ?_⟩
  obtain ⟨xn, xd⟩ := x
  obtain ⟨yn, yd⟩ := y
  have h1 := hx.eq
  have h2 := hy.eq
  dsimp only at h1 h2 ⊢
  rw [Int.natCast_mul, Int.natCast_mul, Int.natCast_mul]
  calc xn * yn * ((b : Int) * (d : Int)) = (xn * (b : Int)) * (yn * (d : Int)) := by simp only [Int.mul_assoc, Int.mul_left_comm]
    _ = ((a : Int) * (xd : Int)) * ((c : Int) * (yd : Int)) := by rw [h1, h2]
    _ = (a : Int) * (c : Int) * ((xd : Int) * (yd : Int)) := by simp only [Int.mul_assoc, Int.mul_left_comm]
/-- the same fraction, both parts a multiple -/
theorem Is.scale {x : Q} {a b k : Nat} (hx : Is x a b) : Is x (a * k) (b * k) := ⟨hx.pos, by
  have h := hx.eq
  rw [Int.natCast_mul, Int.natCast_mul, ← Int.mul_assoc, h, Int.mul_right_comm]⟩
theorem red_int {z : Int} {d : Nat} (hd : 0 < d) : 0 < (Q.red ⟨z, d⟩).d ∧ ((Q.red ⟨z, d⟩).n < 0 ↔ z < 0) ∧ (Q.red ⟨z, d⟩).n * (d : Int) = z * ((Q.red ⟨z, d⟩).d : Int) := by
  have g1 : 0 < Nat.gcd z.natAbs d := Nat.gcd_pos_of_pos_right _ hd
  have e : Q.red ⟨z, d⟩ = ⟨z / ((Nat.gcd z.natAbs d : Nat) : Int), d / Nat.gcd z.natAbs d⟩ := by
    unfold Q.red Kv414.gcd'
    dsimp only
    rw [if_neg (by omega)]
  rw [e]
  have dz : ((Nat.gcd z.natAbs d : Nat) : Int) ∣ z := Int.ofNat_dvd_left.mpr (Nat.gcd_dvd_left _ _)
  have ed := Nat.div_mul_cancel (Nat.gcd_dvd_right z.natAbs d)
  have hq : 0 < d / Nat.gcd z.natAbs d := Nat.div_pos (Nat.le_of_dvd hd (Nat.gcd_dvd_right _ d)) g1
  generalize Nat.gcd z.natAbs d = g at *
  obtain ⟨k, hk⟩ := dz
  have gp : (0 : Int) < (g : Int) := by omega
  have ek : z / (g : Int) = k := by
    rw [hk]
    exact Int.mul_ediv_cancel_left k (by omega)
  refine ⟨hq, ?_, ?_⟩
  · show z / (g : Int) < 0 ↔ z < 0
    rw [ek, hk]
    constructor
    · intro h
      exact Int.mul_neg_of_pos_of_neg gp h
    · intro h
      rcases Int.lt_or_le k 0 with q | q
      · exact q
      · have := Int.mul_nonneg (Int.le_of_lt gp) q
        omega
  · show z / (g : Int) * (d : Int) = z * ((d / g : Nat) : Int)
    rw [ek]
    have e1 : (d : Int) = ((d / g : Nat) : Int) * (g : Int) := by exact_mod_cast ed.symm
    have e2 : k * (d : Int) = k * (((d / g : Nat) : Int) * (g : Int)) := congrArg (k * ·) e1
    rw [e2, hk, Int.mul_comm ((d / g : Nat) : Int), ← Int.mul_assoc, Int.mul_comm k]
theorem Is.red_of {z : Int} {d a b : Nat} (_hz : 0 ≤ z) (hd : 0 < d) (hb : 0 < b) (h : z * (b : Int) = (a : Int) * (d : Int)) : Is (Q.red ⟨z, d⟩) a b := Is.red hb ⟨hd, h⟩
theorem Is.more {x y : Q} {a c b : Nat} (hb : 0 < b) (hx : Is x a b) (hy : Is y c b) : Is (Kv425.more x y) (a - c) b := by
  unfold Kv425.more
  obtain ⟨xn, xd⟩ := x
  obtain ⟨yn, yd⟩ := y
  have h1 := hx.eq
  have h2 := hy.eq
  have p1 := hx.pos
  have p2 := hy.pos
  dsimp only at h1 h2 p1 p2 ⊢
  have hd : 0 < xd * yd := Nat.mul_pos p1 p2
  obtain ⟨r1, r2, r3⟩ := red_int (z := xn * (yd : Int) - yn * (xd : Int)) hd
  have key : (xn * (yd : Int) - yn * (xd : Int)) * (b : Int) = ((a : Int) - (c : Int)) * ((xd : Int) * (yd : Int)) := by
    rw [Int.sub_mul, Int.sub_mul]
    have e1 : xn * (yd : Int) * (b : Int) = (a : Int) * ((xd : Int) * (yd : Int)) := by
      rw [Int.mul_right_comm, h1, Int.mul_assoc]
    have e2 : yn * (xd : Int) * (b : Int) = (c : Int) * ((xd : Int) * (yd : Int)) := by
      rw [Int.mul_right_comm, h2, Int.mul_assoc, Int.mul_comm (yd : Int)]
    rw [e1, e2]
  have pd : (0 : Int) < (xd : Int) * (yd : Int) := Int.mul_pos (by omega) (by omega)
  have pb : (0 : Int) < (b : Int) := by omega
  show Is (if (Q.red ⟨xn * (yd : Int) - yn * (xd : Int), xd * yd⟩).n < 0 then ⟨0, 1⟩ else Q.red ⟨xn * (yd : Int) - yn * (xd : Int), xd * yd⟩) (a - c) b
  generalize hz : xn * (yd : Int) - yn * (xd : Int) = z at *
  by_cases q : (Q.red ⟨z, xd * yd⟩).n < 0
  · rw [if_pos q]
    have q2 := r2.mp q
    have h3 : z * (b : Int) < 0 := Int.mul_neg_of_neg_of_pos q2 pb
    rw [key] at h3
    have h4 : a ≤ c := by
      rcases Nat.lt_or_ge c a with w | w
      · have := Int.mul_pos (show (0 : Int) < (a : Int) - (c : Int) by omega) pd
        omega
      · exact w
    rw [Nat.sub_eq_zero_of_le h4]
    exact Is.zero
  · rw [if_neg q]
    have q2 : 0 ≤ z := by
      have := mt r2.mpr q
      omega
    have h3 : 0 ≤ z * (b : Int) := Int.mul_nonneg q2 (by omega)
    rw [key] at h3
    have h4 : c ≤ a := by
      rcases Nat.lt_or_ge a c with w | w
      · have := Int.mul_neg_of_neg_of_pos (show (a : Int) - (c : Int) < 0 by omega) pd
        omega
      · exact w
    refine Is.red_of ?_ hd hb ?_
    all_goals first | exact q2 | skip
    rw [Int.natCast_sub h4, key, Int.natCast_mul]
end Mw
end
section
namespace Mw
/-! ### the states met behind a state: how many there may be -/
/-- a state of k places -/
structure State (n k : Nat) (x : List Nat) : Prop where
  len : x.length = k
  lt : ∀ i ∈ x, i < n
theorem steps_state {n : Nat} {p : List Nat} : ∀ {st : List Nat} {found : List (List Nat)} {k : Nat}, (∀ x ∈ found, State n k x) → ∀ x ∈ st.foldl (stepsLonger n p) found, State n (k + st.length) x
  | [], _, _, h => h
  | i :: r, found, k, h => fun x hx => by
    have h2 : ∀ x ∈ stepsLonger n p found i, State n (k + 1) x := fun y hy => by
      obtain ⟨b, hb, hm⟩ := List.mem_flatMap.mp hy
      obtain ⟨c, hc, rfl⟩ := List.mem_map.mp hm
      have hb2 := h b hb
      have hc2 : c < n := List.mem_range.mp (List.mem_filter.mp hc).1
      refine ⟨by rw [List.length_append, hb2.len]; rfl, fun j hj => ?_⟩
      rcases List.mem_append.mp hj with q | q
      · exact hb2.lt j q
      · rw [List.mem_singleton.mp q]
        exact hc2
    have h3 := steps_state (st := r) h2 x hx
    rw [List.length_cons, show k + (r.length + 1) = k + 1 + r.length by omega]
    exact h3
theorem stepsBy_state {n : Nat} {p st : List Nat} : ∀ x ∈ stepsBy n p st, State n st.length x := fun x hx => by
  have h := steps_state (n := n) (p := p) (st := st) (found := [[]]) (k := 0) (fun y hy => by
    rw [List.mem_singleton.mp hy]
    exact ⟨rfl, fun j hj => by cases hj⟩) x hx
  rw [Nat.zero_add] at h
  exact h
theorem flat_len {α β : Type} {f : α → List β} {b : Nat} : ∀ {l : List α}, (∀ x ∈ l, (f x).length ≤ b) → (l.flatMap f).length ≤ l.length * b
  | [], _ => by simp
  | x :: r, h => by
    rw [List.flatMap_cons, List.length_append, List.length_cons, Nat.add_mul, Nat.one_mul]
    have h1 := h x (List.mem_cons_self ..)
    have h2 := flat_len (l := r) fun y hy => h y (List.mem_cons_of_mem _ hy)
    omega
theorem indices_len (n s : Nat) : (indicesIn n s).length ≤ n := by
  have h := List.length_filter_le (hasIndex s) (List.range n)
  rw [List.length_range] at h
  exact h
theorem longer_le {n : Nat} {p : List Nat} {found : List (List Nat)} {i : Nat} : (stepsLonger n p found i).length ≤ found.length * n := by
  unfold stepsLonger
  exact flat_len fun b _ => by
    rw [List.length_map]
    exact indices_len _ _
theorem steps_le {n : Nat} {p : List Nat} : ∀ (st : List Nat) (found : List (List Nat)), (st.foldl (stepsLonger n p) found).length ≤ found.length * n ^ st.length
  | [], found => by simp
  | i :: r, found => by
    have h1 := steps_le (n := n) (p := p) r (stepsLonger n p found i)
    have h2 := Nat.mul_le_mul_right (n ^ r.length) (longer_le (n := n) (p := p) (found := found) (i := i))
    rw [List.foldl_cons, List.length_cons, Nat.pow_succ, Nat.mul_comm (n ^ r.length), ← Nat.mul_assoc]
    exact Nat.le_trans h1 h2
/-- a state's number -/
def scode (x : List Nat) : Nat := x.foldl (fun a i => a * 3 + i) 0
theorem scode_lt {n k : Nat} {x : List Nat} (hn : n ≤ 3) (hk : k ≤ 3) (h : State n k x) : scode x < 27 := by
  obtain ⟨hl, hr⟩ := h
  match x, hl, hr with
  | [], _, _ => show 0 < 27; decide
  | [a], _, hr =>
    have ha := hr a (by simp)
    show 0 * 3 + a < 27
    omega
  | [a, b], _, hr =>
    have ha := hr a (by simp)
    have hb := hr b (by simp)
    show (0 * 3 + a) * 3 + b < 27
    omega
  | [a, b, c], _, hr =>
    have ha := hr a (by simp)
    have hb := hr b (by simp)
    have hc := hr c (by simp)
    show ((0 * 3 + a) * 3 + b) * 3 + c < 27
    omega
  | a :: b :: c :: d :: r, hl, _ =>
    have : (a :: b :: c :: d :: r).length = r.length + 4 := rfl
    omega
theorem scode_inj {n k : Nat} {x y : List Nat} (hn : n ≤ 3) (hk : k ≤ 3) (h : State n k x) (h2 : State n k y) (e : scode x = scode y) : x = y := by
  obtain ⟨hl, hr⟩ := h
  obtain ⟨hl2, hr2⟩ := h2
  have hk' : k = 0 ∨ k = 1 ∨ k = 2 ∨ k = 3 := by omega
  rcases hk' with rfl | rfl | rfl | rfl
  · rw [List.length_eq_zero_iff.mp hl, List.length_eq_zero_iff.mp hl2]
  · obtain ⟨a, rfl⟩ := len1 hl
    obtain ⟨u, rfl⟩ := len1 hl2
    have e2 : 0 * 3 + a = 0 * 3 + u := e
    have : a = u := by omega
    rw [this]
  · obtain ⟨a, b, rfl⟩ := len2 hl
    obtain ⟨u, v, rfl⟩ := len2 hl2
    have ha := hr a (by simp)
    have hb := hr b (by simp)
    have hu := hr2 u (by simp)
    have hv := hr2 v (by simp)
    have e2 : (0 * 3 + a) * 3 + b = (0 * 3 + u) * 3 + v := e
    have h1 : a = u := by omega
    have h2 : b = v := by omega
    rw [h1, h2]
  · obtain ⟨a, b, c, rfl⟩ := len3 hl
    obtain ⟨u, v, z, rfl⟩ := len3 hl2
    have ha := hr a (by simp)
    have hb := hr b (by simp)
    have hc := hr c (by simp)
    have hu := hr2 u (by simp)
    have hv := hr2 v (by simp)
    have hz := hr2 z (by simp)
    have e2 : ((0 * 3 + a) * 3 + b) * 3 + c = ((0 * 3 + u) * 3 + v) * 3 + z := e
    have h1 : a = u := by omega
    have h2 : b = v := by omega
    have h3 : c = z := by omega
    rw [h1, h2, h3]
/-- what the search keeps -/
structure SeenOk (n k : Nat) (s : Seen) : Prop where
  nd : s.1.Nodup
  known : ∀ x ∈ s.1, State n k x
  left : ∀ x ∈ s.2, State n k x
theorem SeenOk.short {n k : Nat} {s : Seen} (hn : n ≤ 3) (hk : k ≤ 3) (h : SeenOk n k s) : s.1.length ≤ 27 :=
  pigeonOf scode h.nd (fun x hx => scode_lt hn hk (h.known x hx)) fun x hx y hy e => scode_inj hn hk (h.known x hx) (h.known y hy) e
theorem visit_ok {n k : Nat} {s : Seen} {x : List Nat} (h : SeenOk n k s) (hx : State n k x) : SeenOk n k (visit s x) ∧ (visit s x).2.length + s.1.length = s.2.length + (visit s x).1.length := by
  unfold visit
  by_cases c : x ∈ s.1
  · rw [if_pos c]
    exact ⟨h, Nat.add_comm _ _ |>.trans (Nat.add_comm _ _)⟩
  · rw [if_neg c]
    refine ⟨⟨?_, ?_, ?_⟩, ?_⟩
    · refine List.nodup_append.mpr ⟨h.nd, by simp, fun a ha b hb => ?_⟩
      rw [List.mem_singleton.mp hb]
      intro e
      exact c (by rw [← e]; exact ha)
    · intro y hy
      rcases List.mem_append.mp hy with q | q
      · exact h.known y q
      · rw [List.mem_singleton.mp q]
        exact hx
    · intro y hy
      rcases List.mem_append.mp hy with q | q
      · exact h.left y q
      · rw [List.mem_singleton.mp q]
        exact hx
    · show (s.2 ++ [x]).length + s.1.length = s.2.length + (s.1 ++ [x]).length
      rw [List.length_append, List.length_append]
      show s.2.length + 1 + s.1.length = s.2.length + (s.1.length + 1)
      omega
/-- between two searches' states: as many more known as left -/
def Bal (s t : Seen) : Prop := t.2.length + s.1.length = s.2.length + t.1.length
theorem visits_ok {n k : Nat} : ∀ {l : List (List Nat)} {s : Seen}, SeenOk n k s → (∀ x ∈ l, State n k x) → SeenOk n k (l.foldl visit s) ∧ Bal s (l.foldl visit s)
  | [], s, h, _ => ⟨h, Nat.add_comm _ _ |>.trans (Nat.add_comm _ _)⟩
  | x :: r, s, h, hx => by
    obtain ⟨h1, e1⟩ := visit_ok h (hx x (List.mem_cons_self ..))
    obtain ⟨h2, e2⟩ := visits_ok (l := r) h1 fun y hy => hx y (List.mem_cons_of_mem _ hy)
    refine ⟨h2, ?_⟩
    unfold Bal at e2 ⊢
    rw [List.foldl_cons]
    omega
theorem ones_ok {n k : Nat} {here : List Nat} (hh : here.length = k) : ∀ {ps : List (List Nat)} {s : Seen}, SeenOk n k s → SeenOk n k (ps.foldl (behindOne n here) s) ∧ Bal s (ps.foldl (behindOne n here) s)
  | [], s, h => ⟨h, Nat.add_comm _ _ |>.trans (Nat.add_comm _ _)⟩
  | p :: r, s, h => by
    obtain ⟨h1, e1⟩ := visits_ok (l := stepsBy n p here) h fun x hx => by rw [← hh]; exact stepsBy_state x hx
    obtain ⟨h2, e2⟩ := ones_ok hh (ps := r) h1
    refine ⟨h2, ?_⟩
    unfold Bal at e1 e2 ⊢
    rw [List.foldl_cons]
    show _ + _ = _
    have e3 : behindOne n here s p = (stepsBy n p here).foldl visit s := rfl
    rw [e3]
    omega
theorem turn_ok {n k : Nat} {ps : List (List Nat)} {s : Seen} (h : SeenOk n k s) (hne : s.2 ≠ []) : SeenOk n k (behindTurn n ps s) ∧ (behindTurn n ps s).2.length + s.1.length + 1 = s.2.length + (behindTurn n ps s).1.length := by
  have hl := List.getLast?_eq_some_getLast hne
  have hm : s.2.getLast hne ∈ s.2 := List.getLast_mem hne
  unfold behindTurn
  rw [hl]
  have h0 : SeenOk n k (s.1, s.2.dropLast) := ⟨h.nd, h.known, fun x hx => h.left x (List.dropLast_subset _ hx)⟩
  obtain ⟨h1, e1⟩ := ones_ok (ps := ps) (h.left _ hm).len h0
  refine ⟨h1, ?_⟩
  unfold Bal at e1
  dsimp only at e1 ⊢
  rw [List.length_dropLast] at e1
  have : 0 < s.2.length := List.length_pos_iff.mpr hne
  show _ + _ + 1 = _
  simp only [Option.getD_some]
  omega
end Mw
end
section
set_option Elab.async false
set_option linter.all false
set_option maxRecDepth 100000
set_option maxHeartbeats 4000000
/-! # What a reading gives, told by data: a base heap of what is known and still, the heap around it -/
namespace Mw
open PySem PySem.Spec PyProof.Rows L2 Evl
abbrev Frg := PySem.W.Frag
/-- from a base B0 in a heap H0 one comes to a base B in a heap H: what stood stands; the base grew by new objects or by tuples -/
structure At (B0 H0 B H : Hp) : Prop where
  base : Ex B0 B
  le : Ex B H
  keep : Ex H0 H
  fr : ∀ a o, B a = some o → B0 a = some o ∨ H0 a = none ∨ ∃ xs, o = .tup xs
section
variable {B0 H0 B H B1 H1 B2 H2 : Hp} {p : Addr} {o : HO}
theorem At.refl (h : Ex B H) : At B H B H := ⟨Ex.refl _, h, Ex.refl _, fun _ _ e => .inl e⟩
theorem At.up (h : Ex B H) (k : Ex H H1) : At B H B H1 := ⟨Ex.refl _, h.trans k, k, fun _ _ e => .inl e⟩
theorem At.trans (a : At B0 H0 B H) (b : At B H B1 H1) : At B0 H0 B1 H1 := ⟨a.base.trans b.base, b.le, a.keep.trans b.keep, fun x u e => by
  rcases b.fr x u e with q | q | q
  · exact a.fr x u q
  · exact .inr (.inl (fresh_back a.keep q))
  · exact .inr (.inr q)⟩
/-- a new object joins the base -/
theorem At.new (h : Ex B H) (hp : H p = none) : At B H (upd B p o) (upd H p o) := ⟨Ex.new (fresh_back h hp), fun a u e => by
  by_cases c : a = p
  · subst c
    rw [upd_same] at e ⊢
    exact e
  · rw [upd_ne c] at e ⊢
    exact h a u e, Ex.new hp, fun a u e => by
  by_cases c : a = p
  · subst c
    exact .inr (.inl hp)
  · rw [upd_ne c] at e
    exact .inl e⟩
/-- a new object beside the base -/
theorem At.aside (h : Ex B H) (hp : H p = none) : At B H B (upd H p o) := At.up h (Ex.new hp)
/-- what stood beside the base (no tuple) stands beside it still -/
theorem At.off (a : At B H B1 H1) (hB : B p = none) (hH : H p = some o) (ht : ∀ xs, o ≠ .tup xs) : B1 p = none := by
  cases q : B1 p with
  | none => rfl
  | some u =>
    have e1 := a.le p u q
    have e2 := a.keep p o hH
    rw [e1] at e2
    obtain rfl := Option.some.inj e2
    rcases a.fr p u q with z | z | ⟨xs, z⟩
    · rw [hB] at z
      cases z
    · rw [hH] at z
      cases z
    · exact absurd z (ht xs)
/-- a thing beside the base is changed -/
theorem At.mut (a : At B0 H0 B H) (hB : B p = none) (h0 : H0 p = none) : At B0 H0 B (upd H p o) := ⟨a.base, fun x u e => by
  rw [upd_ne (ne_of_none e hB)]
  exact a.le x u e, Ex.mut a.keep h0, a.fr⟩
/-- a thing beside the base joins it -/
theorem At.freeze (a : At B0 H0 B H) (hB : B p = none) (h0 : H0 p = none) (hH : H p = some o) : At B0 H0 (upd B p o) H := ⟨a.base.trans (Ex.new hB), fun x u e => by
  by_cases c : x = p
  · subst c
    rw [upd_same] at e
    rw [hH]
    exact e
  · rw [upd_ne c] at e
    exact a.le x u e, a.keep, fun x u e => by
  by_cases c : x = p
  · subst c
    exact .inr (.inl h0)
  · rw [upd_ne c] at e
    exact a.fr x u e⟩
theorem Ex.tup (h : Ex B H) (hH : H p = some (.tup xs)) : Ex (upd B p (.tup xs)) H := fun x u e => by
  by_cases c : x = p
  · subst c
    rw [upd_same] at e
    rw [hH]
    exact e
  · rw [upd_ne c] at e
    exact h x u e
/-- two bases under one heap -/
def joinB (B B1 : Hp) : Hp := fun a => match B a with
  | some o => some o
  | none => B1 a
theorem join_l : Ex B (joinB B B1) := fun a o e => by
  unfold joinB
  rw [e]
theorem join_r (h : Ex B H) (h1 : Ex B1 H) : Ex B1 (joinB B B1) := fun a o e => by
  unfold joinB
  cases q : B a with
  | none => exact e
  | some u =>
    have e1 := h a u q
    rw [h1 a o e] at e1
    exact e1.symm
theorem join_le (h : Ex B H) (h1 : Ex B1 H) : Ex (joinB B B1) H := fun a o e => by
  unfold joinB at e
  cases q : B a with
  | none =>
    rw [q] at e
    exact h1 a o e
  | some u =>
    rw [q] at e
    rw [← e]
    exact h a u q
theorem At.join (hB : Ex B B1) (hH : Ex B1 H) (a : At B H B2 H2) : At B1 H (joinB B1 B2) H2 := ⟨join_l, join_le (hH.trans a.keep) a.le, a.keep, fun x u e => by
  unfold joinB at e
  cases q : B1 x with
  | some v =>
    rw [q] at e
    exact .inl e
  | none =>
    rw [q] at e
    rcases a.fr x u e with z | z
    · rw [hB x u z] at q
      cases q
    · exact .inr z⟩
end
/-! ### data -/
def keyD : Key → PyData
  | .inl i => .int i
  | .inr x => .str x
mutual
/-- v stands for the datum d by what B knows; a dict: its keys alone -/
inductive Rp (K : Frg) (B : Hp) : V → PyData → Prop
  | non : Rp K B .non .none
  | bl (b : Bool) : Rp K B (.bl b) (.bool b)
  | int (i : Int) : Rp K B (.int i) (.int i)
  | lst {a : Addr} {xs : List V} {ds : List PyData} : B a = some (.lst xs) → RpAll K B xs ds → Rp K B (.ref a) (.list ds)
  | tup {a : Addr} {xs : List V} {ds : List PyData} : B a = some (.tup xs) → RpAll K B xs ds → Rp K B (.ref a) (.tuple ds)
  | dic {a : Addr} {kvs : List (List Key × V)} {ks : List (PyData × PyData)} : B a = some (.dT kvs) → ks = (kvs.map fun kv => (PyData.tuple (kv.1.map keyD), PyData.bool true)) → Rp K B (.ref a) (.dict ks)
inductive RpAll (K : Frg) (B : Hp) : List V → List PyData → Prop
  | nil : RpAll K B [] []
  | cons {v : V} {vs : List V} {d : PyData} {ds : List PyData} : Rp K B v d → RpAll K B vs ds → RpAll K B (v :: vs) (d :: ds)
end
section
variable {K : Frg} {B B1 H : Hp}
/-- lists, tuples and dicts stand -/
def Still (B B1 : Hp) : Prop := ∀ a o, B a = some o → (∀ C dx fs, o ≠ .ins C dx fs) → B1 a = some o
theorem Still.of (h : Ex B B1) : Still B B1 := fun a o e _ => h a o e
mutual
theorem Rp.still (e : Still B B1) : ∀ {v : V} {d : PyData}, Rp K B v d → Rp K B1 v d
  | _, _, .non => .non
  | _, _, .bl b => .bl b
  | _, _, .int i => .int i
  | _, _, .lst h a => .lst (e _ _ h fun _ _ _ q => by cases q) (RpAll.still e a)
  | _, _, .tup h a => .tup (e _ _ h fun _ _ _ q => by cases q) (RpAll.still e a)
  | _, _, .dic h a => .dic (e _ _ h fun _ _ _ q => by cases q) a
theorem RpAll.still (e : Still B B1) : ∀ {vs : List V} {ds : List PyData}, RpAll K B vs ds → RpAll K B1 vs ds
  | _, _, .nil => .nil
  | _, _, .cons h t => .cons (Rp.still e h) (RpAll.still e t)
end
theorem Rp.mono (e : Ex B B1) {v : V} {d : PyData} (h : Rp K B v d) : Rp K B1 v d := h.still (.of e)
theorem RpAll.mono (e : Ex B B1) {vs : List V} {ds : List PyData} (h : RpAll K B vs ds) : RpAll K B1 vs ds := h.still (.of e)
theorem Rp.isInt {v : V} {i : Int} (h : Rp K B v (.int i)) : v = .int i := by
  cases h
  rfl
theorem Rp.isBl {v : V} {b : Bool} (h : Rp K B v (.bool b)) : v = .bl b := by
  cases h
  rfl
theorem Rp.isNon {v : V} (h : Rp K B v .none) : v = .non := by
  cases h
  rfl
theorem Rp.isLst {v : V} {ds : List PyData} (h : Rp K B v (.list ds)) : ∃ a xs, v = .ref a ∧ B a = some (.lst xs) ∧ RpAll K B xs ds := by
  cases h with
  | lst a b => exact ⟨_, _, rfl, a, b⟩
theorem Rp.isTup {v : V} {ds : List PyData} (h : Rp K B v (.tuple ds)) : ∃ a xs, v = .ref a ∧ B a = some (.tup xs) ∧ RpAll K B xs ds := by
  cases h with
  | tup a b => exact ⟨_, _, rfl, a, b⟩
theorem RpAll.len : ∀ {vs : List V} {ds : List PyData}, RpAll K B vs ds → vs.length = ds.length
  | _, _, .nil => rfl
  | _, _, .cons _ t => by
    show _ + 1 = _ + 1
    rw [RpAll.len t]
theorem RpAll.append : ∀ {vs us : List V} {ds es : List PyData}, RpAll K B vs ds → RpAll K B us es → RpAll K B (vs ++ us) (ds ++ es)
  | _, _, _, _, .nil, h => h
  | _, _, _, _, .cons h t, u => .cons h (RpAll.append t u)
theorem RpAll.one {v : V} {d : PyData} (h : Rp K B v d) : RpAll K B [v] [d] := .cons h .nil
theorem RpAll.get : ∀ {vs : List V} {ds : List PyData} {i : Nat} {d : PyData}, RpAll K B vs ds → ds[i]? = some d → ∃ v, vs[i]? = some v ∧ Rp K B v d
  | _, _, _, _, .nil, e => by cases e
  | _, _, 0, _, .cons h _, e => by
    cases e
    exact ⟨_, rfl, h⟩
  | _, _, i + 1, _, .cons _ t, e => RpAll.get (i := i) t e
theorem RpAll.at_ {vs : List V} {ds : List PyData} {i : Nat} {v : V} (h : RpAll K B vs ds) (e : vs[i]? = some v) : ∃ d, ds[i]? = some d ∧ Rp K B v d := by
  have hi : i < ds.length := by
    rw [← h.len]
    exact (List.getElem?_eq_some_iff.mp e).1
  obtain ⟨u, e1, r⟩ := h.get (List.getElem?_eq_getElem hi)
  rw [e] at e1
  obtain rfl := Option.some.inj e1
  exact ⟨_, List.getElem?_eq_getElem hi, r⟩
theorem RpAll.take : ∀ {vs : List V} {ds : List PyData} (n : Nat), RpAll K B vs ds → RpAll K B (vs.take n) (ds.take n)
  | _, _, 0, _ => .nil
  | _, _, _ + 1, .nil => .nil
  | _, _, n + 1, .cons h t => .cons h (RpAll.take n t)
theorem RpAll.drop : ∀ {vs : List V} {ds : List PyData} (n : Nat), RpAll K B vs ds → RpAll K B (vs.drop n) (ds.drop n)
  | _, _, 0, h => h
  | _, _, _ + 1, .nil => .nil
  | _, _, n + 1, .cons _ t => RpAll.drop n t
theorem RpAll.reverse : ∀ {vs : List V} {ds : List PyData}, RpAll K B vs ds → RpAll K B vs.reverse ds.reverse
  | _, _, .nil => .nil
  | _, _, .cons h t => by
    rw [List.reverse_cons, List.reverse_cons]
    exact (RpAll.reverse t).append (.one h)
theorem RpAll.ints : ∀ (l : List Int), RpAll K B (l.map V.int) (l.map PyData.int)
  | [] => .nil
  | i :: r => .cons (.int i) (RpAll.ints r)
theorem RpAll.isInts : ∀ {l : List Int} {vs : List V}, RpAll K B vs (l.map PyData.int) → vs = l.map V.int
  | [], _, h => by
    cases h
    rfl
  | i :: r, _, h => by
    cases h with
    | cons a t =>
      cases a
      rw [RpAll.isInts t]
      rfl
theorem RpAll.isBls : ∀ {l : List Bool} {vs : List V}, RpAll K B vs (l.map PyData.bool) → vs = l.map V.bl
  | [], _, h => by
    cases h
    rfl
  | i :: r, _, h => by
    cases h with
    | cons a t =>
      cases a
      rw [RpAll.isBls t]
      rfl
mutual
theorem Rp.dp (K : Frg) (B : Hp) : ∀ (d : PyData) (v : V), d.canLay0 = true → Rp K B v d → Dp K B v d
  | .none, _, _, h => by
    cases h
    exact .non
  | .bool b, _, _, h => by
    cases h
    exact .bl b
  | .int i, _, _, h => by
    cases h
    exact .int i
  | .str s, _, _, h => by cases h
  | .list ds, _, c, h => by
    cases h with
    | lst a b => exact .lst (.inl (.inl a)) (RpAll.dp K B ds _ c b)
  | .tuple ds, _, c, h => by
    cases h with
    | tup a b => exact .tup (.inl (.inl a)) (RpAll.dp K B ds _ c b)
  | .dict ks, _, c, h => by cases c
theorem RpAll.dp (K : Frg) (B : Hp) : ∀ (ds : List PyData) (vs : List V), PyData.canLayAll0 ds = true → RpAll K B vs ds → DpAll K B vs ds
  | [], _, _, h => by
    cases h
    exact .nil
  | d :: ds, _, c, h => by
    cases h with
    | cons a t =>
      have c2 : (d.canLay0 && PyData.canLayAll0 ds) = true := c
      rw [Bool.and_eq_true] at c2
      exact .cons (Rp.dp K B d _ c2.1 a) (RpAll.dp K B ds _ c2.2 t)
end
end
end Mw
end
section
set_option Elab.async false
set_option linter.all false
set_option maxRecDepth 100000
set_option maxHeartbeats 4000000
/-! # What a reading gives (Gv), its arguments (GA), promises by data (spD) -/
namespace Mw
open PySem PySem.Spec PyProof.Rows L2 Evl
def Gv (K : Frg) (te : TE) (σ : L2.St) (B : Hp) (d : PyData) : Prop := ∀ H, Ex B H → ∀ Q : VK, (∀ v B' H', At B H B' H' → Rp K B' v d → Q v H') → te σ H Q
def GA (K : Frg) (ta : TA) (σ : L2.St) (B : Hp) (ds : List PyData) : Prop := ∀ H, Ex B H → ∀ Q : List V → Hp → Prop, (∀ vs B' H', At B H B' H' → RpAll K B' vs ds → Q vs H') → ta σ H Q
/-- a promise by data: from arguments that stand for ds (F ds d) a value that stands for d -/
def spD (K : Frg) (F : List PyData → PyData → Prop) : Sp := fun vs H Q _ => ∃ B ds d, Ex B H ∧ RpAll K B vs ds ∧ F ds d ∧ ∀ v B' H', At B H B' H' → Rp K B' v d → Q v H'
section
variable {K : Frg} {σ : L2.St} {B B1 H : Hp} {ta tb te tl tx : TE} {d e : PyData} {v : V}
theorem Gv.mono (e : Ex B B1) (h : Gv K te σ B d) : Gv K te σ B1 d := fun H le Q q => h H (e.trans le) Q fun v B' H' a r => q v (joinB B1 B') H' (a.join e le) (r.mono (join_r (le.trans a.keep) a.le))
theorem GA.mono {ta : TA} {ds : List PyData} (e : Ex B B1) (h : GA K ta σ B ds) : GA K ta σ B1 ds := fun H le Q q => h H (e.trans le) Q fun v B' H' a r => q v (joinB B1 B') H' (a.join e le) (r.mono (join_r (le.trans a.keep) a.le))
/-- scalars -/
theorem Gv.of (h : Ev te σ B v) (hr : ∀ B1, Rp K B1 v d) : Gv K te σ B d := fun H le Q q => h H le Q fun H2 e2 => q v B H2 (.up le e2) (hr B)
theorem Gv.int {i : Int} (h : Ev te σ B (.int i)) : Gv K te σ B (.int i) := .of h fun _ => .int i
theorem Gv.bl {b : Bool} (h : Ev te σ B (.bl b)) : Gv K te σ B (.bool b) := .of h fun _ => .bl b
theorem Gv.non (h : Ev te σ B .non) : Gv K te σ B .none := .of h fun _ => .non
theorem Gv.toInt {i : Int} (h : Gv K te σ B (.int i)) : Ev te σ B (.int i) := fun H le Q q => h H le Q fun v B' H' a r => by
  rw [r.isInt]
  exact q H' a.keep
theorem Gv.toBl {b : Bool} (h : Gv K te σ B (.bool b)) : Ev te σ B (.bl b) := fun H le Q q => h H le Q fun v B' H' a r => by
  rw [r.isBl]
  exact q H' a.keep
theorem Gv.toNon (h : Gv K te σ B .none) : Ev te σ B .non := fun H le Q q => h H le Q fun v B' H' a r => by
  rw [r.isNon]
  exact q H' a.keep
theorem gv_var {i : Nat} (h : σ[i]? = some (some v)) (r : Rp K B v d) : Gv K (tVar i) σ B d := fun H le Q q => ⟨v, h, q v B H (.refl le) r⟩
theorem Gv.is (h : Gv K te σ B d) (q : d = e) : Gv K te σ B e := by
  rw [← q]
  exact h
theorem ga_nil : GA K tNil σ B [] := fun H le Q q => q [] B H (.refl le) .nil
theorem ga_cons {tr : TA} {ds : List PyData} (h : Gv K te σ B d) (hr : GA K tr σ B ds) : GA K (tCons te tr) σ B (d :: ds) := fun H le Q q =>
  h H le _ fun v B1 H1 a1 r1 => (hr.mono a1.base) H1 a1.le _ fun vs B2 H2 a2 r2 => q _ B2 H2 (a1.trans a2) (.cons (r1.mono a2.base) r2)
theorem ga_int {tr : TA} {ds : List PyData} {i : Int} (h : Ev te σ B (.int i)) (hr : GA K tr σ B ds) : GA K (tCons te tr) σ B (.int i :: ds) := ga_cons (.int h) hr
theorem GA.ints {ta : TA} {l : List Int} (h : GA K ta σ B (l.map PyData.int)) : EvA ta σ B (l.map V.int) := fun H le Q q => h H le Q fun vs B' H' a r => by
  rw [r.isInts]
  exact q H' a.keep
/-- a call of a def by its promise -/
theorem gv_call {F : List PyData → PyData → Prop} {E : XK} {ta : TA} {ds : List PyData} (h : GA K ta σ B ds) (hF : F ds d) : Gv K (tCall (spD K F) [] E ta) σ B d := fun H le Q q =>
  h H le _ fun vs B1 H1 a1 r1 => by
    rw [List.append_nil]
    exact ⟨B1, ds, d, a1.le, r1, hF, fun v B2 H2 a2 r2 => q v B2 H2 (a1.trans a2) r2⟩
theorem gv_callI {F : List PyData → PyData → Prop} {E : XK} {ta : TA} {ds : List PyData} {i : Int} (h : GA K ta σ B ds) (hF : F ds (.int i)) : Ev (tCall (spD K F) [] E ta) σ B (.int i) := (gv_call h hF).toInt
theorem gv_callB {F : List PyData → PyData → Prop} {E : XK} {ta : TA} {ds : List PyData} {b : Bool} (h : GA K ta σ B ds) (hF : F ds (.bool b)) : Ev (tCall (spD K F) [] E ta) σ B (.bl b) := (gv_call h hF).toBl
/-! ### items -/
theorem gv_ixL {ds : List PyData} {i : Int} (h : Gv K tl σ B (.list ds)) (hi : Ev te σ B (.int i)) (ha : ∀ vs : List V, vs.length = ds.length → ∃ j : Nat, atI vs i = vs[j]? ∧ ds[j]? = some d) : Gv K (tOp (rIxL K) tl te) σ B d := fun H le Q q =>
  h H le _ fun v B1 H1 a1 r1 => hi H1 (a1.base.trans a1.le) _ fun H2 e2 => by
    obtain ⟨a, xs, rfl, hs, ra⟩ := r1.isLst
    obtain ⟨j, e3, e4⟩ := ha xs ra.len
    obtain ⟨x, e5, r5⟩ := ra.get e4
    exact ⟨a, xs, i, x, rfl, rfl, sq_of ((a1.le.trans e2) a _ hs), e3.trans e5, q x B1 H2 ⟨a1.base, a1.le.trans e2, a1.keep.trans e2, a1.fr⟩ r5⟩
theorem gv_ixT {ds : List PyData} {i : Int} (h : Gv K tl σ B (.tuple ds)) (hi : Ev te σ B (.int i)) (ha : ∀ vs : List V, vs.length = ds.length → ∃ j : Nat, atI vs i = vs[j]? ∧ ds[j]? = some d) : Gv K (tOp (rIxT K) tl te) σ B d := fun H le Q q =>
  h H le _ fun v B1 H1 a1 r1 => hi H1 (a1.base.trans a1.le) _ fun H2 e2 => by
    obtain ⟨a, xs, rfl, hs, ra⟩ := r1.isTup
    obtain ⟨j, e3, e4⟩ := ha xs ra.len
    obtain ⟨x, e5, r5⟩ := ra.get e4
    exact ⟨a, xs, i, x, rfl, rfl, st_of ((a1.le.trans e2) a _ hs), e3.trans e5, q x B1 H2 ⟨a1.base, a1.le.trans e2, a1.keep.trans e2, a1.fr⟩ r5⟩
theorem ix_nat {ds : List PyData} {j : Nat} (h : ds[j]? = some d) : ∀ vs : List V, vs.length = ds.length → ∃ m : Nat, atI vs (j : Int) = vs[m]? ∧ ds[m]? = some d := fun vs hl => by
  have hj : j < vs.length := by
    rw [hl]
    exact (List.getElem?_eq_some_iff.mp h).1
  exact ⟨j, by rw [atI_nat (List.getElem?_eq_getElem hj), List.getElem?_eq_getElem hj], h⟩
/-! ### displays -/
theorem gv_lst {ta : TA} {ds : List PyData} (h : GA K ta σ B ds) (hl : ds.length ≤ 100000) : Gv K (tLst ta) σ B (.list ds) := fun H le Q q =>
  h H le _ fun vs B1 H1 a1 r1 => ⟨sz_of (by rw [r1.len]; exact hl), fun p hp => q _ _ _ (a1.trans (At.new a1.le hp)) (.lst upd_same (r1.mono (Ex.new (fresh_back a1.le hp))))⟩
theorem gv_tup {ta : TA} {ds : List PyData} (h : GA K ta σ B ds) (hl : ds.length ≤ 100000) : Gv K (tTup ta) σ B (.tuple ds) := fun H le Q q =>
  h H le _ fun vs B1 H1 a1 r1 => ⟨sz_of (by rw [r1.len]; exact hl), fun p hp => q _ _ _ (a1.trans (At.new a1.le hp)) (.tup upd_same (r1.mono (Ex.new (fresh_back a1.le hp))))⟩
/-- l + m, lists -/
theorem gv_cat {ds es : List PyData} (ha : Gv K ta σ B (.list ds)) (hb : Gv K tb σ B (.list es)) (hl : ds.length + es.length ≤ 100000) : Gv K (tOp rCat ta tb) σ B (.list (ds ++ es)) := fun H le Q q =>
  ha H le _ fun v B1 H1 a1 r1 => (hb.mono a1.base) H1 a1.le _ fun u B2 H2 a2 r2 => by
    obtain ⟨a, xs, rfl, hs, ra⟩ := r1.isLst
    obtain ⟨b, ys, rfl, hy, rb⟩ := r2.isLst
    have ra2 := ra.mono a2.base
    exact ⟨a, b, xs, ys, rfl, rfl, a2.keep a _ (a1.le a _ hs), a2.le b _ hy, sz_of (by rw [ra.len, rb.len]; exact hl), fun p hp => q _ _ _ ((a1.trans a2).trans (At.new a2.le hp)) (.lst upd_same (RpAll.mono (Ex.new (fresh_back a2.le hp)) (ra2.append rb)))⟩
theorem sIx_nat (n d k : Nat) (h : k ≤ n) : HT.sIx n d (some (k : Int)) = k := by
  rw [HT.sIx_nat]
  omega
/-- l[lo:hi] -/
theorem gv_sl {ds : List PyData} {tlo thi : TO} {lo hi : Option Int} {i j : Nat} (h : Gv K te σ B (.list ds)) (hl : EvO tlo σ B lo) (hh : EvO thi σ B hi) (e1 : HT.sIx ds.length 0 lo = i) (e2 : HT.sIx ds.length ds.length hi = j) :
    Gv K (tSl (rSlL K) te tlo thi) σ B (.list ((ds.drop i).take (j - i))) := fun H le Q q =>
  h H le _ fun v B1 H1 a1 r1 => hl H1 (a1.base.trans a1.le) _ fun H2 e3 => hh H2 ((a1.base.trans a1.le).trans e3) _ fun H3 e4 => by
    obtain ⟨a, xs, rfl, hs, ra⟩ := r1.isLst
    have a3 : At B H B1 H3 := ⟨a1.base, (a1.le.trans e3).trans e4, (a1.keep.trans e3).trans e4, a1.fr⟩
    refine ⟨a, xs, rfl, sq_of (a3.le a _ hs), fun p hp => q _ _ _ (a3.trans (At.new a3.le hp)) (.lst upd_same ?_)⟩
    unfold cutV
    rw [ra.len, e1, e2]
    exact RpAll.mono (Ex.new (fresh_back a3.le hp)) ((ra.drop i).take (j - i))
/-- a new list whose items are known -/
theorem Gv.ofL {xs : List V} {ds : List PyData} (h : EvL te σ B xs) (r : RpAll K B xs ds) : Gv K te σ B (.list ds) := fun H le Q q =>
  h H le _ fun p H2 hp e2 h2 => by
    have hB : B p = none := fresh_back le hp
    exact q _ (upd B p (.lst xs)) H2 ((At.up le e2).freeze hB hp h2) (.lst upd_same (r.mono (Ex.new hB)))
/-! ### statements -/
variable {D : Ends} {tu tw tz : TS}
/-- x = e, then the rest: from (B, H) -/
theorem qd_asg {i : Nat} (le : Ex B H) (h : Gv K te σ B d) (k : ∀ v B' H', At B H B' H' → Rp K B' v d → tz D (σ.set i (some v)) H') : tSeq (tAsg te (gName i)) tz D σ H := h H le _ k
theorem qd_ret (le : Ex B H) (h : Gv K te σ B d) (k : ∀ v B' H', At B H B' H' → Rp K B' v d → D.rt v H') : tRet te D σ H := h H le _ k
end
end Mw
end
section
set_option Elab.async false
set_option linter.all false
set_option maxRecDepth 100000
set_option maxHeartbeats 4000000
/-! # Comprehensions, told by data -/
namespace Mw
open PySem PySem.Spec PyProof.Rows L2 Evl
def gvn {α : Type} (n : Nat) (f : Nat → Bool) (v : Nat → α) : List α := ((List.range n).filter f).map v
section
variable {α : Type} {n : Nat} {f : Nat → Bool} {v : Nat → α}
theorem gvn_yes (h : f n = true) : gvn (n + 1) f v = gvn n f v ++ [v n] := by
  unfold gvn
  rw [List.range_succ, List.filter_append, List.map_append, List.filter_cons, if_pos h] <;> rfl
theorem gvn_no (h : f n = false) : gvn (n + 1) f v = gvn n f v := by
  unfold gvn
  rw [List.range_succ, List.filter_append, List.map_append, List.filter_cons, if_neg (by rw [h]; decide)]
  show _ ++ [] = _
  rw [List.append_nil]
theorem gvn_len (n : Nat) (f : Nat → Bool) (v : Nat → α) : (gvn n f v).length ≤ n := by
  unfold gvn
  rw [List.length_map]
  have h := List.length_filter_le f (List.range n)
  rw [List.length_range] at h
  exact h
theorem gvn_all (n : Nat) (v : Nat → α) : gvn n (fun _ => true) v = (List.range n).map v := by
  unfold gvn
  rw [List.filter_eq_self.mpr fun _ _ => rfl]
end
section
variable {K : Frg} {σ : L2.St} {B B1 H H1 : Hp} {te tl : TE} {t : TT} {g : TG} {vs : List Nat} {d : PyData}
/-- one turn of a comprehension: the target takes x, the test gives b, the element d -/
def TurnOk (K : Frg) (g : TG) (t : TT) (te : TE) (σ : L2.St) (vs : List Nat) (x : V) (B : Hp) (b : Bool) (d : PyData) : Prop :=
  ∀ H, Ex B H → ∀ Q : L2.St → Hp → Prop, (∀ σ2 B2 H2, At B H B2 H2 → wipe σ2 vs = wipe σ vs → EvT t σ2 B2 b → (b = true → Gv K te σ2 B2 d) → Q σ2 H2) → g x (wipe σ vs) H Q
theorem turn_name {j : Nat} {x : V} {b : Bool} (hw : ∀ x, wipe ((wipe σ vs).set j (some x)) vs = wipe σ vs) (ht : EvT t ((wipe σ vs).set j (some x)) B b) (he : b = true → Gv K te ((wipe σ vs).set j (some x)) B d) :
    TurnOk K (gName j) t te σ vs x B b d := fun H le Q q => q _ B H (.refl le) (hw x) ht he
/-- a tuple of two into two names -/
theorem turn_two {i j : Nat} {x : V} {b : Bool} {d1 d2 : PyData} (hx : Rp K B x (.tuple [d1, d2])) (hw : ∀ x y, wipe (((wipe σ vs).set i (some x)).set j (some y)) vs = wipe σ vs)
    (k : ∀ x1 x2, Rp K B x1 d1 → Rp K B x2 d2 → EvT t (((wipe σ vs).set i (some x1)).set j (some x2)) B b ∧ (b = true → Gv K te (((wipe σ vs).set i (some x1)).set j (some x2)) B d)) :
    TurnOk K (gTup K 2 (gCons (gName i) (gCons (gName j) gNil))) t te σ vs x B b d := fun H le Q q => by
  obtain ⟨a, xs, rfl, ha, r⟩ := hx.isTup
  cases r with
  | cons r1 rr =>
    cases rr with
    | cons r2 rr =>
      cases rr
      exact ⟨a, _, rfl, st_of (le a _ ha), rfl, _, _, rfl, _, _, rfl, rfl, q _ B H (.refl le) (hw _ _) (k _ _ r1 r2).1 (k _ _ r1 r2).2⟩
/-- behind i turns: a base Bi beside the list at Dl, whose items are the given ones -/
def Cw (K : Frg) (B H1 : Hp) (f : Nat → Bool) (dd : Nat → PyData) (Dl : Addr) (i : Nat) (H' : Hp) : Prop := ∃ Bi acc, At B H1 Bi H' ∧ Bi Dl = none ∧ H' Dl = some (.lst acc) ∧ RpAll K Bi acc (gvn i f dd)
theorem Cw.start {f : Nat → Bool} {dd : Nat → PyData} {Dl : Addr} (le : Ex B H1) (hD : H1 Dl = none) : Cw K B H1 f dd Dl 0 (upd H1 Dl (.lst [])) :=
  ⟨B, [], .aside le hD, fresh_back le hD, upd_same, .nil⟩
theorem lst_tup {xs : List V} : ∀ ys : List V, HO.lst xs ≠ .tup ys := fun _ q => by cases q
theorem Cw.turnAt {f : Nat → Bool} {dd : Nat → PyData} {Dl : Addr} {i : Nat} {H' Bi : Hp} {acc : List V} {x : V} (hD : H1 Dl = none) (hi : i < 50000) (a : At B H1 Bi H') (nD : Bi Dl = none) (hl : H' Dl = some (.lst acc)) (r : RpAll K Bi acc (gvn i f dd))
    (ht : TurnOk K g t te σ vs x Bi (f i) (dd i)) :
    g x (wipe σ vs) H' fun σ2 H2 => wipe σ2 vs = wipe σ vs ∧ t σ2 H2 fun b H3 => if b = true then te σ2 H3 fun y H4 => ∃ acc, H4 Dl = some (.lst acc) ∧ acc.length < sizeLine ∧ Cw K B H1 f dd Dl (i + 1) (upd H4 Dl (.lst (acc ++ [y]))) else Cw K B H1 f dd Dl (i + 1) H3 := by
  have hlen : acc.length < sizeLine := sz_lt (by have := gvn_len i f dd; rw [r.len]; omega)
  refine ht H' a.le _ fun σ2 B2 H2 a2 w et ev => ⟨w, et H2 a2.le _ fun H3 e3 => ?_⟩
  have a3 : At Bi H' B2 H3 := ⟨a2.base, a2.le.trans e3, a2.keep.trans e3, a2.fr⟩
  cases hf : f i with
  | true =>
    show te σ2 H3 fun y H4 => ∃ acc, H4 Dl = some (.lst acc) ∧ acc.length < sizeLine ∧ Cw K B H1 f dd Dl (i + 1) (upd H4 Dl (.lst (acc ++ [y])))
    refine ev hf H3 a3.le _ fun y B4 H4 a4 ry => ?_
    have a5 : At Bi H' B4 H4 := a3.trans a4
    have a6 : At B H1 B4 H4 := a.trans a5
    have n4 : B4 Dl = none := a5.off nD hl lst_tup
    refine ⟨acc, a5.keep Dl _ hl, hlen, B4, acc ++ [y], a6.mut n4 hD, n4, upd_same, ?_⟩
    rw [gvn_yes hf]
    exact (r.mono a5.base).append (.one ry)
  | false =>
    show Cw K B H1 f dd Dl (i + 1) H3
    refine ⟨B2, acc, a.trans a3, a3.off nD hl lst_tup, a3.keep Dl _ hl, ?_⟩
    rw [gvn_no hf]
    exact r.mono a3.base
theorem Cw.turn {f : Nat → Bool} {dd : Nat → PyData} {Dl : Addr} {i : Nat} {H' : Hp} {x : V} (hD : H1 Dl = none) (hi : i < 50000) (p : Cw K B H1 f dd Dl i H')
    (ht : ∀ Bi, At B H1 Bi H' → TurnOk K g t te σ vs x Bi (f i) (dd i)) :
    g x (wipe σ vs) H' fun σ2 H2 => wipe σ2 vs = wipe σ vs ∧ t σ2 H2 fun b H3 => if b = true then te σ2 H3 fun y H4 => ∃ acc, H4 Dl = some (.lst acc) ∧ acc.length < sizeLine ∧ Cw K B H1 f dd Dl (i + 1) (upd H4 Dl (.lst (acc ++ [y]))) else Cw K B H1 f dd Dl (i + 1) H3 := by
  obtain ⟨Bi, acc, a, nD, hl, r⟩ := p
  exact Cw.turnAt hD hi a nD hl r (ht Bi a)
theorem Cw.done {f : Nat → Bool} {dd : Nat → PyData} {Dl : Addr} {n : Nat} {H' : Hp} {Q : VK} (hD : H1 Dl = none) (p : Cw K B H1 f dd Dl n H') (q : ∀ v B' H', At B H1 B' H' → Rp K B' v (.list (gvn n f dd)) → Q v H') : Q (.ref Dl) H' := by
  obtain ⟨Bi, acc, a, nD, hl, r⟩ := p
  exact q _ _ _ (a.freeze nD hD hl) (.lst upd_same (r.mono (Ex.new nD)))
/-- [.. for x in range(n) ..] -/
theorem gv_lcR {ta : TA} {n : Nat} (f : Nat → Bool) (dd : Nat → PyData) (h : EvA ta σ B [.int (n : Int)]) (hn : n ≤ 40000)
    (ht : ∀ (i : Nat) B1, Ex B B1 → i < n → TurnOk K g t te σ vs (.int (i : Int)) B1 (f i) (dd i)) : Gv K (tLc (iRng1 ta) g t te vs) σ B (.list (gvn n f dd)) := fun H le Q q =>
  h H le _ fun H1 e1 => ⟨n, rfl, by omega, by omega, fun Dl hD => lc_range (lo := 0) (n := (n : Int).toNat) (Cw K B H1 f dd Dl) (Cw.start (le.trans e1) hD) (fun i H' hi p => by
    have e0 : (0 : Int) + (i : Int) = (i : Int) := Int.zero_add _
    rw [e0]
    have hi2 : i < n := by omega
    exact p.turn hD (by omega) fun Bi a => ht i Bi a.base hi2) fun H' p => by
    rw [Int.toNat_natCast] at p
    exact p.done hD fun v B' H' a r => q v B' H' ((At.up le e1).trans a) r⟩
/-- [.. for x in range(lo, hi) ..], n turns -/
theorem gv_lcR2 {ta : TA} {lo n : Nat} (f : Nat → Bool) (dd : Nat → PyData) {hi : Nat} (h : EvA ta σ B [.int (lo : Int), .int (hi : Int)]) (hh : hi - lo = n) (hn : lo ≤ 40000 ∧ hi ≤ 40000)
    (ht : ∀ (i : Nat) B1, Ex B B1 → i < n → TurnOk K g t te σ vs (.int ((lo + i : Nat) : Int)) B1 (f i) (dd i)) : Gv K (tLc (iRng2 ta) g t te vs) σ B (.list (gvn n f dd)) := fun H le Q q =>
  h H le _ fun H1 e1 => ⟨lo, hi, rfl, ⟨by omega, by omega, by omega, by omega⟩, fun Dl hD => lc_range (lo := (lo : Int)) (n := ((hi : Int) - (lo : Int)).toNat) (Cw K B H1 f dd Dl) (Cw.start (le.trans e1) hD) (fun i H' hi p => by
    have e0 : (lo : Int) + (i : Int) = ((lo + i : Nat) : Int) := by omega
    rw [e0]
    have hi2 : i < n := by omega
    exact p.turn hD (by omega) fun Bi a => ht i Bi a.base hi2) fun H' p => by
    rw [show ((hi : Int) - (lo : Int)).toNat = n by omega] at p
    exact p.done hD fun v B' H' a r => q v B' H' ((At.up le e1).trans a) r⟩
/-- [.. for x in l ..] -/
theorem gv_lcL {ds : List PyData} (f : Nat → Bool) (dd : Nat → PyData) (h : Gv K tl σ B (.list ds)) (hn : ds.length ≤ 40000)
    (ht : ∀ (i : Nat) (x : V) (d : PyData) B1, Ex B B1 → ds[i]? = some d → Rp K B1 x d → TurnOk K g t te σ vs x B1 (f i) (dd i)) : Gv K (tLc (iList K tl) g t te vs) σ B (.list (gvn ds.length f dd)) := fun H le Q q =>
  h H le _ fun v B1 H1 a1 r1 => by
    obtain ⟨a, xs, rfl, hs, ra⟩ := r1.isLst
    refine ⟨a, rfl, ⟨xs, sq_of (a1.le _ _ hs)⟩, fun Dl hD => lc_list (xs := xs) (Cw K B1 H1 f dd Dl) (Cw.start a1.le hD) (fun i H' _ p => by
      obtain ⟨Bi, acc, b, _⟩ := p
      exact sq_of ((b.base.trans b.le) _ _ hs)) (fun i x H' hi p => ?_) fun H' p => ?_⟩
    · obtain ⟨d, e1, rx⟩ := ra.at_ hi
      have hlt := (List.getElem?_eq_some_iff.mp e1).1
      exact p.turn hD (by omega) fun Bi b => ht i x d Bi (a1.base.trans b.base) e1 (rx.mono b.base)
    · rw [ra.len] at p
      exact p.done hD fun v B' H' b r => q v B' H' (a1.trans b) r
/-- [.. for x in t ..], t a tuple -/
theorem gv_lcT {ds : List PyData} (f : Nat → Bool) (dd : Nat → PyData) (h : Gv K tl σ B (.tuple ds)) (hn : ds.length ≤ 40000)
    (ht : ∀ (i : Nat) (x : V) (d : PyData) B1, Ex B B1 → ds[i]? = some d → Rp K B1 x d → TurnOk K g t te σ vs x B1 (f i) (dd i)) : Gv K (tLc (iTup K tl) g t te vs) σ B (.list (gvn ds.length f dd)) := fun H le Q q =>
  h H le _ fun v B1 H1 a1 r1 => by
    obtain ⟨a, xs, rfl, hs, ra⟩ := r1.isTup
    refine ⟨a, rfl, ⟨xs, st_of (a1.le _ _ hs)⟩, fun Dl hD => lc_tup (xs := xs) (Cw K B1 H1 f dd Dl) (Cw.start a1.le hD) (fun i H' _ p => by
      obtain ⟨Bi, acc, b, _⟩ := p
      exact st_of ((b.base.trans b.le) _ _ hs)) (fun i x H' hi p => ?_) fun H' p => ?_⟩
    · obtain ⟨d, e1, rx⟩ := ra.at_ hi
      have hlt := (List.getElem?_eq_some_iff.mp e1).1
      exact p.turn hD (by omega) fun Bi b => ht i x d Bi (a1.base.trans b.base) e1 (rx.mono b.base)
    · rw [ra.len] at p
      exact p.done hD fun v B' H' b r => q v B' H' (a1.trans b) r
/-! ### built-ins over data -/
theorem ev_sumL {ta : TA} {l : List Int} (h : GA K ta σ B [.list (l.map .int)]) : Ev (tCB (rSum K) ta) σ B (.int l.sum) := fun H le Q q =>
  h H le _ fun vs B1 H1 a1 r1 => by
    cases r1 with
    | cons r rr =>
      cases rr
      obtain ⟨a, xs, rfl, hs, ra⟩ := r.isLst
      obtain rfl := ra.isInts
      exact ⟨a, l, rfl, sq_of (a1.le _ _ hs), q H1 a1.keep⟩
theorem ev_allL {ta : TA} {l : List Bool} (h : GA K ta σ B [.list (l.map .bool)]) : Ev (tCB (rAll K) ta) σ B (.bl (l.all id)) := fun H le Q q =>
  h H le _ fun vs B1 H1 a1 r1 => by
    cases r1 with
    | cons r rr =>
      cases rr
      obtain ⟨a, xs, rfl, hs, ra⟩ := r.isLst
      obtain rfl := ra.isBls
      exact ⟨a, l, rfl, sq_of (a1.le _ _ hs), q H1 a1.keep⟩
/-- min: m, where every least one is m -/
theorem ev_minL {ta : TA} {l : List Int} (h : GA K ta σ B [.list (l.map .int)]) (hl : 0 < l.length) {m : Int} (hm : ∀ k, k ∈ l → (∀ y, y ∈ l → k ≤ y) → k = m) : Ev (tCB (rMin K) ta) σ B (.int m) := fun H le Q q =>
  h H le _ fun vs B1 H1 a1 r1 => by
    cases r1 with
    | cons r rr =>
      cases rr
      obtain ⟨a, xs, rfl, hs, ra⟩ := r.isLst
      obtain rfl := ra.isInts
      refine ⟨a, l, rfl, sq_of (a1.le _ _ hs), hl, fun k hk hy => ?_⟩
      rw [hm k hk hy]
      exact q H1 a1.keep
def rLenD (K : Frg) : List V → Hp → VK → Prop := fun xs H Q => ∃ p ys, xs = [.ref p] ∧ (SqL K H p ys ∨ SqT K H p ys) ∧ Q (.int ys.length) H
theorem ev_lenL {ta : TA} {ds : List PyData} (h : GA K ta σ B [.list ds]) : Ev (tCB (rLenD K) ta) σ B (.int (ds.length : Int)) := fun H le Q q =>
  h H le _ fun vs B1 H1 a1 r1 => by
    cases r1 with
    | cons r rr =>
      cases rr
      obtain ⟨a, xs, rfl, hs, ra⟩ := r.isLst
      refine ⟨a, xs, rfl, .inl (sq_of (a1.le _ _ hs)), ?_⟩
      rw [ra.len]
      exact q H1 a1.keep
/-- tuple(l) -/
def rTupleD (K : Frg) : List V → Hp → VK → Prop := fun xs H Q => ∃ p ys, xs = [.ref p] ∧ ((SqL K H p ys ∧ ∀ l, H l = none → Q (.ref l) (upd H l (.tup ys))) ∨ (SqT K H p ys ∧ Q (.ref p) H))
theorem gv_tupleL {ta : TA} {ds : List PyData} (h : GA K ta σ B [.list ds]) : Gv K (tCB (rTupleD K) ta) σ B (.tuple ds) := fun H le Q q =>
  h H le _ fun vs B1 H1 a1 r1 => by
    cases r1 with
    | cons r rr =>
      cases rr
      obtain ⟨a, xs, rfl, hs, ra⟩ := r.isLst
      exact ⟨a, xs, rfl, .inl ⟨sq_of (a1.le _ _ hs), fun p hp => q _ _ _ (a1.trans (At.new a1.le hp)) (.tup upd_same (ra.mono (Ex.new (fresh_back a1.le hp))))⟩⟩
/-- list(l) -/
def rListOf (K : Frg) : List V → Hp → VK → Prop := fun xs H Q => ∃ p ys, xs = [.ref p] ∧ (SqL K H p ys ∨ SqT K H p ys) ∧ ∀ l, H l = none → Q (.ref l) (upd H l (.lst ys))
theorem gv_listL {ta : TA} {ds : List PyData} (h : GA K ta σ B [.list ds]) : Gv K (tCB (rListOf K) ta) σ B (.list ds) := fun H le Q q =>
  h H le _ fun vs B1 H1 a1 r1 => by
    cases r1 with
    | cons r rr =>
      cases rr
      obtain ⟨a, xs, rfl, hs, ra⟩ := r.isLst
      exact ⟨a, xs, rfl, .inl (sq_of (a1.le _ _ hs)), fun p hp => q _ _ _ (a1.trans (At.new a1.le hp)) (.lst upd_same (ra.mono (Ex.new (fresh_back a1.le hp))))⟩
/-- int(b) -/
def rInt1 : List V → Hp → VK → Prop := fun xs H Q => (∃ i, xs = [.int i] ∧ Q (.int i) H) ∨ ∃ k, xs = [.bl k] ∧ Q (.int (if k then 1 else 0)) H
theorem ev_intB {ta : TA} {b : Bool} (h : EvA ta σ B [.bl b]) : Ev (tCB rInt1 ta) σ B (.int (if b then 1 else 0)) := fun H le Q q => h H le _ fun H1 e1 => .inr ⟨b, rfl, q H1 e1⟩
end
end Mw
end
section
set_option Elab.async false
set_option linter.all false
set_option maxRecDepth 100000
set_option maxHeartbeats 4000000
/-! # The text's defs as they stand: Txt, Has -/
namespace Mw
open PySem PySem.Spec PyProof.Rows L2 Evl
open MwH (fn fa)
/-- what the top has left, for the walks -/
structure Txt (K : Frg) (mg : Str → Option Value) : Prop where
  says : MwH.SaysE K
  ns : ∃ h : Heap, K.In h ∧ h.Ns mainGlobals mg
section
variable {P : Program} {w : World} {K : Frg} {mg : Str → Option Value} {base : Heap}
theorem Txt.fact (T : Txt K mg) (i : Nat) {f : He.Fa} (h : fa[i]? = some f) : f.ok K = true := T.says.1.fact i h
theorem Txt.glo (T : Txt K mg) (i : Nat) {x : Str} (h : fa[i]? = some (.glo x)) : mg x = some (.ref (He.ga K x)) := by
  obtain ⟨h0, X, G⟩ := T.ns
  exact He.glo_ok X G (T.fact i h)
theorem Txt.free (T : Txt K mg) (i : Nat) {x : Str} (h : fa[i]? = some (.free x)) : mg x = none := by
  obtain ⟨h0, X, G⟩ := T.ns
  exact He.free_ok X G (T.fact i h)
theorem Txt.int (T : Txt K mg) (i : Nat) {x : Str} {z : Int} (h : fa[i]? = some (.int x z)) : ∃ t, mg x = some (.int z t) := by
  obtain ⟨h0, X, G⟩ := T.ns
  exact He.int_ok X G (T.fact i h)
theorem Txt.def_ (T : Txt K mg) (i : Nat) {x : Str} {d : He.DefD} (h1 : fn[i]? = some d) (h2 : fa[i]? = some (.glo x)) (ha : d.at_ = (x, none)) (hd : d.dfl = []) (hk : d.kwd = []) :
    ∃ f fd, mg x = some (.ref f) ∧ FunD K d.name d.qual d.params d.body d.scope [] [] f fd := by
  obtain ⟨fd, F⟩ := T.says.1.def_ i h1
  have e1 : d.dvs K = [] := by
    unfold He.DefD.dvs
    rw [hd]
    rfl
  have e2 : d.kws K = [] := by
    unfold He.DefD.kws
    rw [hk]
    rfl
  have e3 : He.fAd K d.at_ = He.ga K x := by
    rw [ha]
    rfl
  rw [e1, e2, e3] at F
  exact ⟨_, fd, T.glo i h2, F⟩
/-- a def of the text keeps its promise -/
def Has (P : Program) (w : World) (K : Frg) (mg : Str → Option Value) (base : Heap) (k : Nat) (x : Str) (ps : List Str) (sp : Sp) : Prop :=
  ∃ f fd, mg x = some (.ref f) ∧ PySem.W.keepIn K (.ref f) = true ∧ Binds K fd ps [] ∧ FnOk P w K mg base CX0 k f fd ps sp
theorem RpAll.len_of {B : Hp} {vs : List V} {ds : List PyData} (r : RpAll K B vs ds) {n : Nat} (h : ds.length = n) : vs.length = n := r.len.trans h
theorem has_def (T : Txt K mg) {x : Str} {d : He.DefD} {N ps : List Str} {k : Nat} {F : List PyData → PyData → Prop} (i : Nat) (h1 : fn[i]? = some d) (h2 : fa[i]? = some (.glo x)) (ha : d.at_ = (x, none)) (hd : d.dfl = []) (hk : d.kwd = []) (S : FnScope N ps d.scope)
    (hb : ∀ (kV doc pm : Value) (an : Option Addr) (cdv ct : Value) (us : List Value), us.length = ps.length → bindArgs (PySem.W.fnOf d.name d.qual d.params d.body d.scope .none kV doc pm an cdv ct) ⟨us, []⟩ = pure (ps.zip us))
    (hlen : ∀ ds d, F ds d → ds.length = ps.length)
    (hbody : ∀ (f : Addr) (cdv : Value) (A : Around) (outer : List Env) (s : Shared) (H : Hp) (E : XK), Room k (A.deeper (envOfC d.qual d.scope s.heap.objs.size f cdv)) → ∀ (vs : List V) (B : Hp) (ds : List PyData) (dd : PyData) (Q : VK), Ex B H → RpAll K B vs ds → F ds dd → (∀ v B' H', At B H B' H' → Rp K B' v dd → Q v H') →
      ∃ t, PSs (cxOf CX0 P w K mg base N d.qual d.scope f cdv A outer s H E).nox d.body t ∧ t { nx := fun _ H' => Q .non H', rt := Q } (start N vs) H) : Has P w K mg base (k + 1) x ps (spD K F) := by
  obtain ⟨f, fd, gm, FF⟩ := T.def_ i h1 h2 ha hd hk
  refine ⟨f, fd, gm, FF.kp, FF.bindsN hb, FF.ok S (fun vs H Q E h => ?_) fun cdv A outer s H vs Q E hr h => ?_⟩
  · obtain ⟨B, ds, dd, _, r, hF, _⟩ := h
    exact r.len_of (hlen ds dd hF)
  · obtain ⟨B, ds, dd, le, r, hF, q⟩ := h
    obtain ⟨t, h3, h4⟩ := hbody f cdv A outer s H E hr vs B ds dd Q le r hF q
    exact ⟨t, PSs.nox h3, h4⟩
end
/-! ### data of the program -/
abbrev dI (n : Nat) : PyData := .int (n : Int)
def dL (l : List Nat) : PyData := .list ((zs l).map .int)
def dM (l : List (List Nat)) : PyData := .list (l.map dL)
def dT (l : List Nat) : PyData := .tuple ((zs l).map .int)
def dTs (l : List (List Nat)) : PyData := .list (l.map dT)
def dPair (p : Nat × Nat) : PyData := .tuple [dI p.1, dI p.2]
def dPairs (l : List (Nat × Nat)) : PyData := .list (l.map dPair)
theorem dL_get {l : List Nat} {i : Nat} (h : i < l.length) : ((zs l).map PyData.int)[i]? = some (dI (l.getD i 0)) := by
  unfold zs
  rw [List.getElem?_map, List.getElem?_map, List.getElem?_eq_getElem h, List.getD_eq_getElem?_getD, List.getElem?_eq_getElem h]
  rfl
theorem cast_sum : ∀ l : List Nat, (zs l).sum = ((l.sum : Nat) : Int)
  | [] => rfl
  | x :: r => by
    show ((x : Nat) : Int) + (zs r).sum = _
    rw [List.sum_cons, cast_sum r, Int.natCast_add]
end Mw
namespace Mw
open PySem PySem.Spec PyProof.Rows L2 Evl
section
variable {K : Frg} {B : Hp} {vs : List V} {a b c d e : PyData}
theorem RpAll.n1 (r : RpAll K B vs [a]) : ∃ x, vs = [x] ∧ Rp K B x a := by
  cases r with
  | cons h t =>
    cases t
    exact ⟨_, rfl, h⟩
theorem RpAll.n2 (r : RpAll K B vs [a, b]) : ∃ x y, vs = [x, y] ∧ Rp K B x a ∧ Rp K B y b := by
  cases r with
  | cons h t =>
    obtain ⟨y, rfl, r2⟩ := t.n1
    exact ⟨_, y, rfl, h, r2⟩
theorem RpAll.n3 (r : RpAll K B vs [a, b, c]) : ∃ x y z, vs = [x, y, z] ∧ Rp K B x a ∧ Rp K B y b ∧ Rp K B z c := by
  cases r with
  | cons h t =>
    obtain ⟨y, z, rfl, r2⟩ := t.n2
    exact ⟨_, y, z, rfl, h, r2⟩
theorem RpAll.n4 (r : RpAll K B vs [a, b, c, d]) : ∃ x y z u, vs = [x, y, z, u] ∧ Rp K B x a ∧ Rp K B y b ∧ Rp K B z c ∧ Rp K B u d := by
  cases r with
  | cons h t =>
    obtain ⟨y, z, u, rfl, r2⟩ := t.n3
    exact ⟨_, y, z, u, rfl, h, r2⟩
theorem RpAll.n5 (r : RpAll K B vs [a, b, c, d, e]) : ∃ x y z u v, vs = [x, y, z, u, v] ∧ Rp K B x a ∧ Rp K B y b ∧ Rp K B z c ∧ Rp K B u d ∧ Rp K B v e := by
  cases r with
  | cons h t =>
    obtain ⟨y, z, u, v, rfl, r2⟩ := t.n4
    exact ⟨_, y, z, u, v, rfl, h, r2⟩
theorem hu65_of {A : Around} {k : Nat} (hr : Room k A) : A.units + 65 < cLine := by
  have := hr.un
  omega
end
end Mw
end
section
set_option Elab.async false
set_option linter.all false
set_option maxRecDepth 100000
set_option maxHeartbeats 4000000
/-! # Whole numbers from 0 on: operations and tests as they are read -/
namespace Mw
open PySem PySem.Spec PyProof.Rows L2 Evl
section
variable {K : Frg} {σ : L2.St} {B : Hp} {ta tb te : TE} {a b : Nat}
theorem ev_add (ha : Ev ta σ B (.int (a : Int))) (hb : Ev tb σ B (.int (b : Int))) : Ev (tOp (rI0 fun i j => .int (i + j)) ta tb) σ B (.int ((a + b : Nat) : Int)) := ev_is (ev_op ha hb rv_I0) (by rw [Int.natCast_add])
theorem ev_sub (h : b ≤ a) (ha : Ev ta σ B (.int (a : Int))) (hb : Ev tb σ B (.int (b : Int))) : Ev (tOp (rI0 fun i j => .int (i - j)) ta tb) σ B (.int ((a - b : Nat) : Int)) := ev_is (ev_op ha hb rv_I0) (by rw [Int.natCast_sub h])
/-- a product: one side below 2 ^ 64 -/
theorem ev_mul (h : a < 2 ^ 64 ∨ b < 2 ^ 64) (ha : Ev ta σ B (.int (a : Int))) (hb : Ev tb σ B (.int (b : Int))) : Ev (tOp (rI CMul fun i j => .int (i * j)) ta tb) σ B (.int ((a * b : Nat) : Int)) :=
  ev_is (ev_op ha hb (rv_I (by
    rcases h with h | h
    · exact .inl ⟨by omega, by omega⟩
    · exact .inr ⟨by omega, by omega⟩))) (by rw [Int.natCast_mul])
theorem ev_div (h : 0 < b) (h2 : b < 1073741824) (ha : Ev ta σ B (.int (a : Int))) (hb : Ev tb σ B (.int (b : Int))) : Ev (tOp (rI CDiv fun i j => .int (i / j)) ta tb) σ B (.int ((a / b : Nat) : Int)) :=
  ev_is (ev_op ha hb (rv_I ⟨by omega, by omega⟩)) (by rw [Int.natCast_ediv])
theorem ev_mod (h : 0 < b) (ha : Ev ta σ B (.int (a : Int))) (hb : Ev tb σ B (.int (b : Int))) : Ev (tOp (rI (fun _ j => 0 < j) fun i j => .int (i % j)) ta tb) σ B (.int ((a % b : Nat) : Int)) :=
  ev_is (ev_op ha hb (rv_I (by omega))) (by rw [Int.natCast_emod])
theorem ev_shl (hb' : b ≤ 1000) (h : a < 1000) (ha : Ev ta σ B (.int (a : Int))) (hb : Ev tb σ B (.int (b : Int))) : Ev (tOp (rI CPow fun i j => .int (i * 2 ^ j.toNat)) ta tb) σ B (.int ((a * 2 ^ b : Nat) : Int)) :=
  ev_is (ev_op ha hb (rv_I ⟨by omega, by omega, by rw [Int.natAbs_natCast]; exact Nat.lt_trans h (by decide)⟩)) (by rw [Int.toNat_natCast, Int.natCast_mul, Int.natCast_pow]; rfl)
theorem ev_shl1 (hb' : b ≤ 1000) (ha : Ev ta σ B (.int 1)) (hb : Ev tb σ B (.int (b : Int))) : Ev (tOp (rI CPow fun i j => .int (i * 2 ^ j.toNat)) ta tb) σ B (.int ((2 ^ b : Nat) : Int)) :=
  ev_is (ev_shl (a := 1) hb' (by decide) ha hb) (by rw [Nat.one_mul])
theorem ev_shr (ha : Ev ta σ B (.int (a : Int))) (hb : Ev tb σ B (.int (b : Int))) : Ev (tOp (rI (fun _ j => 0 ≤ j) fun i j => .int (i / 2 ^ j.toNat)) ta tb) σ B (.int ((a / 2 ^ b : Nat) : Int)) :=
  ev_is (ev_op ha hb (rv_I (by omega))) (by rw [Int.toNat_natCast, Int.natCast_ediv, Int.natCast_pow]; rfl)
theorem ev_and (ha : Ev ta σ B (.int (a : Int))) (hb : Ev tb σ B (.int (b : Int))) : Ev (tOp (rI0 fun i j => .int (Builtin.bitAnd i j)) ta tb) σ B (.int ((a &&& b : Nat) : Int)) := ev_is (ev_op ha hb rv_I0) (by simp [Builtin.bitAnd])
theorem or_and_all : ∀ a < 8, ∀ b < 8, (a ||| b) + (a &&& b) = a + b := by decide +kernel
theorem bor_eq {a b : Nat} (h1 : a < 8) (h2 : b < 8) : Builtin.bitOr (a : Int) (b : Int) = ((a ||| b : Nat) : Int) := by
  have e := or_and_all a h1 b h2
  rw [PyProof.Rows.bitOr_and, PyProof.Rows.bitAnd_pp (Int.natCast_nonneg a) (Int.natCast_nonneg b), Int.toNat_natCast, Int.toNat_natCast]
  omega
theorem ev_or (h1 : a < 8) (h2 : b < 8) (ha : Ev ta σ B (.int (a : Int))) (hb : Ev tb σ B (.int (b : Int))) : Ev (tOp (rI0 fun i j => .int (Builtin.bitOr i j)) ta tb) σ B (.int ((a ||| b : Nat) : Int)) := ev_is (ev_op ha hb rv_I0) (by rw [bor_eq h1 h2])
theorem ev_lt (ha : Ev ta σ B (.int (a : Int))) (hb : Ev tb σ B (.int (b : Int))) : Ev (tOp (rI0 fun i j => .bl (decide (i < j))) ta tb) σ B (.bl (decide (a < b))) := ev_is (ev_op ha hb rv_I0) (by simp)
theorem ev_le (ha : Ev ta σ B (.int (a : Int))) (hb : Ev tb σ B (.int (b : Int))) : Ev (tOp (rI0 fun i j => .bl (decide (i ≤ j))) ta tb) σ B (.bl (decide (a ≤ b))) := ev_is (ev_op ha hb rv_I0) (by simp)
theorem ev_gt (ha : Ev ta σ B (.int (a : Int))) (hb : Ev tb σ B (.int (b : Int))) : Ev (tOp (rI0 fun i j => .bl (decide (j < i))) ta tb) σ B (.bl (decide (b < a))) := ev_is (ev_op ha hb rv_I0) (by simp)
theorem ev_ge (ha : Ev ta σ B (.int (a : Int))) (hb : Ev tb σ B (.int (b : Int))) : Ev (tOp (rI0 fun i j => .bl (decide (j ≤ i))) ta tb) σ B (.bl (decide (b ≤ a))) := ev_is (ev_op ha hb rv_I0) (by simp)
theorem ev_eq (ha : Ev ta σ B (.int (a : Int))) (hb : Ev tb σ B (.int (b : Int))) : Ev (tOp rEq ta tb) σ B (.bl (decide (a = b))) := ev_is (ev_op ha hb (rv_eq rfl)) (by
  rw [dec_int]
  by_cases h : a = b
  · rw [h]
    simp
  · rw [decide_eq_false h]
    have e : ((a : Int) == (b : Int)) = false := beq_eq_false_iff_ne.mpr (by omega)
    rw [e])
theorem ev_ne (ha : Ev ta σ B (.int (a : Int))) (hb : Ev tb σ B (.int (b : Int))) : Ev (tOp rNe ta tb) σ B (.bl (!decide (a = b))) := ev_is (ev_op ha hb (rv_ne rfl)) (by
  rw [dec_int]
  by_cases h : a = b
  · rw [h]
    simp
  · rw [decide_eq_false h]
    have e : ((a : Int) == (b : Int)) = false := beq_eq_false_iff_ne.mpr (by omega)
    rw [e])
/-- a written number -/
theorem ev_n : Ev (tC (.int (a : Int))) σ B (.int (a : Int)) := ev_c
theorem ev_v {i : Nat} {v : V} (h : σ[i]? = some (some v)) (r : Rp K B v (dI a)) : Ev (tVar i) σ B (.int (a : Int)) := (gv_var (K := K) h r).toInt
/-- l[i], a list of numbers -/
theorem ev_at {l : List Nat} (h : Gv K ta σ B (dL l)) (hb : Ev tb σ B (.int (b : Int))) (hi : b < l.length) : Ev (tOp (rIxL K) ta tb) σ B (.int ((l.getD b 0 : Nat) : Int)) := (gv_ixL h hb (ix_nat (dL_get hi))).toInt
theorem ev_atT {l : List Nat} (h : Gv K ta σ B (dT l)) (hb : Ev tb σ B (.int (b : Int))) (hi : b < l.length) : Ev (tOp (rIxT K) ta tb) σ B (.int ((l.getD b 0 : Nat) : Int)) := (gv_ixT h hb (ix_nat (dL_get hi))).toInt
theorem dM_get {α : Type} {f : α → PyData} {l : List α} {z : α} {i : Nat} (h : i < l.length) : (l.map f)[i]? = some (f (l.getD i z)) := by
  rw [List.getElem?_map, List.getElem?_eq_getElem h, List.getD_eq_getElem?_getD, List.getElem?_eq_getElem h]
  rfl
/-- l[i], a list of data -/
theorem gv_at {α : Type} {f : α → PyData} {l : List α} (z : α) (h : Gv K ta σ B (.list (l.map f))) (hb : Ev tb σ B (.int (b : Int))) (hi : b < l.length) : Gv K (tOp (rIxL K) ta tb) σ B (f (l.getD b z)) := gv_ixL h hb (ix_nat (dM_get hi))
/-- sum of a list of numbers -/
theorem ev_sum {t : TA} {l : List Nat} (h : GA K t σ B [dL l]) : Ev (tCB (rSum K) t) σ B (.int ((l.sum : Nat) : Int)) := ev_is (ev_sumL h) (by rw [cast_sum])
theorem dL_of {l : List Nat} {ds : List PyData} (h : ds = l.map fun n => dI n) : PyData.list ds = dL l := by
  unfold dL zs
  rw [h, List.map_map]
  rfl
theorem dL_len (l : List Nat) : ((zs l).map PyData.int).length = l.length := by simp [zs]
theorem dL_cut (l : List Nat) (i k : Nat) : (((zs l).map PyData.int).drop i).take k = (zs ((l.drop i).take k)).map PyData.int := by
  unfold zs
  rw [List.map_take, List.map_drop, List.map_take, List.map_drop]
theorem ev_len {t : TA} {l : List Nat} (h : GA K t σ B [dL l]) : Ev (tCB (rLenD K) t) σ B (.int ((l.length : Nat) : Int)) := ev_is (ev_lenL h) (by rw [dL_len])
theorem ev_lenM {α : Type} {f : α → PyData} {t : TA} {l : List α} (h : GA K t σ B [.list (l.map f)]) : Ev (tCB (rLenD K) t) σ B (.int ((l.length : Nat) : Int)) := ev_is (ev_lenL h) (by rw [List.length_map])
/-- tests -/
theorem et_true {H : Hp} : EvT tYes σ H true := fun H1 _ _ q => q H1 (Ex.refl H1)
end
end Mw
end
section
set_option Elab.async false
set_option linter.all false
set_option maxRecDepth 100000
set_option maxHeartbeats 4000000
/-! # The layer's rules with the written part as a letter (within a comprehension the context is another, K the same) -/
namespace Mw
open PySem PySem.Spec PyProof.Rows L2 Evl
section
variable {X : Cx} {K : Frg}
theorem ix_listK (h : X.K = K) : IxR X (rIxL K) := by
  subst h
  exact ix_list
theorem ix_tupK (h : X.K = K) : IxR X (rIxT K) := by
  subst h
  exact ix_tup
theorem sl_listK (h : X.K = K) : SlR X (rSlL K) := by
  subst h
  exact sl_list
theorem cr_sumK (h : X.K = K) (hc : X.calm = true) : CallR X (.builtin "sum") (rSum K) := by
  subst h
  exact cr_sum hc
theorem cr_allK (h : X.K = K) (hc : X.calm = true) : CallR X (.builtin "all") (rAll K) := by
  subst h
  exact cr_all hc
theorem cr_minK (h : X.K = K) (hc : X.calm = true) : CallR X (.builtin "min") (rMin K) := by
  subst h
  exact cr_min hc
theorem call_lenK (h : X.K = K) : CallR X (.builtin "len") (rLenD K) := by
  subst h
  exact call_len_seq
theorem call_listK (h : X.K = K) : CallR X (.type "list") (rListOf K) := by
  subst h
  exact call_list_of
theorem call_tupleK (h : X.K = K) : CallR X (.type "tuple") (rTupleD K) := by
  subst h
  exact call_tuple_of
theorem op_inDK (h : X.K = K) (hu : X.A.units + 65 < cLine) : OpR X (compareOp .In) (rInD K) := by
  subst h
  exact op_inD hu
theorem op_notInDK (h : X.K = K) (hu : X.A.units + 65 < cLine) : OpR X (compareOp .NotIn) (rNotInD K) := by
  subst h
  exact op_notInD hu
theorem op_eqDK (h : X.K = K) (hu : X.A.units + 64 < cLine) : OpR X (compareOp .Eq) (rEqD K) := by
  subst h
  exact op_eqD hu
theorem op_neDK (h : X.K = K) (hu : X.A.units + 64 < cLine) : OpR X (compareOp .NotEq) (rNeD K) := by
  subst h
  exact op_neD hu
theorem op_in_seqK (h : X.K = K) : OpR X (compareOp .In) (rIn K false) := by
  subst h
  exact op_in_seq
theorem op_catAK (h : X.K = K) : OpR X (binaryOp .Add) (rCatA K) := by
  subst h
  exact op_catA
theorem pi_listK (h : X.K = K) {l : Expr} {tl : TE} {tg : Expr} (hl : PE X l tl) : PI X tg l (iList K tl) := by
  subst h
  exact pi_list hl
theorem pi_tupK (h : X.K = K) {l : Expr} {tl : TE} {tg : Expr} (hl : PE X l tl) : PI X tg l (iTup K tl) := by
  subst h
  exact pi_tup hl
theorem pi_enumK (h : X.K = K) {e : Expr} {ta : TA} {p pos tpos : Pos} {elts : List Expr} {kk : Nat} (hg : Gl X "enumerate") (hm : X.mg "enumerate" = none) (ha : PA X [e] ta) (hs : starEach [e] X.env = [(false, eval e X.env)] := by rfl) :
    PI X (.Tuple elts kk tpos) (.Call (.Name "enumerate" p) [e] [] pos) (iEnum K ta) := by
  subst h
  exact pi_enum hg hm ha hs
theorem pg_tupK (h : X.K = K) {es : List Expr} {k : Nat} {t : TGs} {n : Nat} {pos : Pos} (hc : X.calm = true) (hh : PGs X es t) (hn : (assignEach es X.env).length = n := by rfl) (hst : (assignEach es X.env).findIdx? (·.1) = none := by rfl) : PG X (.Tuple es k pos) (gTup K n t) := by
  subst h
  exact pg_tup hc hh hn hst
theorem pg_unlK (h : X.K = K) {es : List Expr} {k : Nat} {t : TGs} {n : Nat} {pos : Pos} (hc : X.calm = true) (hh : PGs X es t) (hn : (assignEach es X.env).length = n := by rfl) (hst : (assignEach es X.env).findIdx? (·.1) = none := by rfl) : PG X (.Tuple es k pos) (gUnl K n t) := by
  subst h
  exact pg_unl hc hh hn hst
end
end Mw
end
section
set_option Elab.async false
set_option linter.all false
set_option maxRecDepth 100000
set_option maxHeartbeats 4000000
/-! # Statements and loops, told by data -/
namespace Mw
open PySem PySem.Spec PyProof.Rows L2 Evl
section
variable {K : Frg} {σ : L2.St} {B B0 H0 B1 H H1 : Hp} {te tl : TE} {ta : TA} {t : TT} {g : TG} {d d1 d2 : PyData} {D : Ends} {tu tw tz : TS}
theorem EvA.mono' {vs : List V} (e : Ex B B1) (h : EvA ta σ B vs) : EvA ta σ B1 vs := h.mono e
/-- a, b = e1, e2 by a tuple -/
theorem qd_two {i j : Nat} (le : Ex B H) (h : GA K ta σ B [d1, d2]) (k : ∀ v1 v2 B' H', At B H B' H' → Rp K B' v1 d1 → Rp K B' v2 d2 → tz D ((σ.set i (some v1)).set j (some v2)) H') :
    tSeq (tAsg (tTup ta) (gTup K 2 (gCons (gName i) (gCons (gName j) gNil)))) tz D σ H := h H le _ fun vs B1 H1 a1 r1 => by
  obtain ⟨x, y, rfl, rx, ry⟩ := r1.n2
  refine ⟨by show 2 ≤ sizeLine; decide, fun p hp => ⟨p, [x, y], rfl, st_of upd_same, rfl, x, [y], rfl, y, [], rfl, rfl, ?_⟩⟩
  exact k x y B1 _ (a1.trans (.aside a1.le hp)) rx ry
/-- the same without a tuple (two locals) -/
theorem qd_par {i j : Nat} (le : Ex B H) (h : GA K ta σ B [d1, d2]) (k : ∀ v1 v2 B' H', At B H B' H' → Rp K B' v1 d1 → Rp K B' v2 d2 → tz D ((σ.set i (some v1)).set j (some v2)) H') :
    tSeq (tPar i j ta) tz D σ H := h H le _ fun vs B1 H1 a1 r1 => by
  obtain ⟨x, y, rfl, rx, ry⟩ := r1.n2
  exact ⟨x, y, rfl, k x y B1 _ a1 rx ry⟩
/-- a, b = l, a list of two -/
theorem qd_unl {i j : Nat} (le : Ex B H) (h : Gv K te σ B (.list [d1, d2])) (k : ∀ v1 v2 B' H', At B H B' H' → Rp K B' v1 d1 → Rp K B' v2 d2 → tz D ((σ.set i (some v1)).set j (some v2)) H') :
    tSeq (tAsg te (gUnl K 2 (gCons (gName i) (gCons (gName j) gNil)))) tz D σ H := h H le _ fun v B1 H1 a1 r1 => by
  obtain ⟨a, xs, rfl, ha, ra⟩ := r1.isLst
  obtain ⟨x, y, rfl, rx, ry⟩ := ra.n2
  exact ⟨a, [x, y], rfl, sq_of (a1.le _ _ ha), rfl, x, [y], rfl, y, [], rfl, rfl, k x y B1 _ a1 rx ry⟩
/-- for i in range(n) -/
theorem qd_forR {j n : Nat} (le : Ex B H) (h : EvA ta σ B [.int (n : Int)]) (hn : n ≤ 100000) (Pv : Nat → L2.St → Hp → Prop) (h0 : ∀ H1, Ex H H1 → Pv 0 σ H1)
    (hs : ∀ (i : Nat) σ' H', i < n → Pv i σ' H' → tu { D with nx := Pv (i + 1), ct := Pv (i + 1), bk := tz D } (σ'.set j (some (.int (i : Int)))) H') (hd : ∀ σ' H', Pv n σ' H' → tz D σ' H') : tSeq (tFor (iRng1 ta) (gName j) tu) tz D σ H :=
  q_forR1 (h.mono le) ⟨by omega, by omega⟩ Pv h0 (fun i σ' H' hi p => hs i σ' H' (by omega) p) fun σ' H' p => hd σ' H' (by
    rw [Int.toNat_natCast] at p
    exact p)
/-- for x in l, then the rest: from the list's own base B1 -/
theorem qd_forL {ds : List PyData} (le : Ex B H) (h : Gv K tl σ B (.list ds)) (k : ∀ (a : Addr) (xs : List V) B1 H1, At B H B1 H1 → B1 a = some (.lst xs) → RpAll K B1 xs ds →
      ∃ Pv : Nat → L2.St → Hp → Prop, Pv 0 σ H1 ∧ (∀ i σ' H', Pv i σ' H' → Ex B1 H') ∧ (∀ i x d σ' H', xs[i]? = some x → ds[i]? = some d → Rp K B1 x d → Pv i σ' H' → g x σ' H' fun σ2 H2 => tu { D with nx := Pv (i + 1), ct := Pv (i + 1), bk := tz D } σ2 H2) ∧
        ∀ σ' H', Pv ds.length σ' H' → tz D σ' H') : tSeq (tFor (iList K tl) g tu) tz D σ H := h H le _ fun v B1 H1 a1 r1 => by
  obtain ⟨a, xs, rfl, ha, ra⟩ := r1.isLst
  obtain ⟨Pv, p0, pl, ps, pd⟩ := k a xs B1 H1 a1 ha ra
  refine ⟨a, rfl, ⟨xs, sq_of (a1.le _ _ ha)⟩, for_list (D := { D with nx := tz D }) (xs := xs) Pv p0 (fun i σ' H' _ p => sq_of (pl i σ' H' p _ _ ha)) (fun i x σ' H' hi p => ?_) fun σ' H' p => ?_⟩
  · obtain ⟨d, e1, rx⟩ := ra.at_ hi
    exact ps i x d σ' H' hi e1 rx p
  · rw [ra.len] at p
    exact pd σ' H' p
/-- for x in t, a tuple -/
theorem qd_forT {ds : List PyData} (le : Ex B H) (h : Gv K tl σ B (.tuple ds)) (k : ∀ (a : Addr) (xs : List V) B1 H1, At B H B1 H1 → B1 a = some (.tup xs) → RpAll K B1 xs ds →
      ∃ Pv : Nat → L2.St → Hp → Prop, Pv 0 σ H1 ∧ (∀ i σ' H', Pv i σ' H' → Ex B1 H') ∧ (∀ i x d σ' H', xs[i]? = some x → ds[i]? = some d → Rp K B1 x d → Pv i σ' H' → g x σ' H' fun σ2 H2 => tu { D with nx := Pv (i + 1), ct := Pv (i + 1), bk := tz D } σ2 H2) ∧
        ∀ σ' H', Pv ds.length σ' H' → tz D σ' H') : tSeq (tFor (iTup K tl) g tu) tz D σ H := h H le _ fun v B1 H1 a1 r1 => by
  obtain ⟨a, xs, rfl, ha, ra⟩ := r1.isTup
  obtain ⟨Pv, p0, pl, ps, pd⟩ := k a xs B1 H1 a1 ha ra
  refine ⟨a, rfl, ⟨xs, st_of (a1.le _ _ ha)⟩, for_tup (D := { D with nx := tz D }) (xs := xs) Pv p0 (fun i σ' H' _ p => st_of (pl i σ' H' p _ _ ha)) (fun i x σ' H' hi p => ?_) fun σ' H' p => ?_⟩
  · obtain ⟨d, e1, rx⟩ := ra.at_ hi
    exact ps i x d σ' H' hi e1 rx p
  · rw [ra.len] at p
    exact pd σ' H' p
/-- x = [], a list to be filled: beside the base -/
theorem qd_newL {i : Nat} {xs : List V} (le : Ex B H) (h : EvL te σ B xs) (k : ∀ p H1, H p = none → B p = none → Ex H H1 → H1 p = some (.lst xs) → tz D (σ.set i (some (.ref p))) H1) : tSeq (tAsg te (gName i)) tz D σ H :=
  h H le _ fun p H1 hp e h1 => k p H1 hp (fresh_back le hp) e h1
theorem el_empty {B : Hp} : EvL (tLst tNil) σ B [] := fun H1 e Q q => ⟨by show 0 ≤ sizeLine; exact Nat.zero_le _, fun p hp => q p _ hp (Ex.new hp) upd_same⟩
/-- what stood beside the base, but for p, stands there still -/
def Off (B H B' H' : Hp) (p : Addr) : Prop := ∀ q o, q ≠ p → H q = some o → H' q = some o ∧ (B q = none → (∀ xs, o ≠ .tup xs) → B' q = none)
/-- l.append(e): l beside the base; the item joins it -/
theorem sd_append {p : Addr} {xs : List V} {tp : TE} (a : At B0 H0 B H) (h0 : H0 p = none) (hB : B p = none) (hp : H p = some (.lst xs)) (hl : xs.length < 100000) (he : ∀ H', Ex H H' → Ev tp σ H' (.ref p)) (h : Gv K te σ B d)
    (k : ∀ v B' H', At B0 H0 B' H' → Ex B B' → B' p = none → Rp K B' v d → H' p = some (.lst (xs ++ [v])) → Off B H B' H' p → D.nx σ H') : tDrop (tBM K "list" rAppend tp (tCons te tNil)) D σ H :=
  he H (Ex.refl _) H (Ex.refl _) _ fun H1 e1 => ⟨Or.inl ⟨rfl, xs, sq_of (e1 p _ hp)⟩, h H1 (a.le.trans e1) _ fun v B2 H2 a2 r2 => by
    have a3 : At B H B2 H2 := ⟨a2.base, a2.le, e1.trans a2.keep, fun x u e => by
      rcases a2.fr x u e with q | q | q
      · exact .inl q
      · exact .inr (.inl (fresh_back e1 q))
      · exact .inr (.inr q)⟩
    have hp2 : H2 p = some (.lst xs) := a3.keep p _ hp
    have n2 : B2 p = none := a3.off hB hp lst_tup
    exact ⟨p, xs, v, rfl, rfl, hp2, sz_lt hl, k v B2 _ ((a.trans a3).mut n2 h0) a2.base n2 r2 upd_same fun x u c e => ⟨by
      rw [upd_ne c]
      exact a3.keep x u e, fun hb ht => a3.off hb e ht⟩⟩⟩
end
end Mw
namespace Mw
open PySem
theorem dL_at {l : List Nat} {i : Nat} {d : PyData} (h : ((zs l).map PyData.int)[i]? = some d) : i < l.length ∧ d = dI (l.getD i 0) := by
  have hi : i < l.length := by
    have := (List.getElem?_eq_some_iff.mp h).1
    simpa [zs] using this
  rw [dL_get hi] at h
  exact ⟨hi, (Option.some.inj h).symm⟩
theorem dM_at {α : Type} {f : α → PyData} {l : List α} (z : α) {i : Nat} {d : PyData} (h : (l.map f)[i]? = some d) : i < l.length ∧ d = f (l.getD i z) := by
  have hi : i < l.length := by
    have := (List.getElem?_eq_some_iff.mp h).1
    simpa using this
  rw [dM_get (z := z) hi] at h
  exact ⟨hi, (Option.some.inj h).symm⟩
theorem take_getD {α : Type} {l : List α} {i : Nat} (z : α) (h : i < l.length) : l.take (i + 1) = l.take i ++ [l.getD i z] := by
  rw [List.take_succ_eq_append_getElem h, getD_of_lt h]
theorem fold_take {α β : Type} {f : β → α → β} {b : β} {l : List α} {i : Nat} (z : α) (h : i < l.length) : (l.take (i + 1)).foldl f b = f ((l.take i).foldl f b) (l.getD i z) := by
  rw [take_getD z h, List.foldl_append]
  rfl
theorem zlen (l : List Nat) : ((zs l).map PyData.int).length = l.length := by simp [zs]
/-- the matrices of a model -/
def Ms (n : Nat) (ms : List (List Nat)) : Prop := ∀ e ∈ ms, Mat n e
theorem Ms.get {n : Nat} {ms : List (List Nat)} (h : Ms n ms) {k : Nat} (hk : k < ms.length) : Mat n (ms.getD k []) := h _ (getD_mem hk)
theorem Mat.lt {n : Nat} {e : List Nat} (h : Mat n e) : ∀ x ∈ e, x < 2 ^ 64 := fun x hx => by
  have := h.le x hx
  omega
end Mw
namespace Mw
open PySem PySem.Spec PyProof.Rows L2 Evl
section
variable {K : Frg} {σ : L2.St} {B B0 H0 H : Hp} {D : Ends}
theorem dL_app (l m : List Nat) : (zs l).map PyData.int ++ (zs m).map PyData.int = (zs (l ++ m)).map PyData.int := by
  unfold zs
  rw [List.map_append, List.map_append]
/-- return l, l a list beside the base -/
theorem sd_ret {i : Nat} {p : Addr} {xs : List V} {ds : List PyData} (hs : σ[i]? = some (some (.ref p))) (a : At B0 H0 B H) (h0 : H0 p = none) (hB : B p = none) (hp : H p = some (.lst xs)) (r : RpAll K B xs ds)
    (q : ∀ v B' H', At B0 H0 B' H' → Rp K B' v (.list ds) → D.rt v H') : tRet (tVar i) D σ H := ⟨_, hs, q _ _ _ (a.freeze hB h0 hp) (.lst upd_same (r.mono (Ex.new hB)))⟩
/-- the target a, b takes a tuple of two -/
theorem g_two {i j : Nat} {x : V} {d1 d2 : PyData} {Q : L2.St → Hp → Prop} (le : Ex B H) (hx : Rp K B x (.tuple [d1, d2])) (k : ∀ x1 x2, Rp K B x1 d1 → Rp K B x2 d2 → Q ((σ.set i (some x1)).set j (some x2)) H) :
    gTup K 2 (gCons (gName i) (gCons (gName j) gNil)) x σ H Q := by
  obtain ⟨a, xs, rfl, ha, r⟩ := hx.isTup
  obtain ⟨x1, x2, rfl, r1, r2⟩ := r.n2
  exact ⟨a, _, rfl, st_of (le a _ ha), rfl, _, _, rfl, _, _, rfl, rfl, k _ _ r1 r2⟩
/-- the last statement of a body: for i in range(n) -/
theorem sd_forR {ta : TA} {tu : TS} {j n : Nat} (le : Ex B H) (h : EvA ta σ B [.int (n : Int)]) (hn : n ≤ 100000) (Pv : Nat → L2.St → Hp → Prop) (h0 : ∀ H1, Ex H H1 → Pv 0 σ H1)
    (hs : ∀ (i : Nat) σ' H', i < n → Pv i σ' H' → tu { D with nx := Pv (i + 1), ct := Pv (i + 1), bk := D.nx } (σ'.set j (some (.int (i : Int)))) H') (hd : ∀ σ' H', Pv n σ' H' → D.nx σ' H') : tFor (iRng1 ta) (gName j) tu D σ H :=
  s_forR1 (h.mono le) ⟨by omega, by omega⟩ Pv h0 (fun i σ' H' hi p => hs i σ' H' (by omega) p) fun σ' H' p => hd σ' H' (by
    rw [Int.toNat_natCast] at p
    exact p)
end
end Mw
namespace Mw
open PySem PySem.Spec PyProof.Rows L2 Evl
section
variable {K : Frg} {σ : L2.St} {B : Hp} {te : TE} {d : PyData}
def rIsN : R2 := fun x y H Q => y = .non ∧ Q (.bl (decide (x = .non))) H
def rNotN : R2 := fun x y H Q => y = .non ∧ Q (.bl (!decide (x = .non))) H
theorem ev_isN1 (h : Gv K te σ B .none) : Ev (tOp rIsN te (tC .non)) σ B (.bl true) := fun H le Q q => h H le _ fun v B1 H1 a1 r1 => by
  rw [r1.isNon]
  exact ⟨rfl, q H1 a1.keep⟩
theorem Rp.notNon {v : V} {ds : List PyData} (h : Rp K B v (.list ds)) : decide (v = .non) = false := by
  obtain ⟨a, xs, rfl, _⟩ := h.isLst
  rfl
theorem ev_isN0 {ds : List PyData} (h : Gv K te σ B (.list ds)) : Ev (tOp rIsN te (tC .non)) σ B (.bl false) := fun H le Q q => h H le _ fun v B1 H1 a1 r1 => ⟨rfl, by
  rw [r1.notNon]
  exact q H1 a1.keep⟩
theorem ev_isN0I {i : Int} (h : Gv K te σ B (.int i)) : Ev (tOp rIsN te (tC .non)) σ B (.bl false) := fun H le Q q => h H le _ fun v B1 H1 a1 r1 => ⟨rfl, by
  rw [r1.isInt]
  exact q H1 a1.keep⟩
theorem ev_notN1 (h : Gv K te σ B .none) : Ev (tOp rNotN te (tC .non)) σ B (.bl false) := fun H le Q q => h H le _ fun v B1 H1 a1 r1 => by
  rw [r1.isNon]
  exact ⟨rfl, q H1 a1.keep⟩
theorem ev_notN0I {i : Int} (h : Gv K te σ B (.int i)) : Ev (tOp rNotN te (tC .non)) σ B (.bl true) := fun H le Q q => h H le _ fun v B1 H1 a1 r1 => ⟨rfl, by
  rw [r1.isInt]
  exact q H1 a1.keep⟩
/-- an if, told at a base -/
theorem sd_if {t : TT} {tu tw : TS} {b : Bool} {D : Ends} {H : Hp} (le : Ex B H) (h : EvT t σ B b) (h1 : b = true → ∀ H1, Ex H H1 → tu D σ H1) (h2 : b = false → ∀ H1, Ex H H1 → tw D σ H1) : tIfS t tu tw D σ H := s_if (h.mono le) h1 h2
theorem qd_if {t : TT} {tu tw tz : TS} {b : Bool} {D : Ends} {H : Hp} (le : Ex B H) (h : EvT t σ B b) (h1 : b = true → ∀ H1, Ex H H1 → tu { D with nx := tz D } σ H1) (h2 : b = false → ∀ H1, Ex H H1 → tw { D with nx := tz D } σ H1) : tSeq (tIfS t tu tw) tz D σ H := q_if (h.mono le) h1 h2
theorem sd_asg {i : Nat} {D : Ends} {H : Hp} (le : Ex B H) (h : Gv K te σ B d) (k : ∀ v B' H', At B H B' H' → Rp K B' v d → D.nx (σ.set i (some v)) H') : tAsg te (gName i) D σ H := h H le _ k
theorem sd_retV {v : V} {D : Ends} {H : Hp} (le : Ex B H) (h : Ev te σ B v) (k : ∀ H', Ex H H' → D.rt v H') : tRet te D σ H := h H le _ k
end
end Mw
namespace Mw
theorem fold_range {β : Type} {f : β → Nat → β} {b : β} (i : Nat) : (List.range (i + 1)).foldl f b = f ((List.range i).foldl f b) i := by
  rw [List.range_succ, List.foldl_append]
  rfl
end Mw
end
section
set_option Elab.async false
set_option linter.all false
set_option maxRecDepth 100000
set_option maxHeartbeats 4000000
/-! # enumerate within comprehensions and loops; min(l) > 0; max -/
namespace Mw
open PySem PySem.Spec PyProof.Rows L2 Evl
section
variable {K : Frg} {σ : L2.St} {B B1 H H1 : Hp} {te : TE} {ta : TA} {t : TT} {g : TG} {vs : List Nat} {D : Ends} {tu tz : TS}
theorem lc_enum {a : Addr} {xs : List V} {H1 : Hp} {Dl : Addr} {Qd : Hp → Prop} (Pv : Nat → Hp → Prop) (h0 : Pv 0 (upd H1 Dl (.lst []))) (hl : ∀ i H, i ≤ xs.length → Pv i H → SqL K H a xs)
    (hs : ∀ i x T H, xs[i]? = some x → Pv i H → H T = none → g (.ref T) (wipe σ vs) (upd H T (.tup [.int (i : Nat), x])) fun σ2 H2 => wipe σ2 vs = wipe σ vs ∧ t σ2 H2 fun b H3 =>
      if b = true then te σ2 H3 fun y H4 => ∃ acc, H4 Dl = some (.lst acc) ∧ acc.length < sizeLine ∧ Pv (i + 1) (upd H4 Dl (.lst (acc ++ [y]))) else Pv (i + 1) H3) (hd : ∀ H, Pv xs.length H → Qd H) :
    ∃ W : Nat → Nat → Hp → Prop, (∃ m, W 0 m (upd H1 Dl (.lst []))) ∧ ∀ i m H, W i m H →
      ((Ite K a).stop i H ∧ Qd H) ∨ ((Ite K a).go i H ∧ ∃ Nx : Hp → Prop, (∀ H', Nx H' → ∃ m', m' < m ∧ W (i + 1) m' H') ∧ ∀ x H', (Ite K a).yld i H x H' → g x (wipe σ vs) H' fun σ2 H2 => wipe σ2 vs = wipe σ vs ∧ t σ2 H2 fun b H3 =>
        if b = true then te σ2 H3 fun y H4 => ∃ acc, H4 Dl = some (.lst acc) ∧ acc.length < sizeLine ∧ Nx (upd H4 Dl (.lst (acc ++ [y]))) else Nx H3) := by
  refine ⟨fun i m H => m = xs.length - i ∧ i ≤ xs.length ∧ Pv i H, ⟨xs.length, by simp, Nat.zero_le _, h0⟩, ?_⟩
  rintro i m H ⟨rfl, hi, p⟩
  have q := hl i H hi p
  by_cases hlt : i < xs.length
  · refine .inr ⟨⟨xs, xs[i], q, by simp [hlt]⟩, Pv (i + 1), fun H' p' => ⟨xs.length - (i + 1), by omega, rfl, hlt, p'⟩, fun x H' y => ?_⟩
    obtain ⟨T, z, rfl, hT, rfl, hz⟩ := y
    exact hs i z T H (hz xs q) p hT
  · have e : i = xs.length := by omega
    subst e
    exact .inl ⟨⟨xs, q, Nat.le_refl _⟩, hd H p⟩
/-- [.. for i, x in enumerate(l) ..] -/
theorem gv_lcE {ds : List PyData} (f : Nat → Bool) (dd : Nat → PyData) (h : GA K ta σ B [.list ds]) (hn : ds.length ≤ 40000)
    (ht : ∀ (i : Nat) (x : V) (d : PyData) B1, Ex B B1 → ds[i]? = some d → Rp K B1 x (.tuple [dI i, d]) → TurnOk K g t te σ vs x B1 (f i) (dd i)) : Gv K (tLc (iEnum K ta) g t te vs) σ B (.list (gvn ds.length f dd)) := fun H le Q q =>
  h H le _ fun v B1 H1 a1 r1 => by
    obtain ⟨u, rfl, r2⟩ := r1.n1
    obtain ⟨a, xs, rfl, hs, ra⟩ := r2.isLst
    refine ⟨a, xs, rfl, sq_of (a1.le _ _ hs), fun Dl hD => lc_enum (xs := xs) (Cw K B1 H1 f dd Dl) (Cw.start a1.le hD) (fun i H' _ p => by
      obtain ⟨Bi, acc, b, _⟩ := p
      exact sq_of ((b.base.trans b.le) _ _ hs)) (fun i x T H' hi p hT => ?_) fun H' p => ?_⟩
    · obtain ⟨d, e1, rx⟩ := ra.at_ hi
      have hlt := (List.getElem?_eq_some_iff.mp e1).1
      obtain ⟨Bi, acc, b, nD, hl, r⟩ := p
      have nT : T ≠ Dl := fun z => by
        rw [z, hl] at hT
        cases hT
      have b2 : At Bi H' (upd Bi T (.tup [.int (i : Nat), x])) (upd H' T (.tup [.int (i : Nat), x])) := At.new b.le hT
      have e2 := b.base.trans b2.base
      exact Cw.turnAt hD (by omega) (b.trans b2) (by rw [upd_ne nT.symm]; exact nD) (by rw [upd_ne nT.symm]; exact hl) (r.mono b2.base) (ht i (.ref T) d _ (a1.base.trans e2) e1 (.tup upd_same (.cons (.int _) (.one (rx.mono e2)))))
    · rw [ra.len] at p
      exact p.done hD fun v B' H' b r => q v B' H' (a1.trans b) r
/-- 0 < min(l) -/
theorem ev_min_pos {l : List Nat} (h : GA K ta σ B [dL l]) (hl : 0 < l.length) : Ev (tOp (rI0 fun i j => .bl (decide (j < i))) (tCB (rMin K) ta) (tC (.int 0))) σ B (.bl (l.all fun n => decide (0 < n))) := fun H le Q q =>
  h H le _ fun vs B1 H1 a1 r1 => by
    obtain ⟨x, rfl, r⟩ := r1.n1
    obtain ⟨a, xs, rfl, hs, ra⟩ := r.isLst
    obtain rfl := ra.isInts
    refine ⟨a, zs l, rfl, sq_of (a1.le _ _ hs), by simpa [zs] using hl, fun k hk hy => ⟨k, 0, rfl, rfl, ?_⟩⟩
    have e : decide (0 < k) = l.all fun n => decide (0 < n) := by
      by_cases c : 0 < k
      · rw [decide_eq_true c]
        refine (List.all_eq_true.mpr fun n hn => ?_).symm
        have h2 := hy (n : Int) (List.mem_map.mpr ⟨n, hn, rfl⟩)
        exact decide_eq_true (by omega)
      · rw [decide_eq_false c]
        refine (List.all_eq_false.mpr ?_).symm
        obtain ⟨n, hn, e⟩ := List.mem_map.mp hk
        refine ⟨n, hn, ?_⟩
        rw [decide_eq_true_eq]
        omega
    show Q (.bl (decide (0 < k))) H1
    rw [e]
    exact q H1 a1.keep
theorem ev_maxN {a b : Nat} {ta tb : TE} (ha : Ev ta σ B (.int (a : Int))) (hb : Ev tb σ B (.int (b : Int))) : Ev (tCB rMax2 (tCons ta (tCons tb tNil))) σ B (.int ((max a b : Nat) : Int)) := ev_is (ev_max2 ha hb) (by
  congr 1
  split <;> omega)
/-- max(0, a - b) -/
theorem ev_max0 {a b : Nat} {ta tb tc : TE} (hc : Ev tc σ B (.int 0)) (ha : Ev ta σ B (.int (a : Int))) (hb : Ev tb σ B (.int (b : Int))) : Ev (tCB rMax2 (tCons tc (tCons (tOp (rI0 fun i j => .int (i - j)) ta tb) tNil))) σ B (.int ((a - b : Nat) : Int)) :=
  ev_is (ev_max2 hc (ev_op ha hb rv_I0)) (by
    congr 1
    split <;> omega)
end
end Mw
namespace Mw
open PySem PySem.Spec PyProof.Rows L2 Evl
theorem sd_par {K : Frg} {σ : L2.St} {B H : Hp} {ta : TA} {d1 d2 : PyData} {D : Ends} {i j : Nat} (le : Ex B H) (h : GA K ta σ B [d1, d2]) (k : ∀ v1 v2 B' H', At B H B' H' → Rp K B' v1 d1 → Rp K B' v2 d2 → D.nx ((σ.set i (some v1)).set j (some v2)) H') :
    tPar i j ta D σ H := h H le _ fun vs B1 H1 a1 r1 => by
  obtain ⟨x, y, rfl, rx, ry⟩ := r1.n2
  exact ⟨x, y, rfl, k x y B1 _ a1 rx ry⟩
end Mw
end
section
set_option Elab.async false
set_option linter.all false
set_option maxRecDepth 100000
set_option maxHeartbeats 4000000
/-! # Rules that the layer lacks: sum of a tuple, enumerate of a tuple -/
namespace PySem
open Sem (wp)
open AutoSeq1 (wpAny_loadPart')
section
variable {prog : Program} {w : World} {A : Around} {E : Value → Shared → Prop} {s : Shared}
theorem mw_old {l : Addr} {h' : Heap} (hk : ∀ b o, b ∉ [s.heap.objs.size] → (s.heap.push { cls := .type "tuple_iterator", data := .fields #[.ref l, .int 0 0] }).get? b = some o → h'.get? b = some o) :
    ∀ b o, s.heap.get? b = some o → h'.get? b = some o := fun b o e => by
  refine hk b o (fun hm => ?_) (Heap.get?_push_of_some _ e)
  rcases List.mem_cons.mp hm with e1 | hm
  · exact absurd (e1 ▸ Heap.lt_size e) (Nat.lt_irrefl _)
  · cases hm
theorem mw_sum_tuple {l : Addr} {xs : Array (Int × Tok)} {Q : Value → Shared → Prop} (hh : A.handled = none) (hl : s.heap.IsTuple l (intItems xs))
    (h : ∀ h' tk t', (∀ b o, s.heap.get? b = some o → h'.get? b = some o) → Q (.int (preSum (numAt xs) xs.size) t') { s with heap := h', toks := tk }) :
    wpAny (model prog w) A (call (.builtin "sum") [.ref l]) Q E s := by
  have hlt : l < s.heap.objs.size := by obtain ⟨_, e, _⟩ := hl; exact Heap.lt_size e
  refine call_sum_walkG (wpAny_pyIter_tuple hl ?_)
  refine ⟨_, _, _, _, _, _, numAt xs, rfl, Walks.tuple (A := A.in1) hh _ l (Nat.ne_of_lt hlt) (intItems xs), ⟨⟨_, Heap.get?_push_size _ rfl, rfl, rfl⟩, hl.push _⟩, fun b hb => ?_, (fun _ _ => intItems_at), fun h' tk t' hk => ?_⟩
  · show b < (s.heap.push _).objs.size
    rw [Heap.size_push]
    rcases List.mem_cons.mp hb with rfl | hb
    · exact Nat.lt_succ_self _
    · rcases List.mem_cons.mp hb with rfl | hb
      · exact Nat.lt_succ_of_lt hlt
      · cases hb
  · have := h h' tk t' (mw_old hk)
    simpa [intItems] using this
theorem mw_nextOf_item {it t : Addr} {i : Nat} {items} {x : Value} {Q : Value → Shared → Prop} (hit : s.heap.IsTupleIter it t i)
    (ht : s.heap.IsTuple t items) (hx : items[i]? = some x) (hQ : ∀ h', h'.IsTupleIter it t (i + 1) → Heap.SameBut it s.heap h' → Q x { s with heap := h' }) :
    wpAny (model prog w) A (Builtin.SmallTypes.nextOf (.ref it)) Q E s := by
  obtain ⟨o, ho, hc, hd⟩ := id hit
  obtain ⟨ol, hol, _, nl, hdl⟩ := ht
  unfold Builtin.SmallTypes.nextOf
  refine wpAny_bind (wpAny_callSpecial?_slot (name := Str.ofString "__next__") hit.typeIs F.slot_tuple_iterator_next
    (wpAny_call_entry F.slot_tuple_iterator_next hit.typeIs F.entry_tuple_iterator_next ?_ (F.args_tuple_iterator_next_1 _)))
  show wpAny _ _ (field (.ref it) 0 >>= _) _ _ s
  refine wpAny_bind (wpAny_field ho hd (x := .ref t) rfl ?_)
  show wpAny _ _ (if (Value.ref t == Value.none) = true then _ else _) _ _ s
  rw [if_neg (show ¬ ((Value.ref t == Value.none) = true) from Bool.false_ne_true)]
  show wpAny _ _ (field (.ref it) 1 >>= _) _ _ s
  refine wpAny_bind (wpAny_field ho hd (x := .int i 0) rfl ?_)
  show wpAny _ _ (seqItems? (.ref t) >>= _) _ _ s
  refine wpAny_bind (wpAny_seqItems hol hdl ?_)
  simp only [Int.toNat_natCast, hx]
  refine wpAny_bind (wpAny_setField ho hd (by simp) (wpAny_pure ⟨x, rfl, wpAny_pure (hQ _ ?_ (Heap.SameBut.update ..))⟩))
  exact ⟨_, Heap.get?_update_self _ ho (Obj.isFreed_of_fields (Obj.data_mapFields hd _)), (Obj.cls_mapFields ..).trans hc, by
    rw [Obj.data_mapFields hd]; simp [rawInt]⟩
theorem mw_nextOf_end {it t : Addr} {i : Nat} {items} {Q : Value → Shared → Prop} (hh : A.handled = none)
    (hit : s.heap.IsTupleIter it t i) (ht : s.heap.IsTuple t items) (hx : items[i]? = none)
    (hE : ∀ h' e, Heap.ExtBut it s.heap h' → (∃ o, h'.get? e = some o ∧ o.cls = .type "StopIteration") → E (.ref e) { s with heap := h' }) :
    wpAny (model prog w) A (Builtin.SmallTypes.nextOf (.ref it)) Q E s := by
  obtain ⟨o, ho, hc, hd⟩ := id hit
  obtain ⟨ol, hol, _, nl, hdl⟩ := ht
  unfold Builtin.SmallTypes.nextOf
  refine wpAny_bind (wpAny_callSpecial?_slot (name := Str.ofString "__next__") hit.typeIs F.slot_tuple_iterator_next
    (wpAny_call_entry F.slot_tuple_iterator_next hit.typeIs F.entry_tuple_iterator_next ?_ (F.args_tuple_iterator_next_1 _)))
  show wpAny _ _ (field (.ref it) 0 >>= _) _ _ s
  refine wpAny_bind (wpAny_field ho hd (x := .ref t) rfl ?_)
  show wpAny _ _ (if (Value.ref t == Value.none) = true then _ else _) _ _ s
  rw [if_neg (show ¬ ((Value.ref t == Value.none) = true) from Bool.false_ne_true)]
  show wpAny _ _ (field (.ref it) 1 >>= _) _ _ s
  refine wpAny_bind (wpAny_field ho hd (x := .int i 0) rfl ?_)
  show wpAny _ _ (seqItems? (.ref t) >>= _) _ _ s
  refine wpAny_bind (wpAny_seqItems hol hdl ?_)
  simp only [Int.toNat_natCast, hx]
  refine wpAny_bind (wpAny_rule (wpAny_bind (wpAny_setField ho hd (by simp) ?_)))
  show wpAny _ _ (newExc (.type "StopIteration") [] >>= _) _ _ _
  refine wpAny_bind ?_
  simp only [newExc, newTuple]
  refine wpAny_bind (wpAny_newObj_type ?_ (by size_fits))
  refine wpAny_bind (m := firstArgMember _ _) (wpAny_of_eq (a := Value.none) (by first | rfl | (simp only [firstArgMember]; rfl)) ?_)
  refine wpAny_newObj_type ?_ (by size_fits)
  simp only [raiseNew]
  refine wpAny_bind (wpAny_handled ?_)
  first | rw [show A.in1.handled = none from hh] | rw [hh]
  refine wpAny_bind (wpAny_pure (wpAny_throw ?_))
  exact hE _ _ (((Heap.SameBut.update ..).extBut.push _).push _) ⟨_, Heap.get?_push_size _ rfl, rfl⟩
theorem mw_draws (hh : A.handled = none) (it l : Addr) (hne : l ≠ it) (items : Array Value) :
    Draws prog w A it [it, l] items.size (fun i v => items[i]? = some v) (fun i h => h.IsTupleIter it l i ∧ h.IsTuple l items) where
  live := fun _ _ st => let ⟨o, ho, _⟩ := st.1; ⟨o, ho⟩
  frame := fun _ _ _ st hk => ⟨st.1.at fun o e => hk it (by simp) o e, st.2.at fun o e => hk l (by simp) o e⟩
  item := fun i s Q E hi st hQ => by
    refine mw_nextOf_item st.1 st.2 (x := items[i]) (by simp [hi]) fun h' hit' hs' => ?_
    exact hQ _ h' s.toks (by simp [hi]) ⟨hit', st.2.extBut hs'.extBut hne⟩ hs'
  done := fun s Q E st hE => mw_nextOf_end hh st.1 st.2 (by simp) hE
end
theorem mw_enum_new (l : Addr) (items : Array Value) (n : Nat) (dct : Option Addr) (sl : Array (Option Value)) :
    Meets (Builtin.«enumerate.__new__» ⟨[.type "enumerate", .ref l], []⟩) (fun _ R s => s.heap.get? l = some { cls := .type "tuple", dict := dct, data := .seq items n, slots := sl } ∧
      R (.ok (.ret (.ref (s.heap.push { cls := .type "tuple_iterator", data := .fields #[.ref l, .int 0 0] }).objs.size)))
        { s with heap := (s.heap.push { cls := .type "tuple_iterator", data := .fields #[.ref l, .int 0 0] }).push { cls := .type "enumerate", data := .fields #[.none, .bool false, .ref s.heap.objs.size, rawInt 0, .none, .none] } }) :=
  .of_wp fun prog w A R s h => by
    obtain ⟨hp, g, d, tk, os⟩ := s; obtain ⟨hl, h⟩ := h
    have hsub := sub_enumerate
    have hL : Heap.IsTuple (Shared.heap ⟨hp, g, d, tk, os⟩) l items := ⟨_, hl, rfl, n, rfl⟩
    wp_walk using wpAny_loadPart' hl
    refine wpAny_stack_any fun st => wpAny_pure ?_
    split
    · rename_i c _ _ _ _ _
      cases (c == Value.type "enumerate")
      · wp_walk using wpAny_loadPart' hl, wpAny_pyIter_tuple hL
        exact ⟨_, rfl, h⟩
      · wp_walk using wpAny_loadPart' hl, wpAny_pyIter_tuple hL
        exact ⟨_, rfl, h⟩
    · wp_walk using wpAny_loadPart' hl, wpAny_pyIter_tuple hL
      exact ⟨_, rfl, h⟩
section
variable {prog : Program} {w : World} {A : Around} {E : Value → Shared → Prop} {s : Shared}
theorem mw_call_enum {l : Addr} {items : Array Value} {Q : Value → Shared → Prop} (hL : s.heap.IsTuple l items)
    (h : ∀ h', IsEnum h' (s.heap.objs.size + 1) s.heap.objs.size 0 .none → h'.IsTupleIter s.heap.objs.size l 0 → h'.objs.size = s.heap.objs.size + 2 →
      (∀ b o, s.heap.get? b = some o → h'.get? b = some o) → Q (.ref (s.heap.objs.size + 1)) { s with heap := h' }) :
    wpAny (model prog w) A (call (.type "enumerate") [.ref l]) Q E s := by
  obtain ⟨⟨c, dct, dt, sl⟩, hl, hc, n, hd⟩ := hL
  replace hc : c = .type "tuple" := hc
  replace hd : dt = .seq items n := hd
  subst hc hd
  refine callType_new F.called_enumerate (by decide) (F.typeCall_enumerate_1 _) (F.newCall_enumerate_1 _) (fun obj => F.args_object_init_2 obj _) F.entry_enumerate_new
    (mw_enum_new l items n dct sl) ⟨hl, ?_⟩
  have hz : (s.heap.push { cls := .type "tuple_iterator", data := .fields #[.ref l, .int 0 0] }).objs.size = s.heap.objs.size + 1 := Heap.size_push ..
  show _ ∧ _
  rw [hz]
  have he : IsEnum ((s.heap.push { cls := .type "tuple_iterator", data := .fields #[.ref l, .int 0 0] }).push
      { cls := .type "enumerate", data := .fields #[.none, .bool false, .ref s.heap.objs.size, rawInt 0, .none, .none] }) (s.heap.objs.size + 1) s.heap.objs.size 0 .none := by
    have := Heap.get?_push_size (s.heap.push { cls := .type "tuple_iterator", data := .fields #[.ref l, .int 0 0] })
      (o := { cls := .type "enumerate", data := .fields #[.none, .bool false, .ref s.heap.objs.size, rawInt 0, .none, .none] }) rfl
    rw [hz] at this; exact this
  refine ⟨⟨_, he, rfl⟩, h _ he ⟨_, Heap.get?_push_of_some _ (Heap.get?_push_size _ rfl), rfl, rfl⟩ (by rw [Heap.size_push, hz]) fun b o x => Heap.get?_push_of_some _ (Heap.get?_push_of_some _ x)⟩
/-- enumerate(t) behind the tuple's last item, wherever the counter stands -/
theorem wpAny_pyNext_enum_endT {e it l : Addr} {i : Nat} {items : Array Value} {old : Value} {Q : Option Value → Shared → Prop} (hh : A.in1.handled = none) (he : IsEnum s.heap e it ((i : Nat) : Int) old) (hit : s.heap.IsTupleIter it l i) (hl : s.heap.IsTuple l items) (hx : items.size ≤ i)
    (hQ : ∀ h', Heap.ExtBut it s.heap h' → Q none { s with heap := h' }) : wpAny (model prog w) A (pyNext (.ref e)) Q E s := by
  have hT : s.TypeIs (.ref e) "enumerate" := ⟨_, he, rfl⟩
  unfold pyNext
  refine wpAny_bind (wpAny_attempt (wpAny_callSpecial?_slot (name := Str.ofString "__next__") hT F.slot_enumerate_next
    (wpAny_call_entry F.slot_enumerate_next hT F.entry_enumerate_next ?_ (F.args_enumerate_next_1 _))))
  show wpAny _ _ (field (.ref e) 2 >>= _) _ _ _
  refine wpAny_bind (wpAny_field he rfl (x := .ref it) rfl ?_)
  refine wpAny_bind (mw_nextOf_end hh hit hl (by simp; omega) fun h' x he' hx' => ?_)
  obtain ⟨o, ho, hc⟩ := hx'
  refine wpAny_bind (wpAny_isInstance (T := "StopIteration") (b := true) ⟨o, ho, hc⟩ isSubtype_stop ?_)
  exact wpAny_pure (hQ _ he')
end
end PySem
end
section
set_option Elab.async false
set_option linter.all false
set_option maxRecDepth 100000
set_option maxHeartbeats 4000000
namespace L2
open PySem PySem.Spec PyProof.Rows
/-! # sum(t), for i, x in enumerate(t), t a tuple -/
def rSumT (K : PySem.W.Frag) : List V → Hp → VK → Prop := fun vs H Q => ∃ (a : Addr) (ns : List Int), vs = [V.ref a] ∧ SqT K H a (ns.map V.int) ∧ Q (.int ns.sum) H
theorem cr_sumT {X : Cx} {K : PySem.W.Frag} (hK : X.K = K) (hc : X.calm = true) : CallR X (.builtin "sum") (rSumT K) := by
  subst hK
  intro pins s σ H vs us Q I r h
  obtain ⟨a, ns, rfl, hs, q⟩ := h
  obtain ⟨its, rv, ht, _⟩ := I.tuple hs
  rw [Vals.ref1 r]
  have hi : IntsAre its ns := rv.ints
  obtain ⟨xs, e⟩ := hi.allInts.items
  have hn : numsOf (intItems xs).toList = ns := by rw [← e]; exact hi.numsOf
  rw [nums_intItems] at hn
  have hl : s.heap.IsTuple a (intItems xs) := by
    have h2 : s.heap.IsTuple a its.toArray := ht
    rw [e] at h2
    exact h2
  refine mw_sum_tuple (I.ok.hd hc) hl fun h' tk t' hk => ?_
  refine ⟨.int ns.sum, H, I.kept hk, ?_, q⟩
  rw [preSum_eq, List.take_of_length_le (by simp), hn]
  exact ⟨_, rfl⟩
/-- the tuple at a, each item in a new pair -/
def Itet (K : PySem.W.Frag) (a : Addr) : It :=
  ⟨fun i H => ∃ (xs : List V) (x : V), SqT K H a xs ∧ xs[i]? = some x, fun i H v H' => ∃ T x, v = .ref T ∧ H T = none ∧ H' = upd H T (.tup [.int (i : Nat), x]) ∧ ∀ xs, SqT K H a xs → xs[i]? = some x, fun i H => ∃ xs : List V, SqT K H a xs ∧ xs.length ≤ i⟩
theorem turn_enumT {P : Program} {w : World} {K : PySem.W.Frag} {elts : List Expr} {kk : Nat} {tpos : Pos} (a e it : Addr) :
    Turn P w K (.Tuple elts kk tpos) (Itet K a) [e, it] e (fun i h => (∃ old, IsEnum h e it ((i : Nat) : Int) old) ∧ h.IsTupleIter it a i ∧ e ≠ it) where
  mem := by simp
  obj := fun i h st b hb => by
    obtain ⟨⟨old, he⟩, ⟨o, ho, hc, hd⟩, _⟩ := st
    have e' : b = e ∨ b = it := by simpa using hb
    rcases e' with z | z
    · rw [z]; exact ⟨_, he, fun v q => nomatch q⟩
    · rw [z]; exact ⟨o, ho, fun v q => by rw [hd] at q; cases q⟩
  keep := fun i h h' st k => let ⟨⟨old, he⟩, hi, hne⟩ := st; ⟨⟨old, k e (by simp) _ he⟩, hi.at fun o q => k it (by simp) o q, hne⟩
  item := by
    intro X hP hw hK hc i pins s σ H E I hf st hg
    subst hP hw hK
    obtain ⟨⟨old, he⟩, hit, hne⟩ := st
    obtain ⟨xs, x, hq, hx⟩ := hg
    obtain ⟨its, rv, p, hz⟩ := I.tuple hq
    obtain ⟨u, hu, ru⟩ := rv.get hx
    have hel : e < s.heap.objs.size := Heap.lt_size he
    have hil : it < s.heap.objs.size := by obtain ⟨_, q, _⟩ := hit; exact Heap.lt_size q
    have hp : s.heap.IsTuple a its.toArray := p
    have hai : a ≠ it := fun z => by
      obtain ⟨o1, q1, c1, _⟩ := hp
      obtain ⟨o2, q2, c2, _⟩ := hit
      rw [z, q2] at q1
      rw [Option.some.inj q1, c1] at c2
      exact absurd (Value.type.inj c2) (by decide)
    have hea : e ≠ a := fun z => by
      obtain ⟨o1, q1, c1, _⟩ := hp
      rw [← z, he] at q1
      rw [← Option.some.inj q1] at c1
      exact absurd (Value.type.inj c1) (by decide)
    have hlt : i < its.toArray.size := by
      have := (List.getElem?_eq_some_iff.mp hu).1
      simpa using this
    have hh : X.A.in1.handled = none := I.ok.hd hc
    refine wpAny_pyNext_enum_itemD (mw_draws hh it a hai its.toArray) he ⟨hit, hp⟩ hlt hne (by simp [hne, hea]) fun y h' tk hP ho hst' hT hsz hk => ?_
    have hy : y = u := by
      have h1 : its.toArray[i]? = some y := hP
      have h2 : its.toArray[i]? = some u := by simpa using hu
      rw [h2] at h1
      exact (Option.some.inj h1).symm
    subst hy
    refine ⟨_, rfl, wpAny_letOwnedTupleGo_enum (s := { s with heap := h', toks := tk + 1 }) ho fun h'' he' sb => ?_⟩
    have hT2 : h''.get? s.heap.objs.size = some { cls := .type "tuple", data := .seq #[.int i tk, y] } := (sb.2 _ (Nat.ne_of_gt hel)).trans hT
    have new : ObjOk X.prog X.w (upd H s.heap.objs.size (.tup [.int (i : Nat), x])) h'' s.heap.objs.size (.tup [.int (i : Nat), x]) :=
      ⟨by show 2 ≤ sizeLine; decide, [.int i tk, y], .cons ⟨_, rfl⟩ (.cons ru .nil), ⟨_, hT2, rfl, _, rfl⟩⟩
    have I1 : Inv X pins σ (upd H s.heap.objs.size (.tup [.int (i : Nat), x])) { s with heap := h'', toks := tk + 1 } :=
      I.turnedNew (ch := [e, it]) (fun b ob hb q => (sb.2 b (fun z => hb (by simp [z]))).trans (hk b ob (fun z => hb (by simp [z])) (fun z => hb (by simp [z])) q)) hf (Nat.le_refl _) new
    refine ⟨.ref s.heap.objs.size, _, I1, rfl, ⟨_, x, rfl, I.hok.fresh (Nat.le_refl _), rfl, fun ys hy => by rw [I.tuple_inj hy hq]; exact hx⟩, ⟨⟨y, ?_⟩, hst'.1.at fun o q => (sb.2 it (Ne.symm hne)).trans q, hne⟩, fun b hb => ?_⟩
    · have e1 : ((i + 1 : Nat) : Int) = (i : Int) + 1 := by omega
      rw [e1]; exact he'
    · have hb' : b < s.heap.objs.size := by
        have e' : b = e ∨ b = it := by simpa using hb
        rcases e' with z | z
        · rw [z]; exact hel
        · rw [z]; exact hil
      rw [upd_ne (Nat.ne_of_lt hb')]
      exact (hf b hb).1
  done := by
    intro X hP hw hK hc i pins s σ H E I hf st hg
    subst hP hw hK
    obtain ⟨⟨old, he⟩, hit, hne⟩ := st
    obtain ⟨xs, hq, hx⟩ := hg
    obtain ⟨its, rv, p, hz⟩ := I.tuple hq
    obtain ⟨f0, f1, f2, f3, f4, f5⟩ := hf it (by simp)
    have hl := rv.length
    have hp : s.heap.IsTuple a its.toArray := p
    have hai : a ≠ it := fun z => by
      obtain ⟨o1, q1, c1, _⟩ := hp
      obtain ⟨o2, q2, c2, _⟩ := hit
      rw [z, q2] at q1
      rw [Option.some.inj q1, c1] at c2
      exact absurd (Value.type.inj c2) (by decide)
    have hh : X.A.in1.handled = none := I.ok.hd hc
    exact wpAny_pyNext_enum_endT hh he hit hp (by simp; omega) fun h' eb => ⟨rfl, I.turned (t' := s.toks) (fun b o hb q => eb b o hb q) f0 f1 f3 f4 f5⟩
  self := fun A i s Q E st h => let ⟨⟨_, he⟩, _⟩ := st; wpAny_pyIter_enum he h
def iEnumT (K : PySem.W.Frag) (ta : TA) : TI := fun σ H R => ta σ H fun vs H1 => ∃ a xs, vs = [.ref a] ∧ SqT K H1 a xs ∧ R (Itet K a) H1
theorem pi_enumT {X : Cx} {K : PySem.W.Frag} (hK : X.K = K) {e : Expr} {ta : TA} {p pos tpos : Pos} {elts : List Expr} {kk : Nat} (hg : Gl X "enumerate") (hm : X.mg "enumerate" = none) (ha : PA X [e] ta) (hs : starEach [e] X.env = [(false, eval e X.env)] := by rfl) :
    PI X (.Tuple elts kk tpos) (.Call (.Name "enumerate" p) [e] [] pos) (iEnumT K ta) := by
  subst hK
  refine ⟨fun pins s σ H R I h => ?_⟩
  refine Call_ (ld_blt I hg hm boot_enumerate (PyProof.Rows.callWith_type1 (thn (ha.run pos pins s σ H _ I h) fun us s1 ⟨vs, H1, I1, r1, q1⟩ => ?_) hs rfl))
  obtain ⟨a, xs, ex, hq, q⟩ := q1
  subst ex
  cases r1 with
  | cons r rr =>
    cases rr
    cases r
    obtain ⟨its, rv, p', hz⟩ := I1.tuple hq
    refine mw_call_enum (show s1.heap.IsTuple a its.toArray from p') fun h' he hit hsz hk => wpAny_pyIter_enum he ?_
    have I2 : Inv X pins σ H1 { s1 with heap := h' } := I1.kept (t' := s1.toks) hk
    refine ⟨s1.heap.objs.size + 1, [s1.heap.objs.size + 1, s1.heap.objs.size], _, _, H1, rfl, I2, turn_enumT a (s1.heap.objs.size + 1) s1.heap.objs.size, ⟨⟨.none, he⟩, hit, Nat.succ_ne_self _⟩, fun b hb => ?_, q⟩
    have e' : b = s1.heap.objs.size + 1 ∨ b = s1.heap.objs.size := by simpa using hb
    have hle : s1.heap.objs.size ≤ b := by
      rcases e' with z | z
      · rw [z]; exact Nat.le_add_right _ _
      · rw [z]; exact Nat.le_refl _
    exact I1.fpOk hle (I1.hok.fresh hle)
end L2
end
section
set_option Elab.async false
set_option linter.all false
set_option maxRecDepth 100000
set_option maxHeartbeats 4000000
/-! # Loops over enumerate -/
namespace Mw
open PySem PySem.Spec PyProof.Rows L2 Evl
section
variable {K : Frg} {σ : L2.St} {B H : Hp} {ta : TA} {D : Ends} {tu tz : TS}
theorem for_enum {a : Addr} {xs : List V} {g : TG} (Pv : Nat → L2.St → Hp → Prop) (h0 : Pv 0 σ H) (hl : ∀ i σ H, i ≤ xs.length → Pv i σ H → SqL K H a xs)
    (hs : ∀ i x T σ H, xs[i]? = some x → Pv i σ H → H T = none → g (.ref T) σ (upd H T (.tup [.int (i : Nat), x])) fun σ2 H2 => tu { D with nx := Pv (i + 1), ct := Pv (i + 1), bk := D.nx } σ2 H2) (hd : ∀ σ H, Pv xs.length σ H → D.nx σ H) :
    ∃ W : Nat → Nat → L2.St → Hp → Prop, (∃ m, W 0 m σ H) ∧ ∀ i m σ H, W i m σ H →
      ((Ite K a).stop i H ∧ D.nx σ H) ∨ ((Ite K a).go i H ∧ ∃ N : L2.St → Hp → Prop, (∀ σ' H', N σ' H' → ∃ m', m' < m ∧ W (i + 1) m' σ' H') ∧ ∀ x H', (Ite K a).yld i H x H' → g x σ H' fun σ2 H2 => tu { D with nx := N, ct := N, bk := D.nx } σ2 H2) := by
  refine ⟨fun i m σ H => m = xs.length - i ∧ i ≤ xs.length ∧ Pv i σ H, ⟨xs.length, by simp, Nat.zero_le _, h0⟩, ?_⟩
  rintro i m σ H ⟨rfl, hi, p⟩
  have q := hl i σ H hi p
  by_cases hlt : i < xs.length
  · refine .inr ⟨⟨xs, xs[i], q, by simp [hlt]⟩, Pv (i + 1), fun σ' H' p' => ⟨xs.length - (i + 1), by omega, rfl, hlt, p'⟩, fun x H' y => ?_⟩
    obtain ⟨T, z, rfl, hT, rfl, hz⟩ := y
    exact hs i z T σ H (hz xs q) p hT
  · have e : i = xs.length := by omega
    subst e
    exact .inl ⟨⟨xs, q, Nat.le_refl _⟩, hd σ H p⟩
theorem for_enumT {a : Addr} {xs : List V} {g : TG} (Pv : Nat → L2.St → Hp → Prop) (h0 : Pv 0 σ H) (hl : ∀ i σ H, i ≤ xs.length → Pv i σ H → SqT K H a xs)
    (hs : ∀ i x T σ H, xs[i]? = some x → Pv i σ H → H T = none → g (.ref T) σ (upd H T (.tup [.int (i : Nat), x])) fun σ2 H2 => tu { D with nx := Pv (i + 1), ct := Pv (i + 1), bk := D.nx } σ2 H2) (hd : ∀ σ H, Pv xs.length σ H → D.nx σ H) :
    ∃ W : Nat → Nat → L2.St → Hp → Prop, (∃ m, W 0 m σ H) ∧ ∀ i m σ H, W i m σ H →
      ((Itet K a).stop i H ∧ D.nx σ H) ∨ ((Itet K a).go i H ∧ ∃ N : L2.St → Hp → Prop, (∀ σ' H', N σ' H' → ∃ m', m' < m ∧ W (i + 1) m' σ' H') ∧ ∀ x H', (Itet K a).yld i H x H' → g x σ H' fun σ2 H2 => tu { D with nx := N, ct := N, bk := D.nx } σ2 H2) := by
  refine ⟨fun i m σ H => m = xs.length - i ∧ i ≤ xs.length ∧ Pv i σ H, ⟨xs.length, by simp, Nat.zero_le _, h0⟩, ?_⟩
  rintro i m σ H ⟨rfl, hi, p⟩
  have q := hl i σ H hi p
  by_cases hlt : i < xs.length
  · refine .inr ⟨⟨xs, xs[i], q, by simp [hlt]⟩, Pv (i + 1), fun σ' H' p' => ⟨xs.length - (i + 1), by omega, rfl, hlt, p'⟩, fun x H' y => ?_⟩
    obtain ⟨T, z, rfl, hT, rfl, hz⟩ := y
    exact hs i z T σ H (hz xs q) p hT
  · have e : i = xs.length := by omega
    subst e
    exact .inl ⟨⟨xs, q, Nat.le_refl _⟩, hd σ H p⟩
/-- the pair's target -/
theorem g_pair {i j : Nat} {T : Addr} {x1 x2 : V} {Q : L2.St → Hp → Prop} {H : Hp} (hT : H T = some (.tup [x1, x2])) (k : Q ((σ.set i (some x1)).set j (some x2)) H) : gTup K 2 (gCons (gName i) (gCons (gName j) gNil)) (.ref T) σ H Q :=
  ⟨T, _, rfl, st_of hT, rfl, _, _, rfl, _, _, rfl, rfl, k⟩
/-- the statement of a turn, told by data -/
def TurnE (K : Frg) (B1 : Hp) (ds : List PyData) (i1 i2 : Nat) (D : Ends) (tu : TS) (bk : L2.St → Hp → Prop) (Pv : Nat → L2.St → Hp → Prop) : Prop := ∀ (i : Nat) (x : V) (d : PyData) σ' H', ds[i]? = some d → Rp K B1 x d → Pv i σ' H' → ∀ H2, Ex H' H2 → tu { D with nx := Pv (i + 1), ct := Pv (i + 1), bk := bk } ((σ'.set i1 (some (.int (i : Int)))).set i2 (some x)) H2
/-- for i, x in enumerate(l), then the rest -/
theorem qd_forE {ds : List PyData} {i1 i2 : Nat} (le : Ex B H) (h : GA K ta σ B [.list ds]) (k : ∀ (a : Addr) (xs : List V) B1 H1, At B H B1 H1 → B1 a = some (.lst xs) → RpAll K B1 xs ds →
      ∃ Pv : Nat → L2.St → Hp → Prop, Pv 0 σ H1 ∧ (∀ i σ' H', Pv i σ' H' → Ex B1 H') ∧ TurnE K B1 ds i1 i2 D tu (tz D) Pv ∧ ∀ σ' H', Pv ds.length σ' H' → tz D σ' H') : tSeq (tFor (iEnum K ta) (gTup K 2 (gCons (gName i1) (gCons (gName i2) gNil))) tu) tz D σ H := h H le _ fun vs B1 H1 a1 r1 => by
  obtain ⟨v, rfl, r2⟩ := r1.n1
  obtain ⟨a, xs, rfl, ha, ra⟩ := r2.isLst
  obtain ⟨Pv, p0, pl, ps, pd⟩ := k a xs B1 H1 a1 ha ra
  refine ⟨a, xs, rfl, sq_of (a1.le _ _ ha), for_enum (D := { D with nx := tz D }) (xs := xs) Pv p0 (fun i σ' H' _ p => sq_of (pl i σ' H' p _ _ ha)) (fun i x T σ' H' hi p hT => ?_) fun σ' H' p => ?_⟩
  · obtain ⟨d, e1, rx⟩ := ra.at_ hi
    exact g_pair upd_same (ps i x d σ' H' e1 rx p _ (Ex.new hT))
  · rw [ra.len] at p
    exact pd σ' H' p
theorem qd_forET {ds : List PyData} {i1 i2 : Nat} (le : Ex B H) (h : GA K ta σ B [.tuple ds]) (k : ∀ (a : Addr) (xs : List V) B1 H1, At B H B1 H1 → B1 a = some (.tup xs) → RpAll K B1 xs ds →
      ∃ Pv : Nat → L2.St → Hp → Prop, Pv 0 σ H1 ∧ (∀ i σ' H', Pv i σ' H' → Ex B1 H') ∧ TurnE K B1 ds i1 i2 D tu (tz D) Pv ∧ ∀ σ' H', Pv ds.length σ' H' → tz D σ' H') : tSeq (tFor (iEnumT K ta) (gTup K 2 (gCons (gName i1) (gCons (gName i2) gNil))) tu) tz D σ H := h H le _ fun vs B1 H1 a1 r1 => by
  obtain ⟨v, rfl, r2⟩ := r1.n1
  obtain ⟨a, xs, rfl, ha, ra⟩ := r2.isTup
  obtain ⟨Pv, p0, pl, ps, pd⟩ := k a xs B1 H1 a1 ha ra
  refine ⟨a, xs, rfl, st_of (a1.le _ _ ha), for_enumT (D := { D with nx := tz D }) (xs := xs) Pv p0 (fun i σ' H' _ p => st_of (pl i σ' H' p _ _ ha)) (fun i x T σ' H' hi p hT => ?_) fun σ' H' p => ?_⟩
  · obtain ⟨d, e1, rx⟩ := ra.at_ hi
    exact g_pair upd_same (ps i x d σ' H' e1 rx p _ (Ex.new hT))
  · rw [ra.len] at p
    exact pd σ' H' p
/-- the same as a body's last statement -/
theorem sd_forE {ds : List PyData} {i1 i2 : Nat} (le : Ex B H) (h : GA K ta σ B [.list ds]) (k : ∀ (a : Addr) (xs : List V) B1 H1, At B H B1 H1 → B1 a = some (.lst xs) → RpAll K B1 xs ds →
      ∃ Pv : Nat → L2.St → Hp → Prop, Pv 0 σ H1 ∧ (∀ i σ' H', Pv i σ' H' → Ex B1 H') ∧ TurnE K B1 ds i1 i2 D tu D.nx Pv ∧ ∀ σ' H', Pv ds.length σ' H' → D.nx σ' H') : tFor (iEnum K ta) (gTup K 2 (gCons (gName i1) (gCons (gName i2) gNil))) tu D σ H := h H le _ fun vs B1 H1 a1 r1 => by
  obtain ⟨v, rfl, r2⟩ := r1.n1
  obtain ⟨a, xs, rfl, ha, ra⟩ := r2.isLst
  obtain ⟨Pv, p0, pl, ps, pd⟩ := k a xs B1 H1 a1 ha ra
  refine ⟨a, xs, rfl, sq_of (a1.le _ _ ha), for_enum (D := D) (xs := xs) Pv p0 (fun i σ' H' _ p => sq_of (pl i σ' H' p _ _ ha)) (fun i x T σ' H' hi p hT => ?_) fun σ' H' p => ?_⟩
  · obtain ⟨d, e1, rx⟩ := ra.at_ hi
    exact g_pair upd_same (ps i x d σ' H' e1 rx p _ (Ex.new hT))
  · rw [ra.len] at p
    exact pd σ' H' p
end
end Mw
end
section
set_option Elab.async false
set_option linter.all false
set_option maxRecDepth 100000
set_option maxHeartbeats 4000000
/-! # Dicts whose keys are tuples of numbers; values out of a list beside the base -/
namespace Mw
open PySem PySem.Spec PyProof.Rows L2 Evl
mutual
/-- no list, no dict within -/
def flatD : PyData → Bool
  | .list _ => false
  | .dict _ => false
  | .tuple ds => flatDs ds
  | _ => true
def flatDs : List PyData → Bool
  | [] => true
  | d :: ds => flatD d && flatDs ds
end
theorem flat_ints : ∀ l : List Int, flatDs (l.map .int) = true
  | [] => rfl
  | i :: r => by
    show (true && flatDs (r.map .int)) = true
    rw [flat_ints r]
    rfl
section
variable {K : Frg} {B B1 : Hp}
mutual
theorem Rp.tupsOnly (e : ∀ a xs, B a = some (.tup xs) → B1 a = some (.tup xs)) : ∀ (d : PyData) (v : V), flatD d = true → Rp K B v d → Rp K B1 v d
  | .none, _, _, h => by
    cases h
    exact .non
  | .bool b, _, _, h => by
    cases h
    exact .bl b
  | .int i, _, _, h => by
    cases h
    exact .int i
  | .str s, _, _, h => by cases h
  | .list ds, _, c, h => by cases c
  | .tuple ds, _, c, h => by
    cases h with
    | tup a b => exact .tup (e _ _ a) (RpAll.tupsOnly e ds _ c b)
  | .dict ks, _, c, h => by cases c
theorem RpAll.tupsOnly (e : ∀ a xs, B a = some (.tup xs) → B1 a = some (.tup xs)) : ∀ (ds : List PyData) (vs : List V), flatDs ds = true → RpAll K B vs ds → RpAll K B1 vs ds
  | [], _, _, h => by
    cases h
    exact .nil
  | d :: ds, _, c, h => by
    cases h with
    | cons a t =>
      have c2 : (flatD d && flatDs ds) = true := c
      rw [Bool.and_eq_true] at c2
      exact .cons (Rp.tupsOnly e d _ c2.1 a) (RpAll.tupsOnly e ds _ c2.2 t)
end
/-- the base without p -/
def rem (B : Hp) (p : Addr) : Hp := fun a => if a = p then none else B a
theorem rem_ne {p a : Addr} (h : a ≠ p) : rem B p a = B a := if_neg h
theorem rem_at {p : Addr} : rem B p p = none := if_pos rfl
/-- what is reckoned with p's present content, flat data: p stays beside the base -/
theorem thaw {te : TE} {σ : L2.St} {H : Hp} {p : Addr} {o : HO} {d : PyData} (le : Ex B H) (hB : B p = none) (hp : H p = some o) (ho : ∀ xs, o ≠ .tup xs) (hd : flatD d = true) (h : Gv K te σ (upd B p o) d) {Q : VK}
    (q : ∀ v B' H', At B H B' H' → B' p = none → Rp K B' v d → Q v H') : te σ H Q := by
  have le2 : Ex (upd B p o) H := fun x u e => by
    by_cases c : x = p
    · subst c
      rw [upd_same] at e
      rw [hp]
      exact e
    · rw [upd_ne c] at e
      exact le x u e
  refine h H le2 _ fun v B1 H1 a r => ?_
  have hp1 : B1 p = some o := a.base p o upd_same
  refine q v (rem B1 p) H1 ⟨fun x u e => ?_, fun x u e => ?_, a.keep, fun x u e => ?_⟩ rem_at (r.tupsOnly (fun x xs e => ?_) d v hd)
  · have c : x ≠ p := fun z => by rw [z, hB] at e; cases e
    rw [rem_ne c]
    exact a.base x u (by rw [upd_ne c]; exact e)
  · by_cases c : x = p
    · rw [c, rem_at] at e
      cases e
    · rw [rem_ne c] at e
      exact a.le x u e
  · by_cases c : x = p
    · rw [c, rem_at] at e
      cases e
    · rw [rem_ne c] at e
      rcases a.fr x u e with z | z
      · rw [upd_ne c] at z
        exact .inl z
      · exact .inr z
  · have c : x ≠ p := fun z => by
      rw [z, hp1] at e
      exact ho xs (Option.some.inj e)
    rw [rem_ne c]
    exact e
/-! ### keys -/
def kk (l : List Nat) : List Key := (zs l).map Sum.inl
theorem kk_inj {l m : List Nat} (h : kk l = kk m) : l = m := by
  unfold kk zs at h
  rw [List.map_map, List.map_map] at h
  have e := congrArg (List.map fun k : Key => match k with
    | .inl i => i.toNat
    | .inr _ => 0) h
  rw [List.map_map, List.map_map] at e
  have f : ∀ l : List Nat, l.map ((fun k : Key => match k with
    | .inl i => i.toNat
    | .inr _ => 0) ∘ (Sum.inl ∘ fun n : Nat => (n : Int))) = l := fun l => by
    induction l with
    | nil => rfl
    | cons x r ih => rw [List.map_cons, ih]; rfl
  rw [f, f] at e
  exact e
theorem kk_kV (l : List Nat) : (kk l).map kV = (zs l).map V.int := by
  unfold kk
  rw [List.map_map]
  rfl
/-- a tuple of numbers, as a key -/
theorem Rp.isKey {v : V} {l : List Nat} (h : Rp K B v (dT l)) : ∃ b, v = .ref b ∧ B b = some (.tup ((kk l).map kV)) := by
  obtain ⟨a, xs, rfl, ha, r⟩ := h.isTup
  obtain rfl := r.isInts
  exact ⟨a, rfl, by rw [kk_kV]; exact ha⟩
/-- the dict's keys are these -/
def KeysOf (kvs : List (List Key × V)) (ls : List (List Nat)) : Prop := kvs.map Prod.fst = ls.map kk
theorem KeysOf.some {kvs : List (List Key × V)} {ls : List (List Nat)} (h : KeysOf kvs ls) (l : List Nat) : (valV kvs (kk l)).isSome = decide (l ∈ ls) := by
  rw [← valV_any]
  have e : (kvs.any fun kv => decide (kv.1 = kk l)) = (kvs.map Prod.fst).any fun k => decide (k = kk l) := by rw [List.any_map]; rfl
  rw [e, h, List.any_map]
  by_cases c : l ∈ ls
  · rw [decide_eq_true c]
    exact List.any_eq_true.mpr ⟨l, c, decide_eq_true rfl⟩
  · rw [decide_eq_false c]
    refine List.any_eq_false.mpr fun m hm q => c ?_
    have q2 : kk m = kk l := of_decide_eq_true q
    rw [← kk_inj q2]
    exact hm
theorem KeysOf.put {kvs : List (List Key × V)} {ls : List (List Nat)} (h : KeysOf kvs ls) {l : List Nat} (hl : ¬ l ∈ ls) (v : V) : putK kvs (kk l) v = kvs ++ [(kk l, v)] ∧ KeysOf (kvs ++ [(kk l, v)]) (ls ++ [l]) := by
  constructor
  · unfold putK
    rw [valV_any, h.some l, decide_eq_false hl, if_neg (by decide)]
  · unfold KeysOf
    rw [List.map_append, List.map_append, h]
    rfl
theorem KeysOf.len {kvs : List (List Key × V)} {ls : List (List Nat)} (h : KeysOf kvs ls) : kvs.length = ls.length := by
  have e := congrArg List.length h
  rw [List.length_map, List.length_map] at e
  exact e
/-- k not in d, both in the heap -/
theorem et_notin {σ : L2.St} {H : Hp} {ty td : TE} {dk : Addr} {kvs : List (List Key × V)} {ls : List (List Nat)} {l : List Nat} {v : V} (hy : Ev ty σ H v) (hv : Rp K H v (dT l)) (hd : Ev td σ H (.ref dk)) (hk : H dk = some (.dT kvs)) (ho : KeysOf kvs ls) :
    EvT (tB (tDNotIn ty td)) σ H (!decide (l ∈ ls)) := fun H1 e1 Q q => by
  refine hy H1 e1 _ fun H2 e2 => hd H2 (e1.trans e2) _ fun H3 e3 => ?_
  obtain ⟨b, rfl, hb⟩ := hv.isKey
  have e4 := (e1.trans e2).trans e3
  exact ⟨dk, _, rfl, DGet.t (e4 _ _ hk) (e4 _ _ hb), _, rfl, by rw [ho.some l]; exact q H3 (e2.trans e3)⟩
theorem ev_din {σ : L2.St} {H : Hp} {ty td : TE} {dk : Addr} {kvs : List (List Key × V)} {ls : List (List Nat)} {l : List Nat} (hy : Gv K ty σ H (dT l)) (hd : Ev td σ H (.ref dk)) (hk : H dk = some (.dT kvs)) (ho : KeysOf kvs ls) :
    Ev (tDIn ty td) σ H (.bl (decide (l ∈ ls))) := fun H1 e1 Q q => by
  refine hy H1 e1 _ fun v B2 H2 a2 r2 => hd H2 (e1.trans a2.keep) _ fun H3 e3 => ?_
  obtain ⟨b, rfl, hb⟩ := r2.isKey
  have e4 := (e1.trans a2.keep).trans e3
  exact ⟨dk, _, rfl, DGet.t (e4 _ _ hk) (e3 _ _ (a2.le _ _ hb)), by rw [ho.some l]; exact q H3 (a2.keep.trans e3)⟩
end
end Mw
end
section
set_option Elab.async false
set_option linter.all false
set_option maxRecDepth 100000
set_option maxHeartbeats 4000000
/-! # extend, tuples joined, lists against [], data in lists -/
namespace Mw
open PySem PySem.Spec PyProof.Rows L2 Evl
section
variable {K : Frg} {σ : L2.St} {B B0 H0 H : Hp} {te ta tb : TE} {D : Ends}
/-- l.extend(e): l beside the base; the items join it -/
theorem sd_extend {p : Addr} {xs : List V} {es : List PyData} {tp : TE} (a : At B0 H0 B H) (h0 : H0 p = none) (hB : B p = none) (hp : H p = some (.lst xs)) (hl : xs.length + es.length ≤ 100000) (he : ∀ H', Ex H H' → Ev tp σ H' (.ref p)) (h : Gv K te σ B (.list es))
    (k : ∀ ys B' H', At B0 H0 B' H' → Ex B B' → B' p = none → RpAll K B' ys es → H' p = some (.lst (xs ++ ys)) → Off B H B' H' p → D.nx σ H') : tDrop (tBM K "list" rExtend tp (tCons te tNil)) D σ H :=
  he H (Ex.refl _) H (Ex.refl _) _ fun H1 e1 => ⟨Or.inl ⟨rfl, xs, sq_of (e1 p _ hp)⟩, h H1 (a.le.trans e1) _ fun v B2 H2 a2 r2 => by
    have a3 : At B H B2 H2 := ⟨a2.base, a2.le, e1.trans a2.keep, fun x u e => by
      rcases a2.fr x u e with q | q | q
      · exact .inl q
      · exact .inr (.inl (fresh_back e1 q))
      · exact .inr (.inr q)⟩
    have hp2 : H2 p = some (.lst xs) := a3.keep p _ hp
    have n2 : B2 p = none := a3.off hB hp lst_tup
    obtain ⟨b, ys, rfl, hb, ry⟩ := r2.isLst
    exact ⟨p, b, xs, ys, rfl, rfl, hp2, a2.le b _ hb, sz_of (by rw [ry.len]; exact hl), k ys B2 _ ((a.trans a3).mut n2 h0) a2.base n2 ry upd_same fun x u c e => ⟨by
      rw [upd_ne c]
      exact a3.keep x u e, fun hb ht => a3.off hb e ht⟩⟩⟩
/-- t + u, tuples -/
theorem gv_catA {ds es : List PyData} (ha : Gv K ta σ B (.tuple ds)) (hb : Gv K tb σ B (.tuple es)) (hl : ds.length + es.length ≤ 100000) : Gv K (tOp (rCatA K) ta tb) σ B (.tuple (ds ++ es)) := fun H le Q q =>
  ha H le _ fun v B1 H1 a1 r1 => (hb.mono a1.base) H1 a1.le _ fun u B2 H2 a2 r2 => by
    obtain ⟨a, xs, rfl, hs, ra⟩ := r1.isTup
    obtain ⟨b, ys, rfl, hy, rb⟩ := r2.isTup
    have ra2 := ra.mono a2.base
    refine ⟨a, b, xs, ys, rfl, rfl, st_of (a2.keep a _ (a1.le a _ hs)), st_of (a2.le b _ hy), sz_of (by rw [ra.len, rb.len]; exact hl), fun hx => ?_, fun hx hy0 => ?_, fun hx hy0 p hp => ?_⟩
    · subst hx
      cases ra2
      exact q _ B2 H2 (a1.trans a2) (.tup hy rb)
    · subst hy0
      cases rb
      rw [List.append_nil] at q
      exact q _ B2 H2 (a1.trans a2) (.tup (a2.base _ _ hs) ra2)
    · exact q _ _ _ ((a1.trans a2).trans (At.new a2.le hp)) (.tup upd_same (RpAll.mono (Ex.new (fresh_back a2.le hp)) (ra2.append rb)))
/-! ### lists against [] -/
theorem shaped_nil : SeqAt.shaped (.list []) = true := by decide +kernel
theorem eqv_nil (ds : List PyData) : PyData.eqv (.list ds) (.list []) = ds.isEmpty := by
  cases ds with
  | nil => rfl
  | cons d r => rfl
theorem ev_neE {ds : List PyData} (h : Gv K te σ B (.list ds)) (hs : SeqAt.shaped (.list ds) = true) : Ev (tOp (rNeD K) te (tLst tNil)) σ B (.bl (!ds.isEmpty)) := fun H le Q q =>
  h H le _ fun v B1 H1 a1 r1 => ⟨Nat.zero_le _, fun p hp => ⟨.list ds, .list [], Rp.dp K _ _ _ (SeqAt.canLay_of_shaped hs) (r1.mono (a1.le.trans (Ex.new hp))), .lst (sq_of upd_same) .nil, hs, shaped_nil, by
    rw [eqv_nil]
    exact q _ (a1.keep.trans (Ex.new hp))⟩⟩
theorem ev_eqE {ds : List PyData} (h : Gv K te σ B (.list ds)) (hs : SeqAt.shaped (.list ds) = true) : Ev (tOp (rEqD K) te (tLst tNil)) σ B (.bl ds.isEmpty) := fun H le Q q =>
  h H le _ fun v B1 H1 a1 r1 => ⟨Nat.zero_le _, fun p hp => ⟨.list ds, .list [], Rp.dp K _ _ _ (SeqAt.canLay_of_shaped hs) (r1.mono (a1.le.trans (Ex.new hp))), .lst (sq_of upd_same) .nil, hs, shaped_nil, by
    rw [eqv_nil]
    exact q _ (a1.keep.trans (Ex.new hp))⟩⟩
/-! ### shapes -/
theorem lay_all : ∀ {ds : List PyData}, (∀ d ∈ ds, d.canLay0 = true) → PyData.canLayAll0 ds = true
  | [], _ => rfl
  | d :: r, h => by
    show (d.canLay0 && PyData.canLayAll0 r) = true
    rw [h d (List.mem_cons_self ..), lay_all fun x hx => h x (List.mem_cons_of_mem _ hx)]
    rfl
theorem depth_all {n : Nat} : ∀ {ds : List PyData}, (∀ d ∈ ds, d.depth ≤ n) → PyData.depthAll ds ≤ n
  | [], _ => by simp [PyData.depthAll]
  | d :: r, h => by
    have h1 := h d (List.mem_cons_self ..)
    have h2 := depth_all (ds := r) fun x hx => h x (List.mem_cons_of_mem _ hx)
    simp only [PyData.depthAll]
    omega
/-- a shape: can be laid, at most so deep -/
structure Shp (n : Nat) (d : PyData) : Prop where
  lay : d.canLay0 = true
  dep : d.depth ≤ n
theorem Shp.int (i : Int) : Shp 1 (.int i) := ⟨rfl, by simp [PyData.depth]⟩
theorem Shp.lst {n : Nat} {ds : List PyData} (h : ∀ d ∈ ds, Shp n d) : Shp (n + 1) (.list ds) := ⟨lay_all fun d hd => (h d hd).lay, by
  have := depth_all fun d hd => (h d hd).dep
  simp only [PyData.depth]
  omega⟩
theorem Shp.tup {n : Nat} {ds : List PyData} (h : ∀ d ∈ ds, Shp n d) : Shp (n + 1) (.tuple ds) := ⟨lay_all fun d hd => (h d hd).lay, by
  have := depth_all fun d hd => (h d hd).dep
  simp only [PyData.depth]
  omega⟩
theorem Shp.mono {n m : Nat} {d : PyData} (h : Shp n d) (hm : n ≤ m) : Shp m d := ⟨h.lay, Nat.le_trans h.dep hm⟩
theorem Shp.ok {n : Nat} {d : PyData} (h : Shp n d) (hn : n ≤ 64 := by omega) : SeqAt.shaped d = true := by
  show (d.canLay0 && decide (d.depth ≤ 64)) = true
  rw [h.lay, decide_eq_true (Nat.le_trans h.dep hn)]
  rfl
theorem shp_dT (l : List Nat) : Shp 2 (dT l) := .tup fun d hd => by
  obtain ⟨i, _, rfl⟩ := List.mem_map.mp hd
  exact .int i
theorem shp_dL (l : List Nat) : Shp 2 (dL l) := .lst fun d hd => by
  obtain ⟨i, _, rfl⟩ := List.mem_map.mp hd
  exact .int i
theorem shp_dTs (l : List (List Nat)) : Shp 3 (dTs l) := .lst fun d hd => by
  obtain ⟨i, _, rfl⟩ := List.mem_map.mp hd
  exact shp_dT i
theorem shp_pair (p : Nat × Nat) : Shp 2 (dPair p) := .tup fun d hd => by
  rcases List.mem_cons.mp hd with q | q
  · rw [q]
    exact .int _
  · rw [List.mem_singleton.mp q]
    exact .int _
theorem shp_pairs (l : List (Nat × Nat)) : Shp 3 (dPairs l) := .lst fun d hd => by
  obtain ⟨i, _, rfl⟩ := List.mem_map.mp hd
  exact shp_pair i
end
end Mw
end
section
set_option Elab.async false
set_option linter.all false
set_option maxRecDepth 100000
set_option maxHeartbeats 4000000
/-! # Walks: path counts -/
namespace Mw
open PySem PySem.Spec PyProof.Rows L2 Evl
section
variable {P : Program} {w : World} {K : Frg} {mg : Str → Option Value} {base : Heap}
def F_identity (ds : List PyData) (d : PyData) : Prop := ∃ n, ds = [dI n] ∧ d = dL (identity n) ∧ Sz n
theorem sc_identity : FnScope ["size", "place"] ["size"] MwH.d_identity.scope := ⟨rfl, rfl, rfl, by decide +kernel, rfl, by decide +kernel, by decide +kernel⟩
theorem ok_identity (T : Txt K mg) : Has P w K mg base 1 "identity" ["size"] (spD K F_identity) := by
  refine has_def (N := ["size", "place"]) T 0 rfl rfl rfl rfl rfl sc_identity (fun _ _ _ _ _ _ us hl => match us, hl with | [_], _ => rfl) (fun ds d h => by obtain ⟨n, rfl, rfl, hn⟩ := h; rfl) fun f cdv A outer s H E hr vs B ds dd Q le r hF q => ?_
  obtain ⟨n, rfl, rfl, hn⟩ := hF
  obtain ⟨x_size, rfl, r_size⟩ := RpAll.n1 r
  refine ⟨_, (pss_one (ps_ret (pe_lc (own := [("place", 1)]) rfl sc_identity.nd (pi_range1 (by rfl) (T.free 133 rfl) (pa_cons (pe_op op_mul (pv 0) (pv 0)) pa_nil)) (blkOk_by (own := [("place", 1)]) (N := ["size", "place"]) (sc := MwH.d_identity.scope) (by decide +kernel)) (fun _ _ _ _ _ => (pg_name (i := 1) sc_identity.nd rfl (Or.inl rfl))) (fun _ _ _ _ _ => pts_nil) (fun _ _ _ _ _ => (pe_callTy call_int1 (by rfl) (T.free 134 rfl) (by decide +kernel) (pa_cons (pe_cmpR op_eq (pe_op op_fdiv (pv 1) (pv 0)) (pe_op op_mod (pv 1) (pv 0)) (nomark _)) pa_nil)))))), ?_⟩
  have hp := hn.pos
  have h3 := hn.le
  have h9 : n * n ≤ 9 := Nat.mul_le_mul h3 h3
  refine qd_ret le (Gv.is (gv_lcR (n := n * n) (fun _ => true) (fun p => dI (if p / n = p % n then 1 else 0)) (ea_cons (ev_mul (.inl (by omega)) (ev_v rfl r_size) (ev_v rfl r_size)) ea_nil) (by omega) fun i B1 e1 hi => turn_name (fun _ => rfl) et_true fun _ => ?_) ?_) q
  · have rs := r_size.mono e1
    refine .int (ev_is (ev_intB (ea_cons (ev_eq (ev_div hp (by omega) (ev_var rfl) (ev_v rfl rs)) (ev_mod hp (ev_var rfl) (ev_v rfl rs))) ea_nil)) ?_)
    by_cases c : i / n = i % n
    · rw [if_pos c, decide_eq_true c]
      rfl
    · rw [if_neg c, decide_eq_false c]
      rfl
  · rw [gvn_all]
    refine dL_of ?_
    unfold identity
    rw [List.map_map]
    rfl
def F_product_entry (ds : List PyData) (d : PyData) : Prop := ∃ n a b p, ds = [dI n, dL a, dL b, dI p] ∧ d = dI (productEntry n a b p) ∧ Sz n ∧ a.length = n * n ∧ b.length = n * n ∧ p < n * n ∧ (∀ x ∈ b, x < 2 ^ 64)
theorem sc_product_entry : FnScope ["size", "one", "other", "place", "row", "column", "middle"] ["size", "one", "other", "place"] MwH.d_product_entry.scope := ⟨rfl, rfl, rfl, by decide +kernel, rfl, by decide +kernel, by decide +kernel⟩
theorem ok_product_entry (T : Txt K mg) : Has P w K mg base 1 "product_entry" ["size", "one", "other", "place"] (spD K F_product_entry) := by
  refine has_def (N := ["size", "one", "other", "place", "row", "column", "middle"]) T 1 rfl rfl rfl rfl rfl sc_product_entry (fun _ _ _ _ _ _ us hl => match us, hl with | [_, _, _, _], _ => rfl) (fun ds d h => by obtain ⟨n, a, b, p, rfl, rfl, hn, ha, hb, hp, hx⟩ := h; rfl) fun f cdv A outer s H E hr vs B ds dd Q le r hF q => ?_
  obtain ⟨n, a, b, p, rfl, rfl, hn, ha, hb, hp, hx⟩ := hF
  obtain ⟨x_size, x_one, x_other, x_place, rfl, r_size, r_one, r_other, r_place⟩ := RpAll.n4 r
  refine ⟨_, (pss_cons (ps_asg (pe_tup (pa_cons (pe_op op_fdiv (pv 3) (pv 0)) (pa_cons (pe_op op_mod (pv 3) (pv 0)) pa_nil))) (pg_tupK (K := K) (n := 2) rfl rfl (pgs_cons (pg_name (i := 4) sc_product_entry.nd rfl (Or.inr rfl)) (pgs_cons (pg_name (i := 5) sc_product_entry.nd rfl (Or.inr rfl)) pgs_nil)))) (pss_one (ps_ret (pe_callB (cr_sumK (K := K) rfl rfl) (by rfl) (T.free 132 rfl) (by decide +kernel) (pa_cons (pe_lc (own := [("middle", 6)]) rfl sc_product_entry.nd (pi_range1 (by rfl) (T.free 133 rfl) (pa_cons (pv 0) pa_nil)) (blkOk_by (own := [("middle", 6)]) (N := ["size", "one", "other", "place", "row", "column", "middle"]) (sc := MwH.d_product_entry.scope) (by decide +kernel)) (fun _ _ _ _ _ => (pg_name (i := 6) sc_product_entry.nd rfl (Or.inl rfl))) (fun _ _ _ _ _ => pts_nil) (fun _ _ _ _ _ => (pe_op op_mul (pe_ix (ix_listK (K := K) rfl) (pv 1) (pe_op op_add (pe_op op_mul (pv 4) (pv 0)) (pv 6)) (fun _ _ => rfl)) (pe_ix (ix_listK (K := K) rfl) (pv 2) (pe_op op_add (pe_op op_mul (pv 6) (pv 0)) (pv 5)) (fun _ _ => rfl))))) pa_nil))))), ?_⟩
  have hp0 := hn.pos
  have h3 := hn.le
  have hd : p / n < n := Nat.div_lt_of_lt_mul hp
  have hm : p % n < n := Nat.mod_lt p hp0
  have hn3 : ∀ i, i ≤ 3 → i * n ≤ 9 := fun i hi => Nat.mul_le_mul hi h3
  refine qd_two le (ga_int (ev_div hp0 (by omega) (ev_v rfl r_place) (ev_v rfl r_size)) (ga_int (ev_mod hp0 (ev_v rfl r_place) (ev_v rfl r_size)) ga_nil)) fun v1 v2 B1 H1 a1 r1 r2 => ?_
  obtain rfl := r1.isInt
  obtain rfl := r2.isInt
  refine qd_ret a1.le (Gv.is (.int (ev_sum (l := (List.range n).map fun m => a.getD (p / n * n + m) 0 * b.getD (m * n + p % n) 0) (ga_cons (Gv.is (gv_lcR (n := n) (fun _ => true) (fun m => dI (a.getD (p / n * n + m) 0 * b.getD (m * n + p % n) 0)) (ea_cons (ev_v rfl (r_size.mono a1.base)) ea_nil) (by omega) fun i B2 e2 hi => turn_name (fun _ => rfl) et_true fun _ => .int ?_) ?_) ga_nil))) ?_) fun v B' H' a2 r2 => q v B' H' (a1.trans a2) r2
  · have e3 := a1.base.trans e2
    have rs := r_size.mono e3
    have hb2 : i * n + p % n < b.length := by rw [hb]; exact idx_lt hi hm
    refine ev_mul (.inr ?_) (ev_at (gv_var rfl (r_one.mono e3)) (ev_add (ev_mul (.inr (by omega)) (ev_var rfl) (ev_v rfl rs)) (ev_var rfl)) (by rw [ha]; exact idx_lt hd hi)) (ev_at (gv_var rfl (r_other.mono e3)) (ev_add (ev_mul (.inr (by omega)) (ev_var rfl) (ev_v rfl rs)) (ev_var rfl)) hb2)
    exact hx _ (getD_mem hb2)
  · rw [gvn_all]
    refine dL_of ?_
    rw [List.map_map]
    rfl
  · rfl
def F_product_of (ds : List PyData) (d : PyData) : Prop := ∃ n a b, ds = [dI n, dL a, dL b] ∧ d = dL (productOf n a b) ∧ Sz n ∧ a.length = n * n ∧ b.length = n * n ∧ (∀ x ∈ b, x < 2 ^ 64)
theorem sc_product_of : FnScope ["size", "one", "other", "place"] ["size", "one", "other"] MwH.d_product_of.scope := ⟨rfl, rfl, rfl, by decide +kernel, rfl, by decide +kernel, by decide +kernel⟩
theorem ok_product_of (T : Txt K mg) : Has P w K mg base 2 "product_of" ["size", "one", "other"] (spD K F_product_of) := by
  refine has_def (N := ["size", "one", "other", "place"]) T 2 rfl rfl rfl rfl rfl sc_product_of (fun _ _ _ _ _ _ us hl => match us, hl with | [_, _, _], _ => rfl) (fun ds d h => by obtain ⟨n, a, b, rfl, rfl, hn, ha, hb, hx⟩ := h; rfl) fun f cdv A outer s H E hr vs B ds dd Q le r hF q => ?_
  obtain ⟨n, a, b, rfl, rfl, hn, ha, hb, hx⟩ := hF
  obtain ⟨x_size, x_one, x_other, rfl, r_size, r_one, r_other⟩ := RpAll.n3 r
  obtain ⟨f_product_entry, fd_product_entry, m_product_entry, k_product_entry, b_product_entry, G_product_entry⟩ := ok_product_entry (P := P) (w := w) (base := base) T
  refine ⟨_, (pss_one (ps_ret (pe_lc (own := [("place", 3)]) rfl sc_product_of.nd (pi_range1 (by rfl) (T.free 133 rfl) (pa_cons (pe_op op_mul (pv 0) (pv 0)) pa_nil)) (blkOk_by (own := [("place", 3)]) (N := ["size", "one", "other", "place"]) (sc := MwH.d_product_of.scope) (by decide +kernel)) (fun _ _ _ _ _ => (pg_name (i := 3) sc_product_of.nd rfl (Or.inl rfl))) (fun _ _ _ _ _ => pts_nil) (fun _ _ _ _ _ => (pe_call G_product_entry (hr.mono (by decide)) (by rfl) m_product_entry k_product_entry b_product_entry .nil pass0 (pa_cons (pv 0) (pa_cons (pv 1) (pa_cons (pv 2) (pa_cons (pv 3) pa_nil))))))))), ?_⟩
  have h3 := hn.le
  have h9 : n * n ≤ 9 := Nat.mul_le_mul h3 h3
  refine qd_ret le (Gv.is (gv_lcR (n := n * n) (fun _ => true) (fun p => dI (productEntry n a b p)) (ea_cons (ev_mul (.inl (by omega)) (ev_v rfl r_size) (ev_v rfl r_size)) ea_nil) (by omega) fun i B1 e1 hi => turn_name (fun _ => rfl) et_true fun _ => ?_) ?_) q
  · exact gv_call (ga_cons (gv_var rfl (r_size.mono e1)) (ga_cons (gv_var rfl (r_one.mono e1)) (ga_cons (gv_var rfl (r_other.mono e1)) (ga_int (ev_var rfl) ga_nil)))) ⟨n, a, b, i, rfl, rfl, hn, ha, hb, hi, hx⟩
  · rw [gvn_all]
    refine dL_of ?_
    unfold productOf
    rw [List.map_map]
    rfl
end
end Mw
end
section
set_option Elab.async false
set_option linter.all false
set_option maxRecDepth 100000
set_option maxHeartbeats 4000000
/-! # Walks: products of words, the greatest total -/
namespace Mw
open PySem PySem.Spec PyProof.Rows L2 Evl
section
variable {P : Program} {w : World} {K : Frg} {mg : Str → Option Value} {base : Heap}
theorem identity_len' (n : Nat) : (identity n).length = n * n := by simp [identity]
theorem product_len' (n : Nat) (a b : List Nat) : (productOf n a b).length = n * n := by simp [productOf]
theorem word_len' (n : Nat) (ms : List (List Nat)) (w : List Nat) : (productOfWord n ms w).length = n * n := by
  unfold productOfWord
  exact foldl_inv (I := fun x : List Nat => x.length = n * n) (identity_len' n) fun b k _ _ => product_len' n b _
def F_product_of_word (ds : List PyData) (d : PyData) : Prop := ∃ n ms wd, ds = [dI n, dM ms, dL wd] ∧ d = dL (productOfWord n ms wd) ∧ Sz n ∧ Ms n ms ∧ ∀ k ∈ wd, k < ms.length
theorem sc_product_of_word : FnScope ["size", "matrices", "word", "found", "matrix"] ["size", "matrices", "word"] MwH.d_product_of_word.scope := ⟨rfl, rfl, rfl, by decide +kernel, rfl, by decide +kernel, by decide +kernel⟩
theorem ok_product_of_word (T : Txt K mg) : Has P w K mg base 3 "product_of_word" ["size", "matrices", "word"] (spD K F_product_of_word) := by
  refine has_def (N := ["size", "matrices", "word", "found", "matrix"]) T 3 rfl rfl rfl rfl rfl sc_product_of_word (fun _ _ _ _ _ _ us hl => match us, hl with | [_, _, _], _ => rfl) (fun ds d h => by obtain ⟨n, ms, wd, rfl, rfl, hn, hm, hw⟩ := h; rfl) fun f cdv A outer s H E hr vs B ds dd Q le r hF q => ?_
  obtain ⟨n, ms, wd, rfl, rfl, hn, hm, hw⟩ := hF
  obtain ⟨x_size, x_matrices, x_word, rfl, r_size, r_matrices, r_word⟩ := RpAll.n3 r
  obtain ⟨f_identity, fd_identity, m_identity, k_identity, b_identity, G_identity⟩ := ok_identity (P := P) (w := w) (base := base) T
  obtain ⟨f_product_of, fd_product_of, m_product_of, k_product_of, b_product_of, G_product_of⟩ := ok_product_of (P := P) (w := w) (base := base) T
  refine ⟨_, (pss_cons (ps_set (i := 3) sc_product_of_word.nd rfl (Or.inl rfl) (pe_call G_identity (hr.mono (by decide)) (by rfl) m_identity k_identity b_identity .nil pass0 (pa_cons (pv 0) pa_nil))) (pss_cons (ps_for PassesOwn.never rfl (pi_listK (K := K) rfl (pv 2)) (pg_name (i := 4) sc_product_of_word.nd rfl (Or.inl rfl)) (pss_one (ps_set (i := 3) sc_product_of_word.nd rfl (Or.inl rfl) (pe_call G_product_of (hr.mono (by decide)) (by rfl) m_product_of k_product_of b_product_of .nil pass0 (pa_cons (pv 0) (pa_cons (pv 3) (pa_cons (pe_ix (ix_listK (K := K) rfl) (pv 1) (pv 4) (fun _ _ => rfl)) pa_nil))))))) (pss_one (ps_ret (pv 3))))), ?_⟩
  refine qd_asg le (gv_call (ga_cons (gv_var rfl r_size) ga_nil) ⟨n, rfl, rfl, hn⟩) fun v0 B0 H0 a0 r0 => ?_
  refine qd_forL a0.le (gv_var rfl (r_word.mono a0.base)) fun a xs B1 H1 a1 hxs rxs => ?_
  refine ⟨fun i σ' H' => ∃ Bi vf vm, σ' = [some x_size, some x_matrices, some x_word, some vf, vm] ∧ At B1 H1 Bi H' ∧ Rp K Bi vf (dL (productOfWord n ms (wd.take i))),
    ⟨B1, v0, none, rfl, .refl a1.le, r0.mono a1.base⟩, fun i σ' H' ⟨Bi, _, _, _, b, _⟩ => b.base.trans b.le, ?_, ?_⟩
  · rintro i x d σ' H' hx hd rx ⟨Bi, vf, vm, rfl, b, rf⟩
    obtain ⟨hi, rfl⟩ := dL_at hd
    have e2 := (a0.base.trans a1.base).trans b.base
    have hk := hw (wd.getD i 0) (getD_mem hi)
    have hMat := hm.get hk
    refine gv_call (ga_cons (gv_var rfl (r_size.mono e2)) (ga_cons (gv_var rfl rf) (ga_cons (gv_at [] (gv_var rfl (r_matrices.mono e2)) (ev_v rfl (rx.mono b.base)) hk) ga_nil))) ⟨n, _, _, rfl, rfl, hn, word_len' n ms _, hMat.len, hMat.lt⟩ H' b.le _ fun v B' H'' a2 r2 => ?_
    refine ⟨B', v, _, rfl, b.trans a2, ?_⟩
    have e : productOfWord n ms (wd.take (i + 1)) = productOf n (productOfWord n ms (wd.take i)) (ms.getD (wd.getD i 0) []) := fold_take 0 hi
    rw [e]
    exact r2
  · rintro σ' H' ⟨Bi, vf, vm, rfl, b, rf⟩
    rw [zlen, List.take_length] at rf
    refine qd_ret b.le (gv_var rfl rf) fun v B' H'' a2 r2 => q v B' H'' (((a0.trans a1).trans b).trans a2) r2
/-- a row of words: the word, its product -/
def dRow (r : List Nat × List Nat) : PyData := .tuple [dL r.1, dL r.2]
def dRows (l : List (List Nat × List Nat)) : PyData := .list (l.map dRow)
def F_longer_words (ds : List PyData) (d : PyData) : Prop := ∃ n ms rows, ds = [dI n, dM ms, dRows rows] ∧ d = dRows (longerWords n ms rows) ∧ Sz n ∧ Ms n ms ∧ ms.length ≤ 3 ∧ rows.length ≤ 1000 ∧ ∀ r ∈ rows, r.1.length ≤ 1000 ∧ r.2.length = n * n
theorem longer_take {n : Nat} {ms : List (List Nat)} {rows : List (List Nat × List Nat)} {i : Nat} (hi : i < rows.length) : longerWords n ms (rows.take (i + 1)) = longerWords n ms (rows.take i) ++ (List.range ms.length).map fun k => ((rows.getD i ([], [])).1 ++ [k], productOf n (rows.getD i ([], [])).2 (ms.getD k [])) := by
  unfold longerWords
  rw [take_getD ([], []) hi, List.flatMap_append]
  simp
theorem longer_len (n : Nat) (ms : List (List Nat)) (rows : List (List Nat × List Nat)) : (longerWords n ms rows).length = rows.length * ms.length := by
  unfold longerWords
  induction rows with
  | nil => simp
  | cons r rest ih => rw [List.flatMap_cons, List.length_append, ih, List.length_map, List.length_range, List.length_cons, Nat.add_mul, Nat.one_mul, Nat.add_comm]
theorem sc_longer_words : FnScope ["size", "matrices", "rows", "found", "word", "product", "matrix"] ["size", "matrices", "rows"] MwH.d_longer_words.scope := ⟨rfl, rfl, rfl, by decide +kernel, rfl, by decide +kernel, by decide +kernel⟩
theorem ok_longer_words (T : Txt K mg) : Has P w K mg base 3 "longer_words" ["size", "matrices", "rows"] (spD K F_longer_words) := by
  refine has_def (N := ["size", "matrices", "rows", "found", "word", "product", "matrix"]) T 4 rfl rfl rfl rfl rfl sc_longer_words (fun _ _ _ _ _ _ us hl => match us, hl with | [_, _, _], _ => rfl) (fun ds d h => by obtain ⟨n, ms, rows, rfl, rfl, hn, hm, hm3, hr3, hrow⟩ := h; rfl) fun f cdv A outer s H E hr vs B ds dd Q le r hF q => ?_
  obtain ⟨n, ms, rows, rfl, rfl, hn, hm, hm3, hr3, hrow⟩ := hF
  obtain ⟨x_size, x_matrices, x_rows, rfl, r_size, r_matrices, r_rows⟩ := RpAll.n3 r
  obtain ⟨f_product_of, fd_product_of, m_product_of, k_product_of, b_product_of, G_product_of⟩ := ok_product_of (P := P) (w := w) (base := base) T
  refine ⟨_, (pss_cons (ps_set (i := 3) sc_longer_words.nd rfl (Or.inl rfl) (pe_lst pa_nil)) (pss_cons (ps_for PassesOwn.never rfl (pi_listK (K := K) rfl (pv 2)) (pg_tupK (K := K) (n := 2) rfl rfl (pgs_cons (pg_name (i := 4) sc_longer_words.nd rfl (Or.inl rfl)) (pgs_cons (pg_name (i := 5) sc_longer_words.nd rfl (Or.inl rfl)) pgs_nil))) (pss_one (ps_for PassesOwn.never rfl (pi_range1 (by rfl) (T.free 133 rfl) (pa_cons (pe_callB (call_lenK (K := K) rfl) (by rfl) (T.free 131 rfl) (by decide +kernel) (pa_cons (pv 1) pa_nil)) pa_nil)) (pg_name (i := 6) sc_longer_words.nd rfl (Or.inl rfl)) (pss_one (ps_expr (pe_bm PySem.F.plainAttrs_list PySem.F.slot_list_append PySem.F.type_list_append mt_append (pv 3) (pa_cons (pe_tup (pa_cons (pe_op op_cat (pv 4) (pe_lst (pa_cons (pv 6) pa_nil))) (pa_cons (pe_call G_product_of (hr.mono (by decide)) (by rfl) m_product_of k_product_of b_product_of .nil pass0 (pa_cons (pv 0) (pa_cons (pv 5) (pa_cons (pe_ix (ix_listK (K := K) rfl) (pv 1) (pv 6) (fun _ _ => rfl)) pa_nil)))) pa_nil))) pa_nil))))))) (pss_one (ps_ret (pv 3))))), ?_⟩
  refine qd_newL le el_empty fun p H0 hp0 hpB e0 hpl => ?_
  have a0 : At B H B H0 := .up le e0
  refine qd_forL a0.le (gv_var rfl r_rows) fun a xs B1 H1 a1 hxs rxs => ?_
  have b1 : At B H B1 H1 := a0.trans a1
  refine ⟨fun i σ' H' => ∃ Bi acc v4 v5 v6, σ' = [some x_size, some x_matrices, some x_rows, some (.ref p), v4, v5, v6] ∧ At B H Bi H' ∧ Ex B1 Bi ∧ Bi p = none ∧ H' p = some (.lst acc) ∧ RpAll K Bi acc ((longerWords n ms (rows.take i)).map dRow),
    ⟨B1, [], none, none, none, rfl, b1, Ex.refl _, a1.off hpB hpl lst_tup, a1.keep p _ hpl, .nil⟩, fun i σ' H' ⟨Bi, _, _, _, _, _, b, e, _⟩ => e.trans b.le, ?_, ?_⟩
  · rintro i x d σ' H' hx hd rx ⟨Bi, acc, v4, v5, v6, rfl, b, e2, hBp, hp, racc⟩
    obtain ⟨hi, rfl⟩ := dM_at ([], []) hd
    obtain ⟨hwl, hpl2⟩ := hrow (rows.getD i ([], [])) (getD_mem hi)
    generalize hrw : rows.getD i ([], []) = rw at rx hwl hpl2
    refine g_two b.le (rx.mono e2) fun x1 x2 rx1 rx2 => ?_
    refine sd_forR (n := ms.length) b.le (ea_cons (ev_lenM (f := dL) (ga_cons (gv_var rfl (r_matrices.mono b.base)) ga_nil)) ea_nil) (by omega)
      (fun j σ'' H'' => ∃ Bj acc' w6, σ'' = [some x_size, some x_matrices, some x_rows, some (.ref p), some x1, some x2, w6] ∧ At B H Bj H'' ∧ Ex Bi Bj ∧ Bj p = none ∧ H'' p = some (.lst acc') ∧
        RpAll K Bj acc' ((longerWords n ms (rows.take i) ++ (List.range j).map fun k => (rw.1 ++ [k], productOf n rw.2 (ms.getD k []))).map dRow))
      (fun H1 e1 => ⟨Bi, acc, v6, rfl, ⟨b.base, b.le.trans e1, b.keep.trans e1, b.fr⟩, Ex.refl _, hBp, e1 p _ hp, by simpa using racc⟩) ?_ ?_
    · rintro j σ'' H'' hj ⟨Bj, acc', w6, rfl, c, e3, hBj, hpj, racc'⟩
      have eB := b.base.trans e3
      have hMat := hm.get hj
      refine sd_append (d := dRow (rw.1 ++ [j], productOf n rw.2 (ms.getD j []))) c hp0 hBj hpj ?_ (fun H' _ => ev_var rfl) (gv_tup (ga_cons (Gv.is (gv_cat (gv_var rfl (rx1.mono e3)) (gv_lst (ga_int (ev_var rfl) ga_nil) (by show 1 ≤ 100000; omega)) ?_) ?_) (ga_cons (gv_call (ga_cons (gv_var rfl (r_size.mono eB)) (ga_cons (gv_var rfl (rx2.mono e3)) (ga_cons (gv_at [] (gv_var rfl (r_matrices.mono eB)) (ev_var rfl) hj) ga_nil))) ⟨n, _, _, rfl, rfl, hn, hpl2, hMat.len, hMat.lt⟩) ga_nil)) (by show 2 ≤ 100000; omega)) fun v B' H' c2 e4 hB' rv hp' _ => ?_
      · have h1 := racc'.len
        have h2 := longer_len n ms (rows.take i)
        have h3 : (rows.take i).length ≤ 1000 := by rw [List.length_take]; omega
        have h4 : (rows.take i).length * ms.length ≤ 1000 * 3 := Nat.mul_le_mul h3 hm3
        rw [List.length_map, List.length_append, List.length_map, List.length_range, h2] at h1
        omega
      · rw [zlen]
        show _ + 1 ≤ _
        omega
      · exact congrArg PyData.list (dL_app rw.1 [j])
      · refine ⟨B', _, _, rfl, c2, e3.trans e4, hB', hp', ?_⟩
        rw [List.map_append] at racc'
        rw [List.range_succ, List.map_append, List.map_append, List.map_append, ← List.append_assoc]
        exact (racc'.mono e4).append (.one rv)
    · rintro σ'' H'' ⟨Bj, acc', w6, rfl, c, e3, hBj, hpj, racc'⟩
      refine ⟨Bj, acc', _, _, _, rfl, c, e2.trans e3, hBj, hpj, ?_⟩
      rw [longer_take hi, hrw]
      exact racc'
  · rintro σ' H' ⟨Bi, acc, v4, v5, v6, rfl, b, e2, hBp, hp, racc⟩
    rw [List.length_map, List.take_length] at racc
    exact sd_ret rfl b hp0 hBp hp racc q
end
end Mw
end
section
set_option Elab.async false
set_option linter.all false
set_option maxRecDepth 100000
set_option maxHeartbeats 4000000
/-! # Walks: the greatest total -/
namespace Mw
open PySem PySem.Spec PyProof.Rows L2 Evl
section
variable {P : Program} {w : World} {K : Frg} {mg : Str → Option Value} {base : Heap}
theorem wordRows_ok {n : Nat} {ms : List (List Nat)} (h3 : ms.length ≤ 3) : ∀ m, (wordRows n ms m).length ≤ 3 ^ m ∧ ∀ r ∈ wordRows n ms m, r.1.length = m ∧ r.2.length = n * n
  | 0 => ⟨Nat.le_refl _, fun r hr => by
    have e : r = ([], identity n) := List.mem_singleton.mp hr
    rw [e]
    exact ⟨rfl, identity_len' n⟩⟩
  | m + 1 => by
    obtain ⟨h1, h2⟩ := wordRows_ok (n := n) h3 m
    refine ⟨?_, fun r hr => ?_⟩
    · show (longerWords n ms (wordRows n ms m)).length ≤ 3 ^ (m + 1)
      rw [longer_len, Nat.pow_succ]
      exact Nat.mul_le_mul h1 h3
    · obtain ⟨u, hu, hk⟩ := List.mem_flatMap.mp (show r ∈ (wordRows n ms m).flatMap _ from hr)
      obtain ⟨k, _, rfl⟩ := List.mem_map.mp hk
      refine ⟨?_, product_len' n _ _⟩
      rw [List.length_append, (h2 u hu).1]
      rfl
def dBest : Option (Nat × List Nat) → PyData
  | none => .none
  | some b => .list [dI b.1, dL b.2]
def F_greatest_total (ds : List PyData) (d : PyData) : Prop := ∃ n ms len, ds = [dI n, dM ms, dI len] ∧ d = dBest (greatestTotal n ms len) ∧ Sz n ∧ Ms n ms ∧ ms.length ≤ 3 ∧ len ≤ 4
theorem sc_greatest_total : FnScope ["size", "matrices", "length", "rows", "turn", "best", "word", "product"] ["size", "matrices", "length"] MwH.d_greatest_total.scope := ⟨rfl, rfl, rfl, by decide +kernel, rfl, by decide +kernel, by decide +kernel⟩
theorem ok_greatest_total (T : Txt K mg) : Has P w K mg base 4 "greatest_total" ["size", "matrices", "length"] (spD K F_greatest_total) := by
  refine has_def (N := ["size", "matrices", "length", "rows", "turn", "best", "word", "product"]) T 5 rfl rfl rfl rfl rfl sc_greatest_total (fun _ _ _ _ _ _ us hl => match us, hl with | [_, _, _], _ => rfl) (fun ds d h => by obtain ⟨n, ms, len, rfl, rfl, hn, hm, hm3, hl⟩ := h; rfl) fun f cdv A outer s H E hr vs B ds dd Q le r hF q => ?_
  obtain ⟨n, ms, len, rfl, rfl, hn, hm, hm3, hl⟩ := hF
  obtain ⟨x_size, x_matrices, x_length, rfl, r_size, r_matrices, r_length⟩ := RpAll.n3 r
  obtain ⟨f_identity, fd_identity, m_identity, k_identity, b_identity, G_identity⟩ := ok_identity (P := P) (w := w) (base := base) T
  obtain ⟨f_longer_words, fd_longer_words, m_longer_words, k_longer_words, b_longer_words, G_longer_words⟩ := ok_longer_words (P := P) (w := w) (base := base) T
  refine ⟨_, (pss_cons (ps_set (i := 3) sc_greatest_total.nd rfl (Or.inl rfl) (pe_lst (pa_cons (pe_tup (pa_cons (pe_lst pa_nil) (pa_cons (pe_call G_identity (hr.mono (by decide)) (by rfl) m_identity k_identity b_identity .nil pass0 (pa_cons (pv 0) pa_nil)) pa_nil))) pa_nil))) (pss_cons (ps_for PassesOwn.never rfl (pi_range1 (by rfl) (T.free 133 rfl) (pa_cons (pv 2) pa_nil)) (pg_name (i := 4) sc_greatest_total.nd rfl (Or.inl rfl)) (pss_one (ps_set (i := 3) sc_greatest_total.nd rfl (Or.inl rfl) (pe_call G_longer_words (hr.mono (by decide)) (by rfl) m_longer_words k_longer_words b_longer_words .nil pass0 (pa_cons (pv 0) (pa_cons (pv 1) (pa_cons (pv 3) pa_nil))))))) (pss_cons (ps_set (i := 5) sc_greatest_total.nd rfl (Or.inl rfl) pe_non) (pss_cons (ps_for PassesOwn.never rfl (pi_listK (K := K) rfl (pv 3)) (pg_tupK (K := K) (n := 2) rfl rfl (pgs_cons (pg_name (i := 6) sc_greatest_total.nd rfl (Or.inl rfl)) (pgs_cons (pg_name (i := 7) sc_greatest_total.nd rfl (Or.inl rfl)) pgs_nil))) (pss_one (ps_if (PW.pt (pw_or (pt_cmpR op_isN (pv 5) pe_non (nomark _)) (pw_or1 (pt_cmpR op_gt (pe_callB (cr_sumK (K := K) rfl rfl) (by rfl) (T.free 132 rfl) (by decide +kernel) (pa_cons (pv 7) pa_nil)) (pe_ix (ix_listK (K := K) rfl) (pv 5) pe_int (fun _ _ => rfl)) (nomark _))))) (pss_one (ps_set (i := 5) sc_greatest_total.nd rfl (Or.inl rfl) (pe_lst (pa_cons (pe_callB (cr_sumK (K := K) rfl rfl) (by rfl) (T.free 132 rfl) (by decide +kernel) (pa_cons (pv 7) pa_nil)) (pa_cons (pv 6) pa_nil))))) pss_nil))) (pss_one (ps_ret (pv 5))))))), ?_⟩
  refine qd_asg (d := dRows (wordRows n ms 0)) le (gv_lst (ga_cons (gv_tup (ga_cons (gv_lst ga_nil (Nat.zero_le _)) (ga_cons (gv_call (ga_cons (gv_var rfl r_size) ga_nil) ⟨n, rfl, rfl, hn⟩) ga_nil)) (by show 2 ≤ 100000; omega)) ga_nil) (by show 1 ≤ 100000; omega)) fun v0 B0 H0 a0 r0 => ?_
  have bnd : ∀ i, i ≤ 4 → (wordRows n ms i).length ≤ 81 := fun i hi => Nat.le_trans (wordRows_ok hm3 i).1 (Nat.le_trans (Nat.pow_le_pow_right (by omega) hi) (by decide))
  refine qd_forR (n := len) a0.le (ea_cons (ev_v rfl (r_length.mono a0.base)) ea_nil) (by omega)
    (fun i σ' H' => ∃ Bi vr vt, σ' = [some x_size, some x_matrices, some x_length, some vr, vt, none, none, none] ∧ At B H Bi H' ∧ Rp K Bi vr (dRows (wordRows n ms i)))
    (fun H1 e1 => ⟨B0, v0, none, rfl, ⟨a0.base, a0.le.trans e1, a0.keep.trans e1, a0.fr⟩, r0⟩) ?_ ?_
  · rintro i σ' H' hi ⟨Bi, vr, vt, rfl, b, rr⟩
    have hb := bnd i (by omega)
    refine sd_asg b.le (gv_call (ga_cons (gv_var rfl (r_size.mono b.base)) (ga_cons (gv_var rfl (r_matrices.mono b.base)) (ga_cons (gv_var rfl rr) ga_nil))) ⟨n, ms, _, rfl, rfl, hn, hm, hm3, by omega, fun r hr => ?_⟩) fun v B' H'' a2 r2 => ⟨B', v, _, rfl, b.trans a2, r2⟩
    obtain ⟨h1, h2⟩ := (wordRows_ok hm3 i).2 r hr
    exact ⟨by omega, h2⟩
  · rintro σ' H' ⟨Bi, vr, vt, rfl, b, rr⟩
    refine qd_asg (K := K) b.le (Gv.non ev_c) fun v5 B5 H5 a5 r5 => ?_
    obtain rfl := r5.isNon
    have b5 := b.trans a5
    refine qd_forL b5.le (gv_var rfl (rr.mono a5.base)) fun a xs B1 H1 a1 hxs rxs => ?_
    refine ⟨fun i σ' H' => ∃ Bi vb v6 v7, σ' = [some x_size, some x_matrices, some x_length, some vr, vt, some vb, v6, v7] ∧ At B H Bi H' ∧ Ex B1 Bi ∧ Rp K Bi vb (dBest (((wordRows n ms len).take i).foldl better none)),
      ⟨B1, .non, none, none, rfl, b5.trans a1, Ex.refl _, .non⟩, fun i σ' H' ⟨Bi, _, _, _, _, c, e, _⟩ => e.trans c.le, ?_, ?_⟩
    · rintro i x d σ' H' hx hd rx ⟨Bi, vb, v6, v7, rfl, c, e2, rb⟩
      obtain ⟨hi, rfl⟩ := dM_at ([], []) hd
      have ef := fold_take (f := better) (b := none) ([], []) hi
      generalize (wordRows n ms len).getD i ([], []) = rw at rx ef
      generalize ((wordRows n ms len).take i).foldl better none = bst at rb ef
      refine g_two c.le (rx.mono e2) fun x1 x2 rx1 rx2 => ?_
      refine sd_if (b := (match bst with
        | none => true
        | some b => decide (b.1 < rw.2.sum))) c.le ?_ (fun hb H2 e3 => ?_) (fun hb H2 e3 => ?_)
      · cases bst with
        | none => exact et_is (et_or (b := true) (et_test (ev_isN1 (gv_var rfl rb))) fun q => by cases q) rfl
        | some bb => exact et_is (et_or (et_test (ev_isN0 (gv_var rfl rb))) fun _ => et_test (ev_gt (ev_sum (ga_cons (gv_var rfl rx2) ga_nil)) (gv_ixL (gv_var rfl rb) ev_n (ix_nat (j := 0) rfl)).toInt)) (Bool.false_or _)
      · have c3 : At B H Bi H2 := ⟨c.base, c.le.trans e3, c.keep.trans e3, c.fr⟩
        refine sd_asg (d := dBest (better bst rw)) c3.le (Gv.is (gv_lst (ga_int (ev_sum (ga_cons (gv_var rfl rx2) ga_nil)) (ga_cons (gv_var rfl rx1) ga_nil)) (by show 2 ≤ 100000; omega)) ?_) fun v B' H'' a2 r2 => ⟨B', v, _, _, rfl, c3.trans a2, e2.trans a2.base, by rw [ef]; exact r2⟩
        cases bst with
        | none => rfl
        | some bb =>
          have e : better (some bb) rw = some (rw.2.sum, rw.1) := if_pos (of_decide_eq_true hb)
          rw [e]
          rfl
      · refine ⟨Bi, vb, _, _, rfl, ⟨c.base, c.le.trans e3, c.keep.trans e3, c.fr⟩, e2, ?_⟩
        rw [ef]
        cases bst with
        | none => cases hb
        | some bb =>
          have e : better (some bb) rw = some bb := if_neg (of_decide_eq_false hb)
          rw [e]
          exact rb
    · rintro σ' H' ⟨Bi, vb, v6, v7, rfl, c, e2, rb⟩
      rw [List.length_map, List.take_length] at rb
      refine qd_ret c.le (gv_var rfl rb) fun v B' H'' a2 r2 => q v B' H'' (c.trans a2) r2
end
end Mw
end
section
set_option Elab.async false
set_option linter.all false
set_option maxRecDepth 100000
set_option maxHeartbeats 4000000
/-! # Walks: probabilities -/
namespace Mw
open PySem PySem.Spec PyProof.Rows L2 Evl
section
variable {P : Program} {w : World} {K : Frg} {mg : Str → Option Value} {base : Heap}
def F_row_sum (ds : List PyData) (d : PyData) : Prop := ∃ n e i, ds = [dI n, dL e, dI i] ∧ d = dI (rowSum n e i) ∧ Sz n ∧ i < n ∧ e.length = n * n
theorem row_end {n i : Nat} (hi : i < n) : i * n + n ≤ n * n := by
  have h : (i + 1) * n ≤ n * n := Nat.mul_le_mul_right n hi
  rw [Nat.add_mul, Nat.one_mul] at h
  exact h
theorem sc_row_sum : FnScope ["size", "entries", "row"] ["size", "entries", "row"] MwH.d_row_sum.scope := ⟨rfl, rfl, rfl, by decide +kernel, rfl, by decide +kernel, by decide +kernel⟩
theorem ok_row_sum (T : Txt K mg) : Has P w K mg base 1 "row_sum" ["size", "entries", "row"] (spD K F_row_sum) := by
  refine has_def (N := ["size", "entries", "row"]) T 6 rfl rfl rfl rfl rfl sc_row_sum (fun _ _ _ _ _ _ us hl => match us, hl with | [_, _, _], _ => rfl) (fun ds d h => by obtain ⟨n, e, i, rfl, rfl, hn, hi, he⟩ := h; rfl) fun f cdv A outer s H E hr vs B ds dd Q le r hF q => ?_
  obtain ⟨n, e, i, rfl, rfl, hn, hi, he⟩ := hF
  obtain ⟨x_size, x_entries, x_row, rfl, r_size, r_entries, r_row⟩ := RpAll.n3 r
  refine ⟨_, (pss_one (ps_ret (pe_callB (cr_sumK (K := K) rfl rfl) (by rfl) (T.free 132 rfl) (by decide +kernel) (pa_cons (pe_slice (sl_listK (K := K) rfl) (pv 1) (po_some (pe_op op_mul (pv 2) (pv 0))) (po_some (pe_op op_add (pe_op op_mul (pv 2) (pv 0)) (pv 0)))) pa_nil)))), ?_⟩
  have h3 := hn.le
  have hend := row_end hi
  have hm : Ev (tOp (rI CMul fun i j => .int (i * j)) (tVar 2) (tVar 0)) [some x_size, some x_entries, some x_row] B (.int ((i * n : Nat) : Int)) := ev_mul (.inr (by omega)) (ev_v rfl r_row) (ev_v rfl r_size)
  refine qd_ret le (Gv.is (.int (ev_sum (l := (e.drop (i * n)).take n) (ga_cons (Gv.is (gv_sl (i := i * n) (j := i * n + n) (gv_var rfl r_entries) (eo_some hm) (eo_some (ev_add hm (ev_v rfl r_size))) (by rw [zlen]; exact sIx_nat _ _ _ (by omega)) (by rw [zlen]; exact sIx_nat _ _ _ (by omega))) ?_) ga_nil))) rfl) q
  rw [dL_cut, Nat.add_sub_cancel_left]
  rfl
def F_has_no_zero_row (ds : List PyData) (d : PyData) : Prop := ∃ n e, ds = [dI n, dL e] ∧ d = .bool (noZeroRow n e) ∧ Sz n ∧ e.length = n * n
theorem sc_has_no_zero_row : FnScope ["size", "entries", "row"] ["size", "entries"] MwH.d_has_no_zero_row.scope := ⟨rfl, rfl, rfl, by decide +kernel, rfl, by decide +kernel, by decide +kernel⟩
theorem ok_has_no_zero_row (T : Txt K mg) : Has P w K mg base 2 "has_no_zero_row" ["size", "entries"] (spD K F_has_no_zero_row) := by
  refine has_def (N := ["size", "entries", "row"]) T 7 rfl rfl rfl rfl rfl sc_has_no_zero_row (fun _ _ _ _ _ _ us hl => match us, hl with | [_, _], _ => rfl) (fun ds d h => by obtain ⟨n, e, rfl, rfl, hn, he⟩ := h; rfl) fun f cdv A outer s H E hr vs B ds dd Q le r hF q => ?_
  obtain ⟨n, e, rfl, rfl, hn, he⟩ := hF
  obtain ⟨x_size, x_entries, rfl, r_size, r_entries⟩ := RpAll.n2 r
  obtain ⟨f_row_sum, fd_row_sum, m_row_sum, k_row_sum, b_row_sum, G_row_sum⟩ := ok_row_sum (P := P) (w := w) (base := base) T
  refine ⟨_, (pss_one (ps_ret (pe_cmpR op_gt (pe_callB (cr_minK (K := K) rfl rfl) (by rfl) (T.free 139 rfl) (by decide +kernel) (pa_cons (pe_lc (own := [("row", 2)]) rfl sc_has_no_zero_row.nd (pi_range1 (by rfl) (T.free 133 rfl) (pa_cons (pv 0) pa_nil)) (blkOk_by (own := [("row", 2)]) (N := ["size", "entries", "row"]) (sc := MwH.d_has_no_zero_row.scope) (by decide +kernel)) (fun _ _ _ _ _ => (pg_name (i := 2) sc_has_no_zero_row.nd rfl (Or.inl rfl))) (fun _ _ _ _ _ => pts_nil) (fun _ _ _ _ _ => (pe_call G_row_sum (hr.mono (by decide)) (by rfl) m_row_sum k_row_sum b_row_sum .nil pass0 (pa_cons (pv 0) (pa_cons (pv 1) (pa_cons (pv 2) pa_nil)))))) pa_nil)) pe_int (nomark _)))), ?_⟩
  have h3 := hn.le
  refine qd_ret le (Gv.is (.bl (ev_min_pos (l := (List.range n).map fun r => rowSum n e r) (ga_cons (Gv.is (gv_lcR (n := n) (fun _ => true) (fun r => dI (rowSum n e r)) (ea_cons (ev_v rfl r_size) ea_nil) (by omega) fun i B1 e1 hi => turn_name (fun _ => rfl) et_true fun _ => ?_) ?_) ga_nil) ?_)) ?_) q
  · exact gv_call (ga_cons (gv_var rfl (r_size.mono e1)) (ga_cons (gv_var rfl (r_entries.mono e1)) (ga_int (ev_var rfl) ga_nil))) ⟨n, e, i, rfl, rfl, hn, hi, he⟩
  · rw [gvn_all]
    refine dL_of ?_
    rw [List.map_map]
    rfl
  · simpa using hn.pos
  · unfold noZeroRow
    rw [List.all_map]
    rfl
def F_are_chances (ds : List PyData) (d : PyData) : Prop := ∃ n ms, ds = [dI n, dM ms] ∧ d = .bool (areChances n ms) ∧ Sz n ∧ Ms n ms ∧ ms.length ≤ 1000
theorem map_bools {α : Type} (f : α → Bool) (l : List α) (z : α) : (List.range l.length).map (fun i => PyData.bool (f (l.getD i z))) = (l.map f).map PyData.bool := by
  have e := map_range_getD l z
  have e2 : (l.map f).map PyData.bool = (((List.range l.length).map fun i => l.getD i z).map f).map PyData.bool := by rw [e]
  rw [e2, List.map_map, List.map_map]
  rfl
theorem sc_are_chances : FnScope ["size", "matrices", "entries"] ["size", "matrices"] MwH.d_are_chances.scope := ⟨rfl, rfl, rfl, by decide +kernel, rfl, by decide +kernel, by decide +kernel⟩
theorem ok_are_chances (T : Txt K mg) : Has P w K mg base 3 "are_chances" ["size", "matrices"] (spD K F_are_chances) := by
  refine has_def (N := ["size", "matrices", "entries"]) T 8 rfl rfl rfl rfl rfl sc_are_chances (fun _ _ _ _ _ _ us hl => match us, hl with | [_, _], _ => rfl) (fun ds d h => by obtain ⟨n, ms, rfl, rfl, hn, hm, hl⟩ := h; rfl) fun f cdv A outer s H E hr vs B ds dd Q le r hF q => ?_
  obtain ⟨n, ms, rfl, rfl, hn, hm, hl⟩ := hF
  obtain ⟨x_size, x_matrices, rfl, r_size, r_matrices⟩ := RpAll.n2 r
  obtain ⟨f_has_no_zero_row, fd_has_no_zero_row, m_has_no_zero_row, k_has_no_zero_row, b_has_no_zero_row, G_has_no_zero_row⟩ := ok_has_no_zero_row (P := P) (w := w) (base := base) T
  refine ⟨_, (pss_one (ps_ret (pe_callB (cr_allK (K := K) rfl rfl) (by rfl) (T.free 138 rfl) (by decide +kernel) (pa_cons (pe_lc (own := [("entries", 2)]) rfl sc_are_chances.nd (pi_listK (K := K) rfl (pv 1)) (blkOk_by (own := [("entries", 2)]) (N := ["size", "matrices", "entries"]) (sc := MwH.d_are_chances.scope) (by decide +kernel)) (fun _ _ _ _ _ => (pg_name (i := 2) sc_are_chances.nd rfl (Or.inl rfl))) (fun _ _ _ _ _ => pts_nil) (fun _ _ _ _ _ => (pe_call G_has_no_zero_row (hr.mono (by decide)) (by rfl) m_has_no_zero_row k_has_no_zero_row b_has_no_zero_row .nil pass0 (pa_cons (pv 0) (pa_cons (pv 2) pa_nil))))) pa_nil)))), ?_⟩
  refine qd_ret le (Gv.is (.bl (ev_allL (l := ms.map (noZeroRow n)) (ga_cons (Gv.is (gv_lcL (fun _ => true) (fun i => .bool (noZeroRow n (ms.getD i []))) (gv_var rfl r_matrices) (by rw [List.length_map]; omega) fun i x d B1 e1 hd rx => turn_name (fun _ => rfl) et_true fun _ => ?_) ?_) ga_nil))) ?_) q
  · obtain ⟨hi, rfl⟩ := dM_at [] hd
    exact gv_call (ga_cons (gv_var rfl (r_size.mono e1)) (ga_cons (gv_var rfl rx) ga_nil)) ⟨n, _, rfl, rfl, hn, (hm.get hi).len⟩
  · rw [gvn_all, List.length_map, map_bools]
  · unfold areChances
    rw [List.all_map]
    rfl
theorem sum_le9 : ∀ {l : List Nat}, (∀ x ∈ l, x ≤ 9) → l.sum ≤ 9 * l.length
  | [], _ => Nat.le_refl _
  | x :: r, h => by
    have h1 := h x (List.mem_cons_self ..)
    have h2 := sum_le9 (l := r) fun y hy => h y (List.mem_cons_of_mem _ hy)
    rw [List.sum_cons, List.length_cons]
    omega
theorem rowSum_le {n : Nat} {e : List Nat} (h : Mat n e) (hn : Sz n) (r : Nat) : rowSum n e r ≤ 27 := by
  have h3 := hn.le
  have h1 := sum_le9 (l := (e.drop (r * n)).take n) fun x hx => h.le x (List.mem_of_mem_drop (List.mem_of_mem_take hx))
  have h2 : ((e.drop (r * n)).take n).length ≤ n := List.length_take_le ..
  unfold rowSum
  omega
theorem den_le {n : Nat} {e : List Nat} (h : Mat n e) (hn : Sz n) : denominator n e ≤ 27 ^ n := by
  have key : ∀ k, (List.range k).foldl (fun f r => f * rowSum n e r) 1 ≤ 27 ^ k := by
    intro k
    induction k with
    | zero => exact Nat.le_refl _
    | succ k ih =>
      rw [List.range_succ, List.foldl_append]
      show _ * rowSum n e k ≤ _
      rw [Nat.pow_succ]
      exact Nat.mul_le_mul ih (rowSum_le h hn k)
  exact key n
theorem den_le' {n : Nat} {e : List Nat} (h : Mat n e) (hn : Sz n) : denominator n e ≤ 19683 := by
  have h1 := den_le h hn
  have h2 : 27 ^ n ≤ 27 ^ 3 := Nat.pow_le_pow_right (by omega) hn.le
  exact Nat.le_trans h1 (Nat.le_trans h2 (by decide))
def F_denominator_of (ds : List PyData) (d : PyData) : Prop := ∃ n e, ds = [dI n, dL e] ∧ d = dI (denominator n e) ∧ Sz n ∧ Mat n e
theorem sc_denominator_of : FnScope ["size", "entries", "found", "row"] ["size", "entries"] MwH.d_denominator_of.scope := ⟨rfl, rfl, rfl, by decide +kernel, rfl, by decide +kernel, by decide +kernel⟩
theorem ok_denominator_of (T : Txt K mg) : Has P w K mg base 2 "denominator_of" ["size", "entries"] (spD K F_denominator_of) := by
  refine has_def (N := ["size", "entries", "found", "row"]) T 9 rfl rfl rfl rfl rfl sc_denominator_of (fun _ _ _ _ _ _ us hl => match us, hl with | [_, _], _ => rfl) (fun ds d h => by obtain ⟨n, e, rfl, rfl, hn, he⟩ := h; rfl) fun f cdv A outer s H E hr vs B ds dd Q le r hF q => ?_
  obtain ⟨n, e, rfl, rfl, hn, he⟩ := hF
  obtain ⟨x_size, x_entries, rfl, r_size, r_entries⟩ := RpAll.n2 r
  obtain ⟨f_row_sum, fd_row_sum, m_row_sum, k_row_sum, b_row_sum, G_row_sum⟩ := ok_row_sum (P := P) (w := w) (base := base) T
  refine ⟨_, (pss_cons (ps_set (i := 2) sc_denominator_of.nd rfl (Or.inl rfl) pe_int) (pss_cons (ps_for PassesOwn.never rfl (pi_range1 (by rfl) (T.free 133 rfl) (pa_cons (pv 0) pa_nil)) (pg_name (i := 3) sc_denominator_of.nd rfl (Or.inl rfl)) (pss_one (ps_set (i := 2) sc_denominator_of.nd rfl (Or.inl rfl) (pe_op op_mul (pv 2) (pe_call G_row_sum (hr.mono (by decide)) (by rfl) m_row_sum k_row_sum b_row_sum .nil pass0 (pa_cons (pv 0) (pa_cons (pv 1) (pa_cons (pv 3) pa_nil)))))))) (pss_one (ps_ret (pv 2))))), ?_⟩
  have h3 := hn.le
  refine qd_asg (K := K) le (Gv.int (ev_n (a := 1))) fun v0 B0 H0 a0 r0 => ?_
  obtain rfl := r0.isInt
  refine qd_forR (n := n) a0.le (ea_cons (ev_v rfl (r_size.mono a0.base)) ea_nil) (by omega)
    (fun i σ' H' => ∃ Bi vt, σ' = [some x_size, some x_entries, some (.int (((List.range i).foldl (fun f r => f * rowSum n e r) 1 : Nat) : Int)), vt] ∧ At B H Bi H')
    (fun H1 e1 => ⟨B0, none, rfl, ⟨a0.base, a0.le.trans e1, a0.keep.trans e1, a0.fr⟩⟩) ?_ ?_
  · rintro i σ' H' hi ⟨Bi, vt, rfl, b⟩
    refine sd_asg (K := K) (d := dI ((List.range (i + 1)).foldl (fun f r => f * rowSum n e r) 1)) b.le (.int (ev_is (ev_mul (b := rowSum n e i) (.inr ?_) (ev_var rfl) (gv_callI (ga_cons (gv_var rfl (r_size.mono b.base)) (ga_cons (gv_var rfl (r_entries.mono b.base)) (ga_int (ev_var rfl) ga_nil))) ⟨n, e, i, rfl, rfl, hn, hi, he.len⟩)) ?_)) fun v B' H'' a2 r2 => ?_
    · have := rowSum_le he hn i
      omega
    · rw [List.range_succ, List.foldl_append]
      rfl
    · obtain rfl := r2.isInt
      exact ⟨B', _, rfl, b.trans a2⟩
  · rintro σ' H' ⟨Bi, vt, rfl, b⟩
    exact qd_ret (K := K) b.le (.int (ev_var rfl)) fun v B' H'' a2 r2 => q v B' H'' (b.trans a2) r2
def F_scaled (ds : List PyData) (d : PyData) : Prop := ∃ n e, ds = [dI n, dL e] ∧ d = dL (scaled n e) ∧ Sz n ∧ Mat n e ∧ noZeroRow n e = true
theorem noZero_pos {n : Nat} {e : List Nat} (h : noZeroRow n e = true) {r : Nat} (hr : r < n) : 0 < rowSum n e r := of_decide_eq_true (List.all_eq_true.mp h r (List.mem_range.mpr hr))
theorem sc_scaled : FnScope ["size", "entries", "whole", "place", "entry"] ["size", "entries"] MwH.d_scaled.scope := ⟨rfl, rfl, rfl, by decide +kernel, rfl, by decide +kernel, by decide +kernel⟩
theorem ok_scaled (T : Txt K mg) : Has P w K mg base 3 "scaled" ["size", "entries"] (spD K F_scaled) := by
  refine has_def (N := ["size", "entries", "whole", "place", "entry"]) T 10 rfl rfl rfl rfl rfl sc_scaled (fun _ _ _ _ _ _ us hl => match us, hl with | [_, _], _ => rfl) (fun ds d h => by obtain ⟨n, e, rfl, rfl, hn, he, hz⟩ := h; rfl) fun f cdv A outer s H E hr vs B ds dd Q le r hF q => ?_
  obtain ⟨n, e, rfl, rfl, hn, he, hz⟩ := hF
  obtain ⟨x_size, x_entries, rfl, r_size, r_entries⟩ := RpAll.n2 r
  obtain ⟨f_denominator_of, fd_denominator_of, m_denominator_of, k_denominator_of, b_denominator_of, G_denominator_of⟩ := ok_denominator_of (P := P) (w := w) (base := base) T
  obtain ⟨f_row_sum, fd_row_sum, m_row_sum, k_row_sum, b_row_sum, G_row_sum⟩ := ok_row_sum (P := P) (w := w) (base := base) T
  refine ⟨_, (pss_cons (ps_set (i := 2) sc_scaled.nd rfl (Or.inr rfl) (pe_call G_denominator_of (hr.mono (by decide)) (by rfl) m_denominator_of k_denominator_of b_denominator_of .nil pass0 (pa_cons (pv 0) (pa_cons (pv 1) pa_nil)))) (pss_one (ps_ret (pe_lc (own := [("place", 3), ("entry", 4)]) rfl sc_scaled.nd (pi_enumK (K := K) rfl (by rfl) (T.free 135 rfl) (pa_cons (pv 1) pa_nil)) (blkOk_by (own := [("place", 3), ("entry", 4)]) (N := ["size", "entries", "whole", "place", "entry"]) (sc := MwH.d_scaled.scope) (by decide +kernel)) (fun _ _ _ _ _ => (pg_tupK (K := K) (n := 2) rfl rfl (pgs_cons (pg_name (i := 3) sc_scaled.nd rfl (Or.inl rfl)) (pgs_cons (pg_name (i := 4) sc_scaled.nd rfl (Or.inl rfl)) pgs_nil)))) (fun _ _ _ _ _ => pts_nil) (fun _ _ _ _ _ => (pe_op op_mul (pv 4) (pe_op op_fdiv (pv 2) (pe_call G_row_sum (hr.mono (by decide)) (by rfl) m_row_sum k_row_sum b_row_sum .nil pass0 (pa_cons (pv 0) (pa_cons (pv 1) (pa_cons (pe_op op_fdiv (pv 3) (pv 0)) pa_nil))))))))))), ?_⟩
  have h3 := hn.le
  have hp := hn.pos
  have h9 : n * n ≤ 9 := Nat.mul_le_mul h3 h3
  have hd := den_le' he hn
  refine qd_asg le (gv_call (ga_cons (gv_var rfl r_size) (ga_cons (gv_var rfl r_entries) ga_nil)) ⟨n, e, rfl, rfl, hn, he⟩) fun v0 B0 H0 a0 r0 => ?_
  obtain rfl := r0.isInt
  refine qd_ret a0.le (Gv.is (gv_lcE (fun _ => true) (fun p => dI (e.getD p 0 * (denominator n e / rowSum n e (p / n)))) (ga_cons (gv_var rfl (r_entries.mono a0.base)) ga_nil) (by rw [zlen, he.len]; omega) fun i x d B1 e1 hd2 rx => ?_) ?_) fun v B' H' a2 r2 => q v B' H' (a0.trans a2) r2
  · obtain ⟨hi, rfl⟩ := dL_at hd2
    refine turn_two rx (fun _ _ => rfl) fun x1 x2 rx1 rx2 => ⟨et_true, fun _ => ?_⟩
    have e2 := a0.base.trans e1
    rw [he.len] at hi
    have hq : i / n < n := Nat.div_lt_of_lt_mul hi
    have hrp := noZero_pos hz hq
    have hrl := rowSum_le he hn (i / n)
    refine .int (ev_mul (.inl ?_) (ev_v rfl rx2) (ev_div hrp (by omega) (ev_var rfl) (gv_callI (ga_cons (gv_var rfl (r_size.mono e2)) (ga_cons (gv_var rfl (r_entries.mono e2)) (ga_int (ev_div hp (by omega) (ev_v rfl rx1) (ev_v rfl (r_size.mono e2))) ga_nil))) ⟨n, e, i / n, rfl, rfl, hn, hq, he.len⟩)))
    have := he.le _ (getD_mem (d := 0) (by rw [he.len]; exact hi))
    omega
  · rw [gvn_all, zlen]
    refine dL_of ?_
    unfold scaled
    rw [List.map_map]
    rfl
end
end Mw
end
section
set_option Elab.async false
set_option linter.all false
set_option maxRecDepth 100000
set_option maxHeartbeats 4000000
/-! # Walks: probabilities of words, fractions, distances -/
namespace Mw
open PySem PySem.Spec PyProof.Rows L2 Evl
section
variable {P : Program} {w : World} {K : Frg} {mg : Str → Option Value} {base : Heap}
theorem scaled_len (n : Nat) (e : List Nat) : (scaled n e).length = e.length := by simp [scaled]
theorem scaled_lt {n : Nat} {e : List Nat} (h : Mat n e) (hn : Sz n) : ∀ x ∈ scaled n e, x < 2 ^ 64 := fun x hx => by
  obtain ⟨p, hp, rfl⟩ := List.mem_map.mp hx
  have h1 := h.le _ (getD_mem (d := 0) (List.mem_range.mp hp))
  have h2 : denominator n e / rowSum n e (p / n) ≤ 19683 := Nat.le_trans (Nat.div_le_self _ _) (den_le' h hn)
  have h3 := Nat.mul_le_mul h1 h2
  omega
/-- what is known of a word's probabilities: how many numbers, the denominator's size -/
theorem chances_ok {n : Nat} {ms : List (List Nat)} (hn : Sz n) (hm : Ms n ms) : ∀ {w : List Nat} (b : List Nat × Nat), b.1.length = n * n → (∀ k ∈ w, k < ms.length) → (w.foldl (chancesTurn n ms) b).1.length = n * n ∧ (w.foldl (chancesTurn n ms) b).2 ≤ b.2 * 19683 ^ w.length
  | [], b, h, _ => ⟨h, by simp⟩
  | k :: r, b, h, hw => by
    obtain ⟨h1, h2⟩ := chances_ok (w := r) hn hm (chancesTurn n ms b k) (product_len' n _ _) fun j hj => hw j (List.mem_cons_of_mem _ hj)
    refine ⟨h1, Nat.le_trans h2 ?_⟩
    have hd := den_le' (hm.get (hw k (List.mem_cons_self ..))) hn
    show b.2 * denominator n (ms.getD k []) * 19683 ^ r.length ≤ b.2 * 19683 ^ (r.length + 1)
    rw [Nat.pow_succ, Nat.mul_comm (19683 ^ r.length), Nat.mul_assoc]
    exact Nat.mul_le_mul_left _ (Nat.mul_le_mul_right _ hd)
theorem chances_len {n : Nat} {ms : List (List Nat)} (hn : Sz n) (hm : Ms n ms) {w : List Nat} (hw : ∀ k ∈ w, k < ms.length) : (chancesOfWord n ms w).1.length = n * n := (chances_ok hn hm (identity n, 1) (identity_len' n) hw).1
theorem chances_den {n : Nat} {ms : List (List Nat)} (hn : Sz n) (hm : Ms n ms) {w : List Nat} (hw : ∀ k ∈ w, k < ms.length) (hl : w.length ≤ 8) : (chancesOfWord n ms w).2 < 2 ^ 1000 := by
  have h1 := (chances_ok hn hm (identity n, 1) (identity_len' n) hw).2
  have h2 : (19683 : Nat) ^ w.length ≤ 19683 ^ 8 := Nat.pow_le_pow_right (by omega) hl
  have h3 : (chancesOfWord n ms w).2 ≤ 19683 ^ 8 := Nat.le_trans h1 (by rw [Nat.one_mul]; exact h2)
  exact Nat.lt_of_le_of_lt h3 (by decide +kernel)
theorem allChance {n : Nat} {ms : List (List Nat)} (h : areChances n ms = true) {k : Nat} (hk : k < ms.length) : noZeroRow n (ms.getD k []) = true := List.all_eq_true.mp h _ (getD_mem hk)
def F_chances_of_word (ds : List PyData) (d : PyData) : Prop := ∃ n ms wd, ds = [dI n, dM ms, dL wd] ∧ d = .list [dL (chancesOfWord n ms wd).1, dI (chancesOfWord n ms wd).2] ∧ Sz n ∧ Ms n ms ∧ (∀ k ∈ wd, k < ms.length) ∧ areChances n ms = true
theorem sc_chances_of_word : FnScope ["size", "matrices", "word", "found", "below", "matrix"] ["size", "matrices", "word"] MwH.d_chances_of_word.scope := ⟨rfl, rfl, rfl, by decide +kernel, rfl, by decide +kernel, by decide +kernel⟩
theorem ok_chances_of_word (T : Txt K mg) : Has P w K mg base 4 "chances_of_word" ["size", "matrices", "word"] (spD K F_chances_of_word) := by
  refine has_def (N := ["size", "matrices", "word", "found", "below", "matrix"]) T 11 rfl rfl rfl rfl rfl sc_chances_of_word (fun _ _ _ _ _ _ us hl => match us, hl with | [_, _, _], _ => rfl) (fun ds d h => by obtain ⟨n, ms, wd, rfl, rfl, hn, hm, hw, hc⟩ := h; rfl) fun f cdv A outer s H E hr vs B ds dd Q le r hF q => ?_
  obtain ⟨n, ms, wd, rfl, rfl, hn, hm, hw, hc⟩ := hF
  obtain ⟨x_size, x_matrices, x_word, rfl, r_size, r_matrices, r_word⟩ := RpAll.n3 r
  obtain ⟨f_identity, fd_identity, m_identity, k_identity, b_identity, G_identity⟩ := ok_identity (P := P) (w := w) (base := base) T
  obtain ⟨f_product_of, fd_product_of, m_product_of, k_product_of, b_product_of, G_product_of⟩ := ok_product_of (P := P) (w := w) (base := base) T
  obtain ⟨f_scaled, fd_scaled, m_scaled, k_scaled, b_scaled, G_scaled⟩ := ok_scaled (P := P) (w := w) (base := base) T
  obtain ⟨f_denominator_of, fd_denominator_of, m_denominator_of, k_denominator_of, b_denominator_of, G_denominator_of⟩ := ok_denominator_of (P := P) (w := w) (base := base) T
  refine ⟨_, (pss_cons (ps_par (i := 3) (j := 4) rfl sc_chances_of_word.nd rfl rfl (by decide) rfl rfl (pa_cons (pe_call G_identity (hr.mono (by decide)) (by rfl) m_identity k_identity b_identity .nil pass0 (pa_cons (pv 0) pa_nil)) (pa_cons pe_int pa_nil)) (by rfl)) (pss_cons (ps_for PassesOwn.never rfl (pi_listK (K := K) rfl (pv 2)) (pg_name (i := 5) sc_chances_of_word.nd rfl (Or.inl rfl)) (pss_cons (ps_set (i := 3) sc_chances_of_word.nd rfl (Or.inl rfl) (pe_call G_product_of (hr.mono (by decide)) (by rfl) m_product_of k_product_of b_product_of .nil pass0 (pa_cons (pv 0) (pa_cons (pv 3) (pa_cons (pe_call G_scaled (hr.mono (by decide)) (by rfl) m_scaled k_scaled b_scaled .nil pass0 (pa_cons (pv 0) (pa_cons (pe_ix (ix_listK (K := K) rfl) (pv 1) (pv 5) (fun _ _ => rfl)) pa_nil))) pa_nil))))) (pss_one (ps_set (i := 4) sc_chances_of_word.nd rfl (Or.inl rfl) (pe_op op_mul (pv 4) (pe_call G_denominator_of (hr.mono (by decide)) (by rfl) m_denominator_of k_denominator_of b_denominator_of .nil pass0 (pa_cons (pv 0) (pa_cons (pe_ix (ix_listK (K := K) rfl) (pv 1) (pv 5) (fun _ _ => rfl)) pa_nil)))))))) (pss_one (ps_ret (pe_lst (pa_cons (pv 3) (pa_cons (pv 4) pa_nil))))))), ?_⟩
  refine qd_par le (ga_cons (gv_call (ga_cons (gv_var rfl r_size) ga_nil) ⟨n, rfl, rfl, hn⟩) (ga_int (ev_n (a := 1)) ga_nil)) fun v0 v1 B0 H0 a0 r0 r1 => ?_
  refine qd_forL a0.le (gv_var rfl (r_word.mono a0.base)) fun a xs B1 H1 a1 hxs rxs => ?_
  refine ⟨fun i σ' H' => ∃ Bi vf vb vm, σ' = [some x_size, some x_matrices, some x_word, some vf, some vb, vm] ∧ At B1 H1 Bi H' ∧ Rp K Bi vf (dL ((wd.take i).foldl (chancesTurn n ms) (identity n, 1)).1) ∧ Rp K Bi vb (dI ((wd.take i).foldl (chancesTurn n ms) (identity n, 1)).2),
    ⟨B1, v0, v1, none, rfl, .refl a1.le, r0.mono a1.base, r1.mono a1.base⟩, fun i σ' H' ⟨Bi, _, _, _, _, b, _⟩ => b.base.trans b.le, ?_, ?_⟩
  · rintro i x d σ' H' hx hd rx ⟨Bi, vf, vb, vm, rfl, b, rf, rb⟩
    obtain ⟨hi, rfl⟩ := dL_at hd
    have e2 := (a0.base.trans a1.base).trans b.base
    have hk := hw (wd.getD i 0) (getD_mem hi)
    have hMat := hm.get hk
    have ef := fold_take (f := chancesTurn n ms) (b := (identity n, 1)) 0 hi
    have hlen := (chances_ok hn hm (w := wd.take i) (identity n, 1) (identity_len' n) fun k hk => hw k (List.mem_of_mem_take hk)).1
    generalize (wd.take i).foldl (chancesTurn n ms) (identity n, 1) = cur at rf rb ef hlen
    generalize wd.getD i 0 = k at rx hk hMat ef
    refine qd_asg b.le (gv_call (ga_cons (gv_var rfl (r_size.mono e2)) (ga_cons (gv_var rfl rf) (ga_cons (gv_call (ga_cons (gv_var rfl (r_size.mono e2)) (ga_cons (gv_at [] (gv_var rfl (r_matrices.mono e2)) (ev_v rfl (rx.mono b.base)) hk) ga_nil)) ⟨n, _, rfl, rfl, hn, hMat, allChance hc hk⟩) ga_nil))) ⟨n, _, _, rfl, rfl, hn, hlen, by rw [scaled_len]; exact hMat.len, scaled_lt hMat hn⟩) fun v3 B3 H3 a3 r3 => ?_
    have e3 := e2.trans a3.base
    have hd := den_le' hMat hn
    refine sd_asg (K := K) (d := dI (cur.2 * denominator n (ms.getD k []))) a3.le (.int (ev_mul (.inr (by omega)) (ev_v rfl (rb.mono a3.base)) (gv_callI (ga_cons (gv_var rfl (r_size.mono e3)) (ga_cons (gv_at [] (gv_var rfl (r_matrices.mono e3)) (ev_v rfl (rx.mono (b.base.trans a3.base))) hk) ga_nil)) ⟨n, _, rfl, rfl, hn, hMat⟩))) fun v4 B4 H4 a4 r4 => ?_
    refine ⟨B4, v3, v4, _, rfl, (b.trans a3).trans a4, ?_, ?_⟩
    · rw [ef]
      exact r3.mono a4.base
    · rw [ef]
      exact r4
  · rintro σ' H' ⟨Bi, vf, vb, vm, rfl, b, rf, rb⟩
    rw [zlen, List.take_length] at rf rb
    refine qd_ret b.le (gv_lst (ga_cons (gv_var rfl rf) (ga_cons (gv_var rfl rb) ga_nil)) (by show 2 ≤ 100000; omega)) fun v B' H'' a2 r2 => q v B' H'' (((a0.trans a1).trans b).trans a2) r2
def F_common_divisor (ds : List PyData) (d : PyData) : Prop := ∃ a b, ds = [dI a, dI b] ∧ d = dI (Nat.gcd a b)
theorem sc_common_divisor : FnScope ["one", "other", "first", "second"] ["one", "other"] MwH.d_common_divisor.scope := ⟨rfl, rfl, rfl, by decide +kernel, rfl, by decide +kernel, by decide +kernel⟩
theorem ok_common_divisor (T : Txt K mg) : Has P w K mg base 1 "common_divisor" ["one", "other"] (spD K F_common_divisor) := by
  refine has_def (N := ["one", "other", "first", "second"]) T 12 rfl rfl rfl rfl rfl sc_common_divisor (fun _ _ _ _ _ _ us hl => match us, hl with | [_, _], _ => rfl) (fun ds d h => by obtain ⟨a, b, rfl, rfl⟩ := h; rfl) fun f cdv A outer s H E hr vs B ds dd Q le r hF q => ?_
  obtain ⟨a, b, rfl, rfl⟩ := hF
  obtain ⟨x_one, x_other, rfl, r_one, r_other⟩ := RpAll.n2 r
  refine ⟨_, (pss_cons (ps_par (i := 2) (j := 3) rfl sc_common_divisor.nd rfl rfl (by decide) rfl rfl (pa_cons (pv 0) (pa_cons (pv 1) pa_nil)) (by rfl)) (pss_cons (ps_while PassesOwn.never (pt_cmpR op_gt (pv 3) pe_int (nomark _)) (pss_one (ps_par (i := 2) (j := 3) rfl sc_common_divisor.nd rfl rfl (by decide) rfl rfl (pa_cons (pv 3) (pa_cons (pe_op op_mod (pv 2) (pv 3)) pa_nil)) (by rfl)))) (pss_one (ps_ret (pv 2))))), ?_⟩
  refine qd_par le (ga_cons (gv_var rfl r_one) (ga_cons (gv_var rfl r_other) ga_nil)) fun v0 v1 B0 H0 a0 r0 r1 => ?_
  obtain rfl := r0.isInt
  obtain rfl := r1.isInt
  refine q_while (fun m σ' H' => ∃ (x : Nat), σ' = [some x_one, some x_other, some (.int (x : Int)), some (.int (m : Int))] ∧ Ex H0 H' ∧ Nat.gcd x m = Nat.gcd a b) b ⟨a, rfl, Ex.refl _, rfl⟩ ?_
  rintro m σ' H' ⟨x, rfl, eH, hg⟩
  refine ⟨decide (0 < m), et_test (ev_gt (ev_var rfl) ev_n), fun hb H1 e1 => ?_, fun hb H1 e1 => ?_⟩
  · have hm := of_decide_eq_true hb
    refine ⟨fun σ2 H2 => ∃ m', m' < m ∧ ∃ (x : Nat), σ2 = [some x_one, some x_other, some (.int (x : Int)), some (.int (m' : Int))] ∧ Ex H0 H2 ∧ Nat.gcd x m' = Nat.gcd a b, fun σ2 H2 h => h, ?_⟩
    refine sd_par (K := K) (Ex.refl H1) (ga_int (ev_var rfl) (ga_int (ev_mod hm (ev_var rfl) (ev_var rfl)) ga_nil)) fun v1 v2 B' H' a2 q1 q2 => ?_
    obtain rfl := q1.isInt
    obtain rfl := q2.isInt
    refine ⟨x % m, Nat.mod_lt x hm, m, rfl, (eH.trans e1).trans a2.keep, ?_⟩
    rw [← hg, Nat.gcd_comm x m, Nat.gcd_rec m x, Nat.gcd_comm]
  · have hm : m = 0 := by
      have := of_decide_eq_false hb
      omega
    subst hm
    rw [Nat.gcd_zero_right] at hg
    refine ⟨_, rfl, ?_⟩
    rw [hg]
    exact q _ B0 H1 ⟨a0.base, a0.le.trans (eH.trans e1), a0.keep.trans (eH.trans e1), a0.fr⟩ (.int _)
def F_lowest_terms (ds : List PyData) (d : PyData) : Prop := ∃ a b, ds = [dI a, dI b] ∧ d = dL (lowest a b) ∧ 0 < b ∧ b < 2 ^ 1000
theorem sc_lowest_terms : FnScope ["above", "below", "divisor"] ["above", "below"] MwH.d_lowest_terms.scope := ⟨rfl, rfl, rfl, by decide +kernel, rfl, by decide +kernel, by decide +kernel⟩
theorem ok_lowest_terms (T : Txt K mg) : Has P w K mg base 2 "lowest_terms" ["above", "below"] (spD K F_lowest_terms) := by
  refine has_def (N := ["above", "below", "divisor"]) T 13 rfl rfl rfl rfl rfl sc_lowest_terms (fun _ _ _ _ _ _ us hl => match us, hl with | [_, _], _ => rfl) (fun ds d h => by obtain ⟨a, b, rfl, rfl, hb, hs⟩ := h; rfl) fun f cdv A outer s H E hr vs B ds dd Q le r hF q => ?_
  obtain ⟨a, b, rfl, rfl, hb, hs⟩ := hF
  obtain ⟨x_above, x_below, rfl, r_above, r_below⟩ := RpAll.n2 r
  obtain ⟨f_common_divisor, fd_common_divisor, m_common_divisor, k_common_divisor, b_common_divisor, G_common_divisor⟩ := ok_common_divisor (P := P) (w := w) (base := base) T
  refine ⟨_, (pss_cons (ps_set (i := 2) sc_lowest_terms.nd rfl (Or.inl rfl) (pe_call G_common_divisor (hr.mono (by decide)) (by rfl) m_common_divisor k_common_divisor b_common_divisor .nil pass0 (pa_cons (pv 0) (pa_cons (pv 1) pa_nil)))) (pss_one (ps_ret (pe_lst (pa_cons (pe_op op_fdivW (pv 0) (pv 2)) (pa_cons (pe_op op_fdivW (pv 1) (pv 2)) pa_nil)))))), ?_⟩
  refine qd_asg le (gv_call (ga_cons (gv_var rfl r_above) (ga_cons (gv_var rfl r_below) ga_nil)) ⟨a, b, rfl, rfl⟩) fun v0 B0 H0 a0 r0 => ?_
  obtain rfl := r0.isInt
  have hg : 0 < Nat.gcd a b := Nat.gcd_pos_of_pos_right a hb
  have hg2 : Nat.gcd a b < 2 ^ 1000 := Nat.lt_of_le_of_lt (Nat.gcd_le_right a hb) hs
  have dv : ∀ {ta : TE} {x : Nat} {σ : L2.St}, Ev ta σ B0 (.int (x : Int)) → σ[2]? = some (some (.int ((Nat.gcd a b : Nat) : Int))) → Ev (tOp (rI CDivW fun i j => .int (i / j)) ta (tVar 2)) σ B0 (.int ((x / Nat.gcd a b : Nat) : Int)) := fun {ta x σ} ha hσ =>
    ev_is (ev_op ha (ev_var hσ) (rv_I (wide_div (b := 1000) (by omega) (by rw [Int.natAbs_natCast]; exact hg2) (by omega) (by omega)))) (by rw [Int.natCast_ediv])
  refine qd_ret a0.le (Gv.is (gv_lst (ga_int (dv (ev_v rfl (r_above.mono a0.base)) rfl) (ga_int (dv (ev_v rfl (r_below.mono a0.base)) rfl) ga_nil)) (by show 2 ≤ 100000; omega)) rfl) fun v B' H' a2 r2 => q v B' H' (a0.trans a2) r2
end
end Mw
end
section
set_option Elab.async false
set_option linter.all false
set_option maxRecDepth 100000
set_option maxHeartbeats 4000000
/-! # Walks: distances, the coefficient -/
namespace Mw
open PySem PySem.Spec PyProof.Rows L2 Evl
section
variable {P : Program} {w : World} {K : Frg} {mg : Str → Option Value} {base : Heap}
theorem cut_getD {l : List Nat} {k n c : Nat} (hc : c < n) : ((l.drop k).take n).getD c 0 = l.getD (k + c) 0 := by
  rw [List.getD_eq_getElem?_getD, List.getElem?_take_of_lt hc, List.getElem?_drop, ← List.getD_eq_getElem?_getD]
theorem cut_len {l : List Nat} {k n : Nat} (h : k + n ≤ l.length) : ((l.drop k).take n).length = n := by
  rw [List.length_take, List.length_drop]
  omega
/-- l[i * n:i * n + n] -/
theorem gv_row {σ : L2.St} {B : Hp} {te ti tn : TE} {l : List Nat} {i n : Nat} (hn : Sz n) (hi : i < n) (hl : l.length = n * n) (h : Gv K te σ B (dL l)) (h1 : Ev ti σ B (.int (i : Int))) (h2 : Ev tn σ B (.int (n : Int))) :
    Gv K (tSl (rSlL K) te (tPart (tOp (rI CMul fun i j => .int (i * j)) ti tn)) (tPart (tOp (rI0 fun i j => .int (i + j)) (tOp (rI CMul fun i j => .int (i * j)) ti tn) tn))) σ B (dL ((l.drop (i * n)).take n)) := by
  have h3 := hn.le
  have hend := row_end hi
  have hm : Ev (tOp (rI CMul fun i j => .int (i * j)) ti tn) σ B (.int ((i * n : Nat) : Int)) := ev_mul (.inr (by omega)) h1 h2
  refine Gv.is (gv_sl (i := i * n) (j := i * n + n) h (eo_some hm) (eo_some (ev_add hm h2)) (by rw [zlen]; exact sIx_nat _ _ _ (by omega)) (by rw [zlen]; exact sIx_nat _ _ _ (by omega))) ?_
  rw [dL_cut, Nat.add_sub_cancel_left]
  rfl
def F_distance_of (ds : List PyData) (d : PyData) : Prop := ∃ n x i j, ds = [dI n, dL x, dI i, dI j] ∧ d = dI (distance n x i j) ∧ Sz n ∧ x.length = n * n ∧ i < n ∧ j < n
theorem sc_distance_of : FnScope ["size", "numbers", "one", "other", "first", "second", "column"] ["size", "numbers", "one", "other"] MwH.d_distance_of.scope := ⟨rfl, rfl, rfl, by decide +kernel, rfl, by decide +kernel, by decide +kernel⟩
theorem ok_distance_of (T : Txt K mg) : Has P w K mg base 1 "distance_of" ["size", "numbers", "one", "other"] (spD K F_distance_of) := by
  refine has_def (N := ["size", "numbers", "one", "other", "first", "second", "column"]) T 14 rfl rfl rfl rfl rfl sc_distance_of (fun _ _ _ _ _ _ us hl => match us, hl with | [_, _, _, _], _ => rfl) (fun ds d h => by obtain ⟨n, x, i, j, rfl, rfl, hn, hx, hi, hj⟩ := h; rfl) fun f cdv A outer s H E hr vs B ds dd Q le r hF q => ?_
  obtain ⟨n, x, i, j, rfl, rfl, hn, hx, hi, hj⟩ := hF
  obtain ⟨x_size, x_numbers, x_one, x_other, rfl, r_size, r_numbers, r_one, r_other⟩ := RpAll.n4 r
  refine ⟨_, (pss_cons (ps_asg (pe_tup (pa_cons (pe_slice (sl_listK (K := K) rfl) (pv 1) (po_some (pe_op op_mul (pv 2) (pv 0))) (po_some (pe_op op_add (pe_op op_mul (pv 2) (pv 0)) (pv 0)))) (pa_cons (pe_slice (sl_listK (K := K) rfl) (pv 1) (po_some (pe_op op_mul (pv 3) (pv 0))) (po_some (pe_op op_add (pe_op op_mul (pv 3) (pv 0)) (pv 0)))) pa_nil))) (pg_tupK (K := K) (n := 2) rfl rfl (pgs_cons (pg_name (i := 4) sc_distance_of.nd rfl (Or.inr rfl)) (pgs_cons (pg_name (i := 5) sc_distance_of.nd rfl (Or.inr rfl)) pgs_nil)))) (pss_one (ps_ret (pe_callB (cr_sumK (K := K) rfl rfl) (by rfl) (T.free 132 rfl) (by decide +kernel) (pa_cons (pe_lc (own := [("column", 6)]) rfl sc_distance_of.nd (pi_range1 (by rfl) (T.free 133 rfl) (pa_cons (pv 0) pa_nil)) (blkOk_by (own := [("column", 6)]) (N := ["size", "numbers", "one", "other", "first", "second", "column"]) (sc := MwH.d_distance_of.scope) (by decide +kernel)) (fun _ _ _ _ _ => (pg_name (i := 6) sc_distance_of.nd rfl (Or.inl rfl))) (fun _ _ _ _ _ => pts_nil) (fun _ _ _ _ _ => (pe_callB (call_max2 rfl) (by rfl) (T.free 140 rfl) (by decide +kernel) (pa_cons pe_int (pa_cons (pe_op op_sub (pe_ix (ix_listK (K := K) rfl) (pv 4) (pv 6) (fun _ _ => rfl)) (pe_ix (ix_listK (K := K) rfl) (pv 5) (pv 6) (fun _ _ => rfl))) pa_nil))))) pa_nil))))), ?_⟩
  have h3 := hn.le
  have ei := row_end hi
  have ej := row_end hj
  refine qd_two le (ga_cons (gv_row hn hi hx (gv_var rfl r_numbers) (ev_v rfl r_one) (ev_v rfl r_size)) (ga_cons (gv_row hn hj hx (gv_var rfl r_numbers) (ev_v rfl r_other) (ev_v rfl r_size)) ga_nil)) fun v1 v2 B1 H1 a1 r1 r2 => ?_
  refine qd_ret a1.le (Gv.is (.int (ev_sum (l := (List.range n).map fun c => x.getD (i * n + c) 0 - x.getD (j * n + c) 0) (ga_cons (Gv.is (gv_lcR (n := n) (fun _ => true) (fun c => dI (x.getD (i * n + c) 0 - x.getD (j * n + c) 0)) (ea_cons (ev_v rfl (r_size.mono a1.base)) ea_nil) (by omega) fun c B2 e2 hc => turn_name (fun _ => rfl) et_true fun _ => .int ?_) ?_) ga_nil))) ?_) fun v B' H' a2 r2 => q v B' H' (a1.trans a2) r2
  · rw [← cut_getD (l := x) (k := i * n) hc, ← cut_getD (l := x) (k := j * n) hc]
    exact ev_max0 ev_c (ev_at (gv_var rfl (r1.mono e2)) (ev_var rfl) (by rw [cut_len (by omega)]; exact hc)) (ev_at (gv_var rfl (r2.mono e2)) (ev_var rfl) (by rw [cut_len (by omega)]; exact hc))
  · rw [gvn_all]
    refine dL_of ?_
    rw [List.map_map]
    rfl
  · rfl
def F_greatest_distance (ds : List PyData) (d : PyData) : Prop := ∃ n x, ds = [dI n, dL x] ∧ d = dI (greatestDistance n x) ∧ Sz n ∧ x.length = n * n
theorem sc_greatest_distance : FnScope ["size", "numbers", "found", "one", "other"] ["size", "numbers"] MwH.d_greatest_distance.scope := ⟨rfl, rfl, rfl, by decide +kernel, rfl, by decide +kernel, by decide +kernel⟩
theorem ok_greatest_distance (T : Txt K mg) : Has P w K mg base 2 "greatest_distance" ["size", "numbers"] (spD K F_greatest_distance) := by
  refine has_def (N := ["size", "numbers", "found", "one", "other"]) T 15 rfl rfl rfl rfl rfl sc_greatest_distance (fun _ _ _ _ _ _ us hl => match us, hl with | [_, _], _ => rfl) (fun ds d h => by obtain ⟨n, x, rfl, rfl, hn, hx⟩ := h; rfl) fun f cdv A outer s H E hr vs B ds dd Q le r hF q => ?_
  obtain ⟨n, x, rfl, rfl, hn, hx⟩ := hF
  obtain ⟨x_size, x_numbers, rfl, r_size, r_numbers⟩ := RpAll.n2 r
  obtain ⟨f_distance_of, fd_distance_of, m_distance_of, k_distance_of, b_distance_of, G_distance_of⟩ := ok_distance_of (P := P) (w := w) (base := base) T
  refine ⟨_, (pss_cons (ps_set (i := 2) sc_greatest_distance.nd rfl (Or.inl rfl) pe_int) (pss_cons (ps_for PassesOwn.never rfl (pi_range1 (by rfl) (T.free 133 rfl) (pa_cons (pv 0) pa_nil)) (pg_name (i := 3) sc_greatest_distance.nd rfl (Or.inl rfl)) (pss_one (ps_for PassesOwn.never rfl (pi_range1 (by rfl) (T.free 133 rfl) (pa_cons (pv 0) pa_nil)) (pg_name (i := 4) sc_greatest_distance.nd rfl (Or.inl rfl)) (pss_one (ps_set (i := 2) sc_greatest_distance.nd rfl (Or.inl rfl) (pe_callB (call_max2 rfl) (by rfl) (T.free 140 rfl) (by decide +kernel) (pa_cons (pv 2) (pa_cons (pe_call G_distance_of (hr.mono (by decide)) (by rfl) m_distance_of k_distance_of b_distance_of .nil pass0 (pa_cons (pv 0) (pa_cons (pv 1) (pa_cons (pv 3) (pa_cons (pv 4) pa_nil))))) pa_nil)))))))) (pss_one (ps_ret (pv 2))))), ?_⟩
  have h3 := hn.le
  refine qd_asg (K := K) le (Gv.int (ev_n (a := 0))) fun v0 B0 H0 a0 r0 => ?_
  obtain rfl := r0.isInt
  let inner : Nat → Nat → Nat := fun f i => (List.range n).foldl (fun g j => max g (distance n x i j)) f
  refine qd_forR (n := n) a0.le (ea_cons (ev_v rfl (r_size.mono a0.base)) ea_nil) (by omega)
    (fun i σ' H' => ∃ Bi v3 v4, σ' = [some x_size, some x_numbers, some (.int (((List.range i).foldl inner 0 : Nat) : Int)), v3, v4] ∧ At B H Bi H')
    (fun H1 e1 => ⟨B0, none, none, rfl, ⟨a0.base, a0.le.trans e1, a0.keep.trans e1, a0.fr⟩⟩) ?_ ?_
  · rintro i σ' H' hi ⟨Bi, v3, v4, rfl, b⟩
    have ef := fold_range (f := inner) (b := 0) i
    generalize (List.range i).foldl inner 0 = cur at ef
    refine sd_forR (n := n) b.le (ea_cons (ev_v rfl (r_size.mono b.base)) ea_nil) (by omega)
      (fun j σ'' H'' => ∃ Bj w4, σ'' = [some x_size, some x_numbers, some (.int (((List.range j).foldl (fun g j => max g (distance n x i j)) cur : Nat) : Int)), some (.int (i : Int)), w4] ∧ At B H Bj H'')
      (fun H1 e1 => ⟨Bi, v4, rfl, ⟨b.base, b.le.trans e1, b.keep.trans e1, b.fr⟩⟩) ?_ ?_
    · rintro j σ'' H'' hj ⟨Bj, w4, rfl, c⟩
      have eg := fold_range (f := fun g j => max g (distance n x i j)) (b := cur) j
      generalize (List.range j).foldl (fun g j => max g (distance n x i j)) cur = cur2 at eg
      refine sd_asg (K := K) (d := dI (max cur2 (distance n x i j))) c.le (.int (ev_maxN (ev_var rfl) (gv_callI (ga_cons (gv_var rfl (r_size.mono c.base)) (ga_cons (gv_var rfl (r_numbers.mono c.base)) (ga_int (ev_var rfl) (ga_int (ev_var rfl) ga_nil)))) ⟨n, x, i, j, rfl, rfl, hn, hx, hi, hj⟩))) fun v B' H' a2 r2 => ?_
      obtain rfl := r2.isInt
      refine ⟨B', some (.int (j : Int)), ?_, c.trans a2⟩
      rw [eg]
      rfl
    · rintro σ'' H'' ⟨Bj, w4, rfl, c⟩
      refine ⟨Bj, some (.int (i : Int)), w4, ?_, c⟩
      rw [ef]
  · rintro σ' H' ⟨Bi, v3, v4, rfl, b⟩
    exact qd_ret (K := K) b.le (.int (ev_var rfl)) fun v B' H'' a2 r2 => q v B' H'' (b.trans a2) r2
theorem den_pos {n : Nat} {e : List Nat} (h : noZeroRow n e = true) : 0 < denominator n e := by
  have key : ∀ k, k ≤ n → 0 < (List.range k).foldl (fun f r => f * rowSum n e r) 1 := by
    intro k
    induction k with
    | zero => exact fun _ => Nat.zero_lt_one
    | succ k ih =>
      intro hk
      rw [fold_range]
      exact Nat.mul_pos (ih (by omega)) (noZero_pos h hk)
  exact key n (Nat.le_refl _)
theorem chances_pos {n : Nat} {ms : List (List Nat)} (hc : areChances n ms = true) : ∀ {w : List Nat} (b : List Nat × Nat), 0 < b.2 → (∀ k ∈ w, k < ms.length) → 0 < (w.foldl (chancesTurn n ms) b).2
  | [], _, h, _ => h
  | k :: r, b, h, hw => chances_pos hc (chancesTurn n ms b k) (Nat.mul_pos h (den_pos (allChance hc (hw k (List.mem_cons_self ..))))) fun j hj => hw j (List.mem_cons_of_mem _ hj)
def F_coefficient_of (ds : List PyData) (d : PyData) : Prop := ∃ n ms wd, ds = [dI n, dM ms, dL wd] ∧ d = dL (coefficient n ms wd) ∧ Sz n ∧ Ms n ms ∧ (∀ k ∈ wd, k < ms.length) ∧ areChances n ms = true ∧ wd.length ≤ 8
theorem sc_coefficient_of : FnScope ["size", "matrices", "word", "numbers", "below"] ["size", "matrices", "word"] MwH.d_coefficient_of.scope := ⟨rfl, rfl, rfl, by decide +kernel, rfl, by decide +kernel, by decide +kernel⟩
theorem ok_coefficient_of (T : Txt K mg) : Has P w K mg base 5 "coefficient_of" ["size", "matrices", "word"] (spD K F_coefficient_of) := by
  refine has_def (N := ["size", "matrices", "word", "numbers", "below"]) T 16 rfl rfl rfl rfl rfl sc_coefficient_of (fun _ _ _ _ _ _ us hl => match us, hl with | [_, _, _], _ => rfl) (fun ds d h => by obtain ⟨n, ms, wd, rfl, rfl, hn, hm, hw, hc, hl⟩ := h; rfl) fun f cdv A outer s H E hr vs B ds dd Q le r hF q => ?_
  obtain ⟨n, ms, wd, rfl, rfl, hn, hm, hw, hc, hl⟩ := hF
  obtain ⟨x_size, x_matrices, x_word, rfl, r_size, r_matrices, r_word⟩ := RpAll.n3 r
  obtain ⟨f_chances_of_word, fd_chances_of_word, m_chances_of_word, k_chances_of_word, b_chances_of_word, G_chances_of_word⟩ := ok_chances_of_word (P := P) (w := w) (base := base) T
  obtain ⟨f_lowest_terms, fd_lowest_terms, m_lowest_terms, k_lowest_terms, b_lowest_terms, G_lowest_terms⟩ := ok_lowest_terms (P := P) (w := w) (base := base) T
  obtain ⟨f_greatest_distance, fd_greatest_distance, m_greatest_distance, k_greatest_distance, b_greatest_distance, G_greatest_distance⟩ := ok_greatest_distance (P := P) (w := w) (base := base) T
  refine ⟨_, (pss_cons (ps_asg (pe_call G_chances_of_word (hr.mono (by decide)) (by rfl) m_chances_of_word k_chances_of_word b_chances_of_word .nil pass0 (pa_cons (pv 0) (pa_cons (pv 1) (pa_cons (pv 2) pa_nil)))) (pg_unlK (K := K) (n := 2) rfl rfl (pgs_cons (pg_name (i := 3) sc_coefficient_of.nd rfl (Or.inl rfl)) (pgs_cons (pg_name (i := 4) sc_coefficient_of.nd rfl (Or.inl rfl)) pgs_nil)))) (pss_one (ps_ret (pe_call G_lowest_terms (hr.mono (by decide)) (by rfl) m_lowest_terms k_lowest_terms b_lowest_terms .nil pass0 (pa_cons (pe_call G_greatest_distance (hr.mono (by decide)) (by rfl) m_greatest_distance k_greatest_distance b_greatest_distance .nil pass0 (pa_cons (pv 0) (pa_cons (pv 3) pa_nil))) (pa_cons (pv 4) pa_nil)))))), ?_⟩
  refine qd_unl le (gv_call (ga_cons (gv_var rfl r_size) (ga_cons (gv_var rfl r_matrices) (ga_cons (gv_var rfl r_word) ga_nil))) ⟨n, ms, wd, rfl, rfl, hn, hm, hw, hc⟩) fun v1 v2 B1 H1 a1 r1 r2 => ?_
  refine qd_ret a1.le (gv_call (ga_cons (gv_call (ga_cons (gv_var rfl (r_size.mono a1.base)) (ga_cons (gv_var rfl r1) ga_nil)) ⟨n, _, rfl, rfl, hn, chances_len hn hm hw⟩) (ga_cons (gv_var rfl r2) ga_nil)) ⟨_, _, rfl, rfl, chances_pos hc (identity n, 1) Nat.zero_lt_one hw, chances_den hn hm hw hl⟩) fun v B' H' a2 r2 => q v B' H' (a1.trans a2) r2
end
end Mw
end
section
set_option Elab.async false
set_option linter.all false
set_option maxRecDepth 100000
set_option maxHeartbeats 4000000
/-! # Walks: patterns -/
namespace Mw
open PySem PySem.Spec PyProof.Rows L2 Evl
section
variable {P : Program} {w : World} {K : Frg} {mg : Str → Option Value} {base : Heap}
def F_has_index (ds : List PyData) (d : PyData) : Prop := ∃ s i, ds = [dI s, dI i] ∧ d = .bool (hasIndex s i)
theorem sc_has_index : FnScope ["index_set", "index"] ["index_set", "index"] MwH.d_has_index.scope := ⟨rfl, rfl, rfl, by decide +kernel, rfl, by decide +kernel, by decide +kernel⟩
theorem ok_has_index (T : Txt K mg) : Has P w K mg base 1 "has_index" ["index_set", "index"] (spD K F_has_index) := by
  refine has_def (N := ["index_set", "index"]) T 17 rfl rfl rfl rfl rfl sc_has_index (fun _ _ _ _ _ _ us hl => match us, hl with | [_, _], _ => rfl) (fun ds d h => by obtain ⟨s0, i, rfl, rfl⟩ := h; rfl) fun f cdv A outer s H E hr vs B ds dd Q le r hF q => ?_
  obtain ⟨s0, i, rfl, rfl⟩ := hF
  obtain ⟨x_index_set, x_index, rfl, r_index_set, r_index⟩ := RpAll.n2 r
  refine ⟨_, (pss_one (ps_ret (pe_cmpR op_eq (pe_op op_and (pe_op op_shr (pv 0) (pv 1)) pe_int) pe_int (nomark _)))), ?_⟩
  refine qd_ret le (Gv.is (.bl (ev_eq (ev_and (ev_shr (ev_v rfl r_index_set) (ev_v rfl r_index)) (ev_n (a := 1))) (ev_n (a := 1)))) ?_) q
  rw [Nat.and_one_is_mod]
  unfold hasIndex
  by_cases c : s0 / 2 ^ i % 2 = 1
  · rw [decide_eq_true c, c]
    rfl
  · rw [decide_eq_false c]
    have e : (s0 / 2 ^ i % 2 == 1) = false := beq_eq_false_iff_ne.mpr c
    rw [e]
theorem gvn_filter {n : Nat} (f : Nat → Bool) : gvn n f (fun i => dI i) = (zs ((List.range n).filter f)).map PyData.int := by
  unfold gvn zs
  rw [List.map_map]
  rfl
def F_indices_in (ds : List PyData) (d : PyData) : Prop := ∃ n s, ds = [dI n, dI s] ∧ d = dL (indicesIn n s) ∧ n ≤ 3
theorem sc_indices_in : FnScope ["size", "index_set", "index"] ["size", "index_set"] MwH.d_indices_in.scope := ⟨rfl, rfl, rfl, by decide +kernel, rfl, by decide +kernel, by decide +kernel⟩
theorem ok_indices_in (T : Txt K mg) : Has P w K mg base 2 "indices_in" ["size", "index_set"] (spD K F_indices_in) := by
  refine has_def (N := ["size", "index_set", "index"]) T 18 rfl rfl rfl rfl rfl sc_indices_in (fun _ _ _ _ _ _ us hl => match us, hl with | [_, _], _ => rfl) (fun ds d h => by obtain ⟨n, s0, rfl, rfl, hn⟩ := h; rfl) fun f cdv A outer s H E hr vs B ds dd Q le r hF q => ?_
  obtain ⟨n, s0, rfl, rfl, hn⟩ := hF
  obtain ⟨x_size, x_index_set, rfl, r_size, r_index_set⟩ := RpAll.n2 r
  obtain ⟨f_has_index, fd_has_index, m_has_index, k_has_index, b_has_index, G_has_index⟩ := ok_has_index (P := P) (w := w) (base := base) T
  refine ⟨_, (pss_one (ps_ret (pe_lc (own := [("index", 2)]) rfl sc_indices_in.nd (pi_range1 (by rfl) (T.free 133 rfl) (pa_cons (pv 0) pa_nil)) (blkOk_by (own := [("index", 2)]) (N := ["size", "index_set", "index"]) (sc := MwH.d_indices_in.scope) (by decide +kernel)) (fun _ _ _ _ _ => (pg_name (i := 2) sc_indices_in.nd rfl (Or.inl rfl))) (fun _ _ _ _ _ => (pts_one (pt_val (pe_call G_has_index (hr.mono (by decide)) (by rfl) m_has_index k_has_index b_has_index .nil pass0 (pa_cons (pv 1) (pa_cons (pv 2) pa_nil)))))) (fun _ _ _ _ _ => (pv 2))))), ?_⟩
  refine qd_ret le (Gv.is (gv_lcR (n := n) (hasIndex s0) (fun i => dI i) (ea_cons (ev_v rfl r_size) ea_nil) (by omega) fun i B1 e1 hi => turn_name (fun _ => rfl) ?_ fun _ => .int (ev_var rfl)) ?_) q
  · exact et_test (gv_callB (ga_cons (gv_var rfl (r_index_set.mono e1)) (ga_int (ev_var rfl) ga_nil)) ⟨_, _, rfl, rfl⟩)
  · rw [gvn_filter]
    rfl
def F_set_of_row (ds : List PyData) (d : PyData) : Prop := ∃ n e r, ds = [dI n, dL e, dI r] ∧ d = dI (setOfRow n e r) ∧ Sz n ∧ r < n ∧ e.length = n * n
theorem sc_set_of_row : FnScope ["size", "entries", "row", "column"] ["size", "entries", "row"] MwH.d_set_of_row.scope := ⟨rfl, rfl, rfl, by decide +kernel, rfl, by decide +kernel, by decide +kernel⟩
theorem ok_set_of_row (T : Txt K mg) : Has P w K mg base 1 "set_of_row" ["size", "entries", "row"] (spD K F_set_of_row) := by
  refine has_def (N := ["size", "entries", "row", "column"]) T 19 rfl rfl rfl rfl rfl sc_set_of_row (fun _ _ _ _ _ _ us hl => match us, hl with | [_, _, _], _ => rfl) (fun ds d h => by obtain ⟨n, e, r0, rfl, rfl, hn, hr0, he⟩ := h; rfl) fun f cdv A outer s H E hr vs B ds dd Q le r hF q => ?_
  obtain ⟨n, e, r0, rfl, rfl, hn, hr0, he⟩ := hF
  obtain ⟨x_size, x_entries, x_row, rfl, r_size, r_entries, r_row⟩ := RpAll.n3 r
  refine ⟨_, (pss_one (ps_ret (pe_callB (cr_sumK (K := K) rfl rfl) (by rfl) (T.free 132 rfl) (by decide +kernel) (pa_cons (pe_lc (own := [("column", 3)]) rfl sc_set_of_row.nd (pi_range1 (by rfl) (T.free 133 rfl) (pa_cons (pv 0) pa_nil)) (blkOk_by (own := [("column", 3)]) (N := ["size", "entries", "row", "column"]) (sc := MwH.d_set_of_row.scope) (by decide +kernel)) (fun _ _ _ _ _ => (pg_name (i := 3) sc_set_of_row.nd rfl (Or.inl rfl))) (fun _ _ _ _ _ => (pts_one (pt_cmpR op_gt (pe_ix (ix_listK (K := K) rfl) (pv 1) (pe_op op_add (pe_op op_mul (pv 2) (pv 0)) (pv 3)) (fun _ _ => rfl)) pe_int (nomark _)))) (fun _ _ _ _ _ => (pe_op op_shl pe_int (pv 3)))) pa_nil)))), ?_⟩
  have h3 := hn.le
  refine qd_ret le (Gv.is (.int (ev_sum (l := ((List.range n).filter fun c => decide (0 < e.getD (r0 * n + c) 0)).map fun c => 2 ^ c) (ga_cons (Gv.is (gv_lcR (n := n) (fun c => decide (0 < e.getD (r0 * n + c) 0)) (fun c => dI (2 ^ c)) (ea_cons (ev_v rfl r_size) ea_nil) (by omega) fun c B1 e1 hc => turn_name (fun _ => rfl) ?_ fun _ => .int ?_) ?_) ga_nil))) rfl) q
  · have hlt : r0 * n + c < e.length := by rw [he]; exact idx_lt hr0 hc
    exact et_test (ev_gt (ev_at (gv_var rfl (r_entries.mono e1)) (ev_add (ev_mul (.inr (by omega)) (ev_v rfl (r_row.mono e1)) (ev_v rfl (r_size.mono e1))) (ev_var rfl)) hlt) ev_n)
  · exact ev_shl1 (by omega) ev_c (ev_var rfl)
  · refine dL_of ?_
    unfold gvn
    rw [List.map_map]
    rfl
def F_pattern_of (ds : List PyData) (d : PyData) : Prop := ∃ n e, ds = [dI n, dL e] ∧ d = dT (patternOf n e) ∧ Sz n ∧ e.length = n * n
theorem dT_of {l : List Nat} {ds : List PyData} (h : ds = l.map fun n => dI n) : PyData.tuple ds = dT l := by
  unfold dT zs
  rw [h, List.map_map]
  rfl
theorem sc_pattern_of : FnScope ["size", "entries", "row"] ["size", "entries"] MwH.d_pattern_of.scope := ⟨rfl, rfl, rfl, by decide +kernel, rfl, by decide +kernel, by decide +kernel⟩
theorem ok_pattern_of (T : Txt K mg) : Has P w K mg base 2 "pattern_of" ["size", "entries"] (spD K F_pattern_of) := by
  refine has_def (N := ["size", "entries", "row"]) T 20 rfl rfl rfl rfl rfl sc_pattern_of (fun _ _ _ _ _ _ us hl => match us, hl with | [_, _], _ => rfl) (fun ds d h => by obtain ⟨n, e, rfl, rfl, hn, he⟩ := h; rfl) fun f cdv A outer s H E hr vs B ds dd Q le r hF q => ?_
  obtain ⟨n, e, rfl, rfl, hn, he⟩ := hF
  obtain ⟨x_size, x_entries, rfl, r_size, r_entries⟩ := RpAll.n2 r
  obtain ⟨f_set_of_row, fd_set_of_row, m_set_of_row, k_set_of_row, b_set_of_row, G_set_of_row⟩ := ok_set_of_row (P := P) (w := w) (base := base) T
  refine ⟨_, (pss_one (ps_ret (pe_callTy (call_tupleK (K := K) rfl) (by rfl) (T.free 137 rfl) (by decide +kernel) (pa_cons (pe_lc (own := [("row", 2)]) rfl sc_pattern_of.nd (pi_range1 (by rfl) (T.free 133 rfl) (pa_cons (pv 0) pa_nil)) (blkOk_by (own := [("row", 2)]) (N := ["size", "entries", "row"]) (sc := MwH.d_pattern_of.scope) (by decide +kernel)) (fun _ _ _ _ _ => (pg_name (i := 2) sc_pattern_of.nd rfl (Or.inl rfl))) (fun _ _ _ _ _ => pts_nil) (fun _ _ _ _ _ => (pe_call G_set_of_row (hr.mono (by decide)) (by rfl) m_set_of_row k_set_of_row b_set_of_row .nil pass0 (pa_cons (pv 0) (pa_cons (pv 1) (pa_cons (pv 2) pa_nil)))))) pa_nil)))), ?_⟩
  have h3 := hn.le
  refine qd_ret le (Gv.is (gv_tupleL (ga_cons (gv_lcR (n := n) (fun _ => true) (fun r => dI (setOfRow n e r)) (ea_cons (ev_v rfl r_size) ea_nil) (by omega) fun i B1 e1 hi => turn_name (fun _ => rfl) et_true fun _ => ?_) ga_nil)) ?_) q
  · exact gv_call (ga_cons (gv_var rfl (r_size.mono e1)) (ga_cons (gv_var rfl (r_entries.mono e1)) (ga_int (ev_var rfl) ga_nil))) ⟨n, e, i, rfl, rfl, hn, hi, he⟩
  · rw [gvn_all]
    refine dT_of ?_
    unfold patternOf
    rw [List.map_map]
    rfl
theorem map_data {α β : Type} (f : α → β) (g : β → PyData) (l : List α) (z : α) : (List.range l.length).map (fun i => g (f (l.getD i z))) = (l.map f).map g := by
  have e := map_range_getD l z
  have e2 : (l.map f).map g = (((List.range l.length).map fun i => l.getD i z).map f).map g := by rw [e]
  rw [e2, List.map_map, List.map_map]
  rfl
def F_patterns_of (ds : List PyData) (d : PyData) : Prop := ∃ n ms, ds = [dI n, dM ms] ∧ d = dTs (patternsOf n ms) ∧ Sz n ∧ Ms n ms ∧ ms.length ≤ 1000
theorem sc_patterns_of : FnScope ["size", "matrices", "entries"] ["size", "matrices"] MwH.d_patterns_of.scope := ⟨rfl, rfl, rfl, by decide +kernel, rfl, by decide +kernel, by decide +kernel⟩
theorem ok_patterns_of (T : Txt K mg) : Has P w K mg base 3 "patterns_of" ["size", "matrices"] (spD K F_patterns_of) := by
  refine has_def (N := ["size", "matrices", "entries"]) T 21 rfl rfl rfl rfl rfl sc_patterns_of (fun _ _ _ _ _ _ us hl => match us, hl with | [_, _], _ => rfl) (fun ds d h => by obtain ⟨n, ms, rfl, rfl, hn, hm, hl⟩ := h; rfl) fun f cdv A outer s H E hr vs B ds dd Q le r hF q => ?_
  obtain ⟨n, ms, rfl, rfl, hn, hm, hl⟩ := hF
  obtain ⟨x_size, x_matrices, rfl, r_size, r_matrices⟩ := RpAll.n2 r
  obtain ⟨f_pattern_of, fd_pattern_of, m_pattern_of, k_pattern_of, b_pattern_of, G_pattern_of⟩ := ok_pattern_of (P := P) (w := w) (base := base) T
  refine ⟨_, (pss_one (ps_ret (pe_lc (own := [("entries", 2)]) rfl sc_patterns_of.nd (pi_listK (K := K) rfl (pv 1)) (blkOk_by (own := [("entries", 2)]) (N := ["size", "matrices", "entries"]) (sc := MwH.d_patterns_of.scope) (by decide +kernel)) (fun _ _ _ _ _ => (pg_name (i := 2) sc_patterns_of.nd rfl (Or.inl rfl))) (fun _ _ _ _ _ => pts_nil) (fun _ _ _ _ _ => (pe_call G_pattern_of (hr.mono (by decide)) (by rfl) m_pattern_of k_pattern_of b_pattern_of .nil pass0 (pa_cons (pv 0) (pa_cons (pv 2) pa_nil))))))), ?_⟩
  refine qd_ret le (Gv.is (gv_lcL (fun _ => true) (fun i => dT (patternOf n (ms.getD i []))) (gv_var rfl r_matrices) (by rw [List.length_map]; omega) fun i x d B1 e1 hd rx => turn_name (fun _ => rfl) et_true fun _ => ?_) ?_) q
  · obtain ⟨hi, rfl⟩ := dM_at [] hd
    exact gv_call (ga_cons (gv_var rfl (r_size.mono e1)) (ga_cons (gv_var rfl rx) ga_nil)) ⟨n, _, rfl, rfl, hn, (hm.get hi).len⟩
  · rw [gvn_all, List.length_map]
    exact congrArg PyData.list (map_data (patternOf n) dT ms [])
theorem pow_le8 {n : Nat} (h : Sz n) : 2 ^ n ≤ 8 := by rcases h with rfl | rfl | rfl <;> decide
def F_mapped (ds : List PyData) (d : PyData) : Prop := ∃ n p s, ds = [dT p, dI s] ∧ d = dI (mapped p s) ∧ Sz n ∧ Pat n p
theorem mappedTo_lt {n : Nat} {p : List Nat} {s : Nat} (hp : Pat n p) : ∀ i, mappedTo p s i < 2 ^ n := fun i => by
  unfold mappedTo
  exact foldl_inv (I := fun x => x < 2 ^ n) (Nat.two_pow_pos n) fun b x hb _ => by
    show (if hasIndex s x = true then b ||| p.getD x 0 else b) < 2 ^ n
    split
    · exact or_lt hb (hp.get x)
    · exact hb
theorem sc_mapped : FnScope ["pattern", "index_set", "found", "index", "row"] ["pattern", "index_set"] MwH.d_mapped.scope := ⟨rfl, rfl, rfl, by decide +kernel, rfl, by decide +kernel, by decide +kernel⟩
theorem ok_mapped (T : Txt K mg) : Has P w K mg base 2 "mapped" ["pattern", "index_set"] (spD K F_mapped) := by
  refine has_def (N := ["pattern", "index_set", "found", "index", "row"]) T 22 rfl rfl rfl rfl rfl sc_mapped (fun _ _ _ _ _ _ us hl => match us, hl with | [_, _], _ => rfl) (fun ds d h => by obtain ⟨n, p, s0, rfl, rfl, hn, hp⟩ := h; rfl) fun f cdv A outer s H E hr vs B ds dd Q le r hF q => ?_
  obtain ⟨n, p, s0, rfl, rfl, hn, hp⟩ := hF
  obtain ⟨x_pattern, x_index_set, rfl, r_pattern, r_index_set⟩ := RpAll.n2 r
  obtain ⟨f_has_index, fd_has_index, m_has_index, k_has_index, b_has_index, G_has_index⟩ := ok_has_index (P := P) (w := w) (base := base) T
  refine ⟨_, (pss_cons (ps_set (i := 2) sc_mapped.nd rfl (Or.inl rfl) pe_int) (pss_cons (ps_for PassesOwn.never rfl (pi_enumT (K := K) rfl (by rfl) (T.free 135 rfl) (pa_cons (pv 0) pa_nil)) (pg_tupK (K := K) (n := 2) rfl rfl (pgs_cons (pg_name (i := 3) sc_mapped.nd rfl (Or.inl rfl)) (pgs_cons (pg_name (i := 4) sc_mapped.nd rfl (Or.inl rfl)) pgs_nil))) (pss_one (ps_if (pt_val (pe_call G_has_index (hr.mono (by decide)) (by rfl) m_has_index k_has_index b_has_index .nil pass0 (pa_cons (pv 1) (pa_cons (pv 3) pa_nil)))) (pss_one (ps_set (i := 2) sc_mapped.nd rfl (Or.inl rfl) (pe_op op_or (pv 2) (pv 4)))) pss_nil))) (pss_one (ps_ret (pv 2))))), ?_⟩
  have h8 := pow_le8 hn
  refine qd_asg (K := K) le (Gv.int (ev_n (a := 0))) fun v0 B0 H0 a0 r0 => ?_
  obtain rfl := r0.isInt
  refine qd_forET a0.le (ga_cons (gv_var rfl (r_pattern.mono a0.base)) ga_nil) fun a xs B1 H1 a1 hxs rxs => ?_
  refine ⟨fun i σ' H' => ∃ Bi v3 v4, σ' = [some x_pattern, some x_index_set, some (.int ((mappedTo p s0 i : Nat) : Int)), v3, v4] ∧ At B1 H1 Bi H',
    ⟨B1, none, none, rfl, .refl a1.le⟩, fun i σ' H' ⟨Bi, _, _, _, b⟩ => b.base.trans b.le, ?_, ?_⟩
  · rintro i x d σ' H' hd rx ⟨Bi, v3, v4, rfl, b⟩ H2 eH
    obtain ⟨hi, rfl⟩ := dL_at hd
    have b2 : At B1 H1 Bi H2 := ⟨b.base, b.le.trans eH, b.keep.trans eH, b.fr⟩
    have e2 := (a0.base.trans a1.base).trans b.base
    have e : mappedTo p s0 (i + 1) = if hasIndex s0 i = true then mappedTo p s0 i ||| p.getD i 0 else mappedTo p s0 i := fold_range i
    refine sd_if (b := hasIndex s0 i) b2.le (et_test (gv_callB (ga_cons (gv_var rfl (r_index_set.mono e2)) (ga_int (ev_var rfl) ga_nil)) ⟨_, _, rfl, rfl⟩)) (fun hb H3 e3 => ?_) (fun hb H3 e3 => ?_)
    · have b3 : At B1 H1 Bi H3 := ⟨b2.base, b2.le.trans e3, b2.keep.trans e3, b2.fr⟩
      refine sd_asg (K := K) (d := dI (mappedTo p s0 i ||| p.getD i 0)) b3.le (.int (ev_or (Nat.lt_of_lt_of_le (mappedTo_lt hp i) h8) (Nat.lt_of_lt_of_le (hp.get i) h8) (ev_var rfl) (ev_v rfl (rx.mono b.base)))) fun v B' H'' a2 r2 => ?_
      obtain rfl := r2.isInt
      refine ⟨B', some (.int (i : Int)), some x, ?_, b3.trans a2⟩
      rw [e, if_pos hb]
      rfl
    · refine ⟨Bi, some (.int (i : Int)), some x, ?_, ⟨b2.base, b2.le.trans e3, b2.keep.trans e3, b2.fr⟩⟩
      rw [e, hb]
      rfl
  · rintro σ' H' ⟨Bi, v3, v4, rfl, b⟩
    rw [zlen]
    refine qd_ret (K := K) b.le (.int (ev_var rfl)) fun v B' H'' a2 r2 => q v B' H'' (((a0.trans a1).trans b).trans a2) r2
def F_pattern_after (ds : List PyData) (d : PyData) : Prop := ∃ n p p2, ds = [dT p, dT p2] ∧ d = dT (patternAfter p p2) ∧ Sz n ∧ Pat n p ∧ Pat n p2
theorem sc_pattern_after : FnScope ["one", "other", "row"] ["one", "other"] MwH.d_pattern_after.scope := ⟨rfl, rfl, rfl, by decide +kernel, rfl, by decide +kernel, by decide +kernel⟩
theorem ok_pattern_after (T : Txt K mg) : Has P w K mg base 3 "pattern_after" ["one", "other"] (spD K F_pattern_after) := by
  refine has_def (N := ["one", "other", "row"]) T 23 rfl rfl rfl rfl rfl sc_pattern_after (fun _ _ _ _ _ _ us hl => match us, hl with | [_, _], _ => rfl) (fun ds d h => by obtain ⟨n, p, p2, rfl, rfl, hn, hp, hp2⟩ := h; rfl) fun f cdv A outer s H E hr vs B ds dd Q le r hF q => ?_
  obtain ⟨n, p, p2, rfl, rfl, hn, hp, hp2⟩ := hF
  obtain ⟨x_one, x_other, rfl, r_one, r_other⟩ := RpAll.n2 r
  obtain ⟨f_mapped, fd_mapped, m_mapped, k_mapped, b_mapped, G_mapped⟩ := ok_mapped (P := P) (w := w) (base := base) T
  refine ⟨_, (pss_one (ps_ret (pe_callTy (call_tupleK (K := K) rfl) (by rfl) (T.free 137 rfl) (by decide +kernel) (pa_cons (pe_lc (own := [("row", 2)]) rfl sc_pattern_after.nd (pi_tupK (K := K) rfl (pv 0)) (blkOk_by (own := [("row", 2)]) (N := ["one", "other", "row"]) (sc := MwH.d_pattern_after.scope) (by decide +kernel)) (fun _ _ _ _ _ => (pg_name (i := 2) sc_pattern_after.nd rfl (Or.inl rfl))) (fun _ _ _ _ _ => pts_nil) (fun _ _ _ _ _ => (pe_call G_mapped (hr.mono (by decide)) (by rfl) m_mapped k_mapped b_mapped .nil pass0 (pa_cons (pv 1) (pa_cons (pv 2) pa_nil))))) pa_nil)))), ?_⟩
  refine qd_ret le (Gv.is (gv_tupleL (ga_cons (gv_lcT (fun _ => true) (fun i => dI (mapped p2 (p.getD i 0))) (gv_var rfl r_one) (by rw [zlen, hp.len]; have := hn.le; omega) fun i x d B1 e1 hd rx => turn_name (fun _ => rfl) et_true fun _ => ?_) ga_nil)) ?_) q
  · obtain ⟨hi, rfl⟩ := dL_at hd
    exact gv_call (ga_cons (gv_var rfl (r_other.mono e1)) (ga_cons (gv_var rfl rx) ga_nil)) ⟨n, p2, _, rfl, rfl, hn, hp2⟩
  · rw [gvn_all, zlen]
    refine dT_of ?_
    unfold patternAfter
    exact map_data (mapped p2) (fun n => dI n) p 0
def F_set_after (ds : List PyData) (d : PyData) : Prop := ∃ n ps s wd, ds = [dTs ps, dI s, dL wd] ∧ d = dI (setAfter ps s wd) ∧ Sz n ∧ Pats n ps ∧ ∀ k ∈ wd, k < ps.length
theorem sc_set_after : FnScope ["patterns", "index_set", "word", "found", "matrix"] ["patterns", "index_set", "word"] MwH.d_set_after.scope := ⟨rfl, rfl, rfl, by decide +kernel, rfl, by decide +kernel, by decide +kernel⟩
theorem ok_set_after (T : Txt K mg) : Has P w K mg base 3 "set_after" ["patterns", "index_set", "word"] (spD K F_set_after) := by
  refine has_def (N := ["patterns", "index_set", "word", "found", "matrix"]) T 24 rfl rfl rfl rfl rfl sc_set_after (fun _ _ _ _ _ _ us hl => match us, hl with | [_, _, _], _ => rfl) (fun ds d h => by obtain ⟨n, ps, s0, wd, rfl, rfl, hn, hp, hw⟩ := h; rfl) fun f cdv A outer s H E hr vs B ds dd Q le r hF q => ?_
  obtain ⟨n, ps, s0, wd, rfl, rfl, hn, hp, hw⟩ := hF
  obtain ⟨x_patterns, x_index_set, x_word, rfl, r_patterns, r_index_set, r_word⟩ := RpAll.n3 r
  obtain ⟨f_mapped, fd_mapped, m_mapped, k_mapped, b_mapped, G_mapped⟩ := ok_mapped (P := P) (w := w) (base := base) T
  refine ⟨_, (pss_cons (ps_set (i := 3) sc_set_after.nd rfl (Or.inl rfl) (pv 1)) (pss_cons (ps_for PassesOwn.never rfl (pi_listK (K := K) rfl (pv 2)) (pg_name (i := 4) sc_set_after.nd rfl (Or.inl rfl)) (pss_one (ps_set (i := 3) sc_set_after.nd rfl (Or.inl rfl) (pe_call G_mapped (hr.mono (by decide)) (by rfl) m_mapped k_mapped b_mapped .nil pass0 (pa_cons (pe_ix (ix_listK (K := K) rfl) (pv 0) (pv 4) (fun _ _ => rfl)) (pa_cons (pv 3) pa_nil)))))) (pss_one (ps_ret (pv 3))))), ?_⟩
  refine qd_asg le (gv_var rfl r_index_set) fun v0 B0 H0 a0 r0 => ?_
  refine qd_forL a0.le (gv_var rfl (r_word.mono a0.base)) fun a xs B1 H1 a1 hxs rxs => ?_
  refine ⟨fun i σ' H' => ∃ Bi vf vm, σ' = [some x_patterns, some x_index_set, some x_word, some vf, vm] ∧ At B1 H1 Bi H' ∧ Rp K Bi vf (dI (setAfter ps s0 (wd.take i))),
    ⟨B1, v0, none, rfl, .refl a1.le, r0.mono a1.base⟩, fun i σ' H' ⟨Bi, _, _, _, b, _⟩ => b.base.trans b.le, ?_, ?_⟩
  · rintro i x d σ' H' hx hd rx ⟨Bi, vf, vm, rfl, b, rf⟩
    obtain ⟨hi, rfl⟩ := dL_at hd
    have e2 := (a0.base.trans a1.base).trans b.base
    have hk := hw (wd.getD i 0) (getD_mem hi)
    refine sd_asg b.le (gv_call (ga_cons (gv_at [] (gv_var rfl (r_patterns.mono e2)) (ev_v rfl (rx.mono b.base)) hk) (ga_cons (gv_var rfl rf) ga_nil)) ⟨n, _, _, rfl, rfl, hn, hp.get hk⟩) fun v B' H'' a2 r2 => ?_
    refine ⟨B', v, _, rfl, b.trans a2, ?_⟩
    have e : setAfter ps s0 (wd.take (i + 1)) = mapped (ps.getD (wd.getD i 0) []) (setAfter ps s0 (wd.take i)) := fold_take 0 hi
    rw [e]
    exact r2
  · rintro σ' H' ⟨Bi, vf, vm, rfl, b, rf⟩
    rw [zlen, List.take_length] at rf
    refine qd_ret b.le (gv_var rfl rf) fun v B' H'' a2 r2 => q v B' H'' (((a0.trans a1).trans b).trans a2) r2
end
end Mw
end
section
set_option Elab.async false
set_option linter.all false
set_option maxRecDepth 100000
set_option maxHeartbeats 4000000
/-! # Walks: all met patterns -/
namespace Mw
open PySem PySem.Spec PyProof.Rows L2 Evl
section
variable {P : Program} {w : World} {K : Frg} {mg : Str → Option Value} {base : Heap}
def dMet (r : Row) : PyData := .tuple [dT r.1, .int r.2.1, dI r.2.2]
def dMets (l : List Row) : PyData := .list (l.map dMet)
theorem meet_any (acc : List Row) (p : List Nat) : acc.any (fun r => r.1 == p) = decide (p ∈ acc.map Prod.fst) := by
  by_cases h : p ∈ acc.map Prod.fst
  · rw [decide_eq_true h]
    exact (any_key acc p).mpr h
  · rw [decide_eq_false h]
    exact any_key_false h
theorem meet_len (acc : List Row) (p : List Nat) (place : Int) (k : Nat) : (meet acc p place k).length ≤ acc.length + 1 := by
  unfold meet
  split
  · omega
  · rw [List.length_append]
    exact Nat.le_refl _
/-- what the two loops keep: rows in the list at p, their patterns in the dict at dk, both beside the base -/
structure MetInv (K : Frg) (B H : Hp) (p dk : Addr) (rows : List Row) (Bi H' : Hp) : Prop where
  at_ : At B H Bi H'
  ne : dk ≠ p
  nP : Bi p = none
  nD : Bi dk = none
  ex : ∃ acc kvs, H' p = some (.lst acc) ∧ H' dk = some (.dT kvs) ∧ RpAll K Bi acc (rows.map dMet) ∧ KeysOf kvs (rows.map Prod.fst)
theorem MetInv.up {B H : Hp} {p dk : Addr} {rows : List Row} {Bi H' H2 : Hp} (m : MetInv K B H p dk rows Bi H') (e : Ex H' H2) : MetInv K B H p dk rows Bi H2 :=
  ⟨⟨m.at_.base, m.at_.le.trans e, m.at_.keep.trans e, m.at_.fr⟩, m.ne, m.nP, m.nD, let ⟨acc, kvs, h1, h2, r⟩ := m.ex; ⟨acc, kvs, e _ _ h1, e _ _ h2, r⟩⟩
theorem dT_tup {kvs : List (List Key × V)} : ∀ ys : List V, HO.dT kvs ≠ .tup ys := fun _ q => by cases q
theorem MetInv.step {B H : Hp} {p dk : Addr} {rows : List Row} {Bi H' B1 H2 : Hp} (m : MetInv K B H p dk rows Bi H') (a : At Bi H' B1 H2) : MetInv K B H p dk rows B1 H2 := by
  obtain ⟨acc, kvs, h1, h2, r, hk⟩ := m.ex
  exact ⟨m.at_.trans a, m.ne, a.off m.nP h1 lst_tup, a.off m.nD h2 dT_tup, acc, kvs, a.keep _ _ h1, a.keep _ _ h2, r.mono a.base, hk⟩
/-- if p not in known: known[p] = True; found.append((p, place, matrix)) -/
theorem meet_body {σ : L2.St} {B H : Hp} {p dk : Addr} {rows : List Row} {Bi H' : Hp} {ip ik im : Nat} {x xm : V} {l : List Nat} {k : Nat} {place : Int} {tp : TE} {D : Ends} {isx : Nat} (h0 : H p = none) (h0d : H dk = none) (m : MetInv K B H p dk rows Bi H') (hl : rows.length ≤ 5000)
    (sp : σ[ip]? = some (some (.ref p))) (sk : σ[ik]? = some (some (.ref dk))) (sx : σ[isx]? = some (some x)) (rx : Rp K Bi x (dT l)) (sm : σ[im]? = some (some xm)) (rm : Rp K Bi xm (dI k)) (hp : ∀ B1, Ev tp σ B1 (.int place))
    (q : ∀ Bj H'', Ex Bi Bj → MetInv K B H p dk (meet rows l place k) Bj H'' → D.nx σ H'') :
    tIfS (tB (tDNotIn (tVar isx) (tVar ik))) (tSeq (sDPut (tVar ik) (tVar isx) (tC (.bl true))) (tDrop (tBM K "list" rAppend (tVar ip) (tCons (tTup (tCons (tVar isx) (tCons tp (tCons (tVar im) tNil)))) tNil)))) tNext D σ H' := by
  obtain ⟨acc, kvs, hP, hD, racc, hk⟩ := m.ex
  have e := meet_any rows l
  refine s_if (et_notin (ev_var sx) (rx.mono m.at_.le) (ev_var sk) hD hk) (fun hb H1 e1 => ?_) (fun hb H1 e1 => ?_)
  · have hn : ¬ l ∈ rows.map Prod.fst := by
      intro z
      rw [decide_eq_true z] at hb
      cases hb
    have m1 := m.up e1
    obtain ⟨b, rfl, hbt⟩ := rx.isKey
    obtain ⟨pe, pk⟩ := hk.put hn (.bl true)
    refine ⟨.ref dk, sk, .ref b, sx, dk, _, rfl, DPut.t (e1 _ _ hD) (m1.at_.le _ _ hbt) (by
      rw [hk.len, List.length_map]
      exact sz_lt (by omega)), ?_⟩
    have a2 : At B H Bi (upd H1 dk (.dT (putK kvs (kk l) (.bl true)))) := m1.at_.mut m.nD h0d
    refine sd_append (d := dMet (l, place, k)) a2 h0 m.nP (by rw [upd_ne m.ne.symm]; exact e1 _ _ hP) ?_ (fun H' _ => ev_var sp) (gv_tup (ga_cons (gv_var sx rx) (ga_int (hp _) (ga_cons (gv_var sm rm) ga_nil))) (by show 3 ≤ 100000; omega)) fun v B' H2 c2 e4 hB' rv hp' off => ?_
    · rw [racc.len, List.length_map]
      omega
    · have o2 := off dk _ m.ne upd_same
      have em : meet rows l place k = rows ++ [(l, place, k)] := by
        unfold meet
        rw [e, decide_eq_false hn, if_neg (by decide)]
      refine q B' H2 e4 ⟨c2, m.ne, hB', o2.2 m.nD dT_tup, _, _, hp', o2.1, ?_, ?_⟩
      · rw [em, List.map_append]
        exact (racc.mono e4).append (.one rv)
      · rw [pe, em, List.map_append]
        exact pk
  · have hn : l ∈ rows.map Prod.fst := by
      by_cases z : l ∈ rows.map Prod.fst
      · exact z
      · rw [decide_eq_false z] at hb
        cases hb
    have em : meet rows l place k = rows := by
      unfold meet
      rw [e, decide_eq_true hn, if_pos rfl]
    have m1 := m.up e1
    rw [← em] at m1
    exact q Bi H1 (Ex.refl _) m1
def F_met_patterns (ds : List PyData) (d : PyData) : Prop := ∃ n ps, ds = [dTs ps] ∧ d = dMets (metPatterns ps) ∧ Sz n ∧ Pats n ps ∧ ps.length ≤ 1000
theorem start_len (ps : List (List Nat)) (i : Nat) : ((List.range i).foldl (fun acc k => meet acc (ps.getD k []) (-1) k) []).length ≤ i := by
  induction i with
  | zero => exact Nat.le_refl _
  | succ i ih =>
    rw [fold_range]
    exact Nat.le_trans (meet_len _ _ _ _) (Nat.succ_le_succ ih)
theorem turn_len (ps : List (List Nat)) (at_ : Nat) (rows : List Row) (i : Nat) : ((List.range i).foldl (fun a k => meet a (patternAfter (a.getD at_ row0).1 (ps.getD k [])) (at_ : Int) k) rows).length ≤ rows.length + i := by
  induction i with
  | zero => exact Nat.le_refl _
  | succ i ih =>
    rw [fold_range]
    exact Nat.le_trans (meet_len _ _ _ _) (Nat.succ_le_succ ih)
theorem turn_pre (ps : List (List Nat)) (at_ : Nat) (rows : List Row) (i : Nat) : ∃ more, (List.range i).foldl (fun a k => meet a (patternAfter (a.getD at_ row0).1 (ps.getD k [])) (at_ : Int) k) rows = rows ++ more := by
  induction i with
  | zero => exact ⟨[], (List.append_nil _).symm⟩
  | succ i ih =>
    obtain ⟨m1, e1⟩ := ih
    rw [fold_range, e1]
    obtain ⟨m2, e2⟩ := meet_pre (rows ++ m1) (patternAfter ((rows ++ m1).getD at_ row0).1 (ps.getD i [])) (at_ : Int) i
    exact ⟨m1 ++ m2, by rw [e2, List.append_assoc]⟩
theorem sc_met_patterns : FnScope ["patterns", "found", "known", "matrix", "pattern", "at", "after"] ["patterns"] MwH.d_met_patterns.scope := ⟨rfl, rfl, rfl, by decide +kernel, rfl, by decide +kernel, by decide +kernel⟩
theorem ok_met_patterns (T : Txt K mg) : Has P w K mg base 4 "met_patterns" ["patterns"] (spD K F_met_patterns) := by
  refine has_def (N := ["patterns", "found", "known", "matrix", "pattern", "at", "after"]) T 25 rfl rfl rfl rfl rfl sc_met_patterns (fun _ _ _ _ _ _ us hl => match us, hl with | [_], _ => rfl) (fun ds d h => by obtain ⟨n, ps, rfl, rfl, hn, hp, hl⟩ := h; rfl) fun f cdv A outer s H E hr vs B ds dd Q le r hF q => ?_
  obtain ⟨n, ps, rfl, rfl, hn, hp, hl⟩ := hF
  obtain ⟨x_patterns, rfl, r_patterns⟩ := RpAll.n1 r
  obtain ⟨f_pattern_after, fd_pattern_after, m_pattern_after, k_pattern_after, b_pattern_after, G_pattern_after⟩ := ok_pattern_after (P := P) (w := w) (base := base) T
  have hu := hu_of hr
  have hu64 := hr.units
  have hu65 := hu65_of hr
  refine ⟨_, (pss_cons (ps_par (i := 1) (j := 2) rfl sc_met_patterns.nd rfl rfl (by decide) rfl rfl (pa_cons (pe_lst pa_nil) (pa_cons pe_dnewT pa_nil)) (by rfl)) (pss_cons (ps_for PassesOwn.never rfl (pi_enumK (K := K) rfl (by rfl) (T.free 135 rfl) (pa_cons (pv 0) pa_nil)) (pg_tupK (K := K) (n := 2) rfl rfl (pgs_cons (pg_name (i := 3) sc_met_patterns.nd rfl (Or.inl rfl)) (pgs_cons (pg_name (i := 4) sc_met_patterns.nd rfl (Or.inl rfl)) pgs_nil))) (pss_one (ps_if (pt_cmp (pc_dnotin hu (pv 4) (pv 2))) (pss_cons (ps_dput hu (pv 2) (pv 4) pe_bl rfl) (pss_one (ps_expr (pe_bm PySem.F.plainAttrs_list PySem.F.slot_list_append PySem.F.type_list_append mt_append (pv 1) (pa_cons (pe_tup (pa_cons (pv 4) (pa_cons (pe_un un_neg pe_int) (pa_cons (pv 3) pa_nil)))) pa_nil))))) pss_nil))) (pss_cons (ps_set (i := 5) sc_met_patterns.nd rfl (Or.inl rfl) pe_int) (pss_cons (ps_while PassesOwn.never (pt_cmpR op_lt (pv 5) (pe_callB (call_lenK (K := K) rfl) (by rfl) (T.free 131 rfl) (by decide +kernel) (pa_cons (pv 1) pa_nil)) (nomark _)) (pss_cons (ps_for PassesOwn.never rfl (pi_enumK (K := K) rfl (by rfl) (T.free 135 rfl) (pa_cons (pv 0) pa_nil)) (pg_tupK (K := K) (n := 2) rfl rfl (pgs_cons (pg_name (i := 3) sc_met_patterns.nd rfl (Or.inl rfl)) (pgs_cons (pg_name (i := 4) sc_met_patterns.nd rfl (Or.inl rfl)) pgs_nil))) (pss_cons (ps_set (i := 6) sc_met_patterns.nd rfl (Or.inl rfl) (pe_call G_pattern_after (hr.mono (by decide)) (by rfl) m_pattern_after k_pattern_after b_pattern_after .nil pass0 (pa_cons (pe_ix (ix_tupK (K := K) rfl) (pe_ix (ix_listK (K := K) rfl) (pv 1) (pv 5) (fun _ _ => rfl)) pe_int (fun _ _ => rfl)) (pa_cons (pv 4) pa_nil)))) (pss_one (ps_if (pt_cmp (pc_dnotin hu (pv 6) (pv 2))) (pss_cons (ps_dput hu (pv 2) (pv 6) pe_bl rfl) (pss_one (ps_expr (pe_bm PySem.F.plainAttrs_list PySem.F.slot_list_append PySem.F.type_list_append mt_append (pv 1) (pa_cons (pe_tup (pa_cons (pv 6) (pa_cons (pv 5) (pa_cons (pv 3) pa_nil)))) pa_nil))))) pss_nil)))) (pss_one (ps_set (i := 5) sc_met_patterns.nd rfl (Or.inl rfl) (pe_op op_add (pv 5) pe_int))))) (pss_one (ps_ret (pv 1))))))), ?_⟩
  refine ⟨Nat.zero_le _, fun p hp0 dk hd0 => ⟨_, _, rfl, ?_⟩⟩
  have ne : dk ≠ p := fun z => by
    rw [z, upd_same] at hd0
    cases hd0
  have h0d : H dk = none := by
    rw [upd_ne ne] at hd0
    exact hd0
  have e0 : Ex H (upd (upd H p (.lst [])) dk (.dT [])) := (Ex.new hp0).trans (Ex.new hd0)
  have m0 : MetInv K B H p dk [] B (upd (upd H p (.lst [])) dk (.dT [])) := ⟨.up le e0, ne, fresh_back le hp0, fresh_back le h0d, [], [], by rw [upd_ne ne.symm]; exact upd_same, upd_same, .nil, rfl⟩
  refine qd_forE m0.at_.le (ga_cons (gv_var rfl r_patterns) ga_nil) fun a xs B1 H1 a1 hxs rxs => ?_
  have m1 := m0.step a1
  refine ⟨fun i σ' H' => ∃ Bi v3 v4, σ' = [some x_patterns, some (.ref p), some (.ref dk), v3, v4, none, none] ∧ Ex B1 Bi ∧ MetInv K B H p dk ((List.range i).foldl (fun acc k => meet acc (ps.getD k []) (-1) k) []) Bi H',
    ⟨B1, none, none, rfl, Ex.refl _, m1⟩, fun i σ' H' ⟨Bi, _, _, _, e, m⟩ => e.trans m.at_.le, ?_, ?_⟩
  · rintro i x d σ' H' hd rx ⟨Bi, v3, v4, rfl, e1, m⟩ H2 eH
    obtain ⟨hi, rfl⟩ := dM_at [] hd
    have h5 := start_len ps i
    refine meet_body (place := -1) (k := i) hp0 h0d (m.up eH) (by omega) rfl rfl rfl (rx.mono e1) rfl (.int _) (fun B1 => ev_un ev_c ru_neg) fun Bj H'' e2 m2 => ?_
    refine ⟨Bj, some (.int (i : Int)), some x, rfl, e1.trans e2, ?_⟩
    rw [fold_range]
    exact m2
  · rintro σ' H' ⟨Bi, v3, v4, rfl, e1, m⟩
    rw [List.length_map] at m
    have m' : MetInv K B H p dk (metStart ps) Bi H' := m
    refine qd_asg (K := K) m'.at_.le (Gv.int (ev_n (a := 0))) fun v5 B5 H5 a5 r5 => ?_
    obtain rfl := r5.isInt
    have m5 := m'.step a5
    refine q_while (fun mm σ' H' => ∃ (at_ f : Nat) (Bi : Hp) (rows : List Row) (ws : List WRow) (v3 v4 v6 : Option V), σ' = [some x_patterns, some (.ref p), some (.ref dk), v3, v4, some (.int (at_ : Int)), v6] ∧ mm = f ∧ f + at_ = 513 ∧ metLoop ps f at_ rows = metPatterns ps ∧ Held rows ws ∧ Met n ws ∧ MetInv K B H p dk rows Bi H')
      513 ⟨0, 513, B5, metStart ps, startW ps, _, _, _, rfl, rfl, rfl, rfl, Held.start ps, Met.start hp, m5⟩ ?_
    rintro mm σ' H' ⟨at_, f2, Bi, rows, ws, v3, v4, v6, rfl, rfl, hf, hloop, held, met, mi⟩
    obtain ⟨acc, kvs, hP, hD, racc, hk⟩ := mi.ex
    have hlen : rows.length ≤ 512 := by
      rw [held.len]
      exact Nat.le_trans (met.short hn) (pow_sz hn)
    refine ⟨decide (at_ < rows.length), et_test (ev_lt (ev_var rfl) (ev_lenM (K := K) (f := dMet) (ga_cons (gv_var rfl (.lst hP (racc.mono mi.at_.le))) ga_nil))), fun hb H1 e1 => ?_, fun hb H1 e1 => ?_⟩
    · have hlt := of_decide_eq_true hb
      obtain ⟨f3, rfl⟩ : ∃ f3, mm = f3 + 1 := ⟨mm - 1, by omega⟩
      refine ⟨fun σ2 H2 => ∃ m', m' < f3 + 1 ∧ ∃ (at_ f : Nat) (Bi : Hp) (rows : List Row) (ws : List WRow) (v3 v4 v6 : Option V), σ2 = [some x_patterns, some (.ref p), some (.ref dk), v3, v4, some (.int (at_ : Int)), v6] ∧ m' = f ∧ f + at_ = 513 ∧ metLoop ps f at_ rows = metPatterns ps ∧ Held rows ws ∧ Met n ws ∧ MetInv K B H p dk rows Bi H2, fun σ2 H2 h => h, ?_⟩
      have mi1 := mi.up e1
      have ew : (rows.getD at_ row0).1 = (ws.getD at_ wrow0).1 := (held.hold at_ hlt).pat
      have hpat : Pat n (rows.getD at_ row0).1 := by
        rw [ew]
        exact met.pat _ (getD_mem (by rw [← held.len]; exact hlt))
      refine qd_forE mi1.at_.le (ga_cons (gv_var rfl (r_patterns.mono mi1.at_.base)) ga_nil) fun a xs B1 H1 a1 hxs rxs => ?_
      refine ⟨fun i σ' H' => ∃ Bi v3 v4 v6, σ' = [some x_patterns, some (.ref p), some (.ref dk), v3, v4, some (.int (at_ : Int)), v6] ∧ Ex B1 Bi ∧ MetInv K B H p dk ((List.range i).foldl (fun a k => meet a (patternAfter (a.getD at_ row0).1 (ps.getD k [])) (at_ : Int) k) rows) Bi H',
        ⟨B1, v3, v4, v6, rfl, Ex.refl _, mi1.step a1⟩, fun i σ' H' ⟨Bi, _, _, _, _, e, m⟩ => e.trans m.at_.le, ?_, ?_⟩
      · rintro i x d σ' H' hd rx ⟨Bi, w3, w4, w6, rfl, e2, m⟩ H2 eH
        obtain ⟨hi, rfl⟩ := dM_at [] hd
        have h5 := turn_len ps at_ rows i
        obtain ⟨more, epre⟩ := turn_pre ps at_ rows i
        have m2 := m.up eH
        have eg := fold_range (f := fun a k => meet a (patternAfter (a.getD at_ row0).1 (ps.getD k [])) (at_ : Int) k) (b := rows) i
        generalize (List.range i).foldl (fun a k => meet a (patternAfter (a.getD at_ row0).1 (ps.getD k [])) (at_ : Int) k) rows = cur at epre m2 h5 eg
        have hcur : (cur.getD at_ row0).1 = (rows.getD at_ row0).1 := by rw [epre, getD_append_left hlt]
        have hcl : at_ < cur.length := by rw [epre, List.length_append]; omega
        obtain ⟨acc2, kvs2, hP2, hD2, racc2, hk2⟩ := m2.ex
        have e3 : Ex Bi (upd Bi p (.lst acc2)) := Ex.new m2.nP
        refine thaw (d := dT (patternAfter (cur.getD at_ row0).1 (ps.getD i []))) m2.at_.le m2.nP hP2 lst_tup (flat_ints _) (gv_call (ga_cons (gv_ixT (ds := [dT (cur.getD at_ row0).1, .int (cur.getD at_ row0).2.1, dI (cur.getD at_ row0).2.2]) (gv_at (f := dMet) row0 (gv_var rfl (.lst upd_same (racc2.mono e3))) (ev_var rfl) hcl) ev_n (ix_nat (j := 0) rfl)) (ga_cons (gv_var rfl (rx.mono (e2.trans e3))) ga_nil)) ⟨n, _, _, rfl, rfl, hn, by rw [hcur]; exact hpat, hp.get hi⟩) fun v B3 H3 a3 n3 r3 => ?_
        refine meet_body (place := (at_ : Int)) (k := i) hp0 h0d (m2.step a3) (by omega) rfl rfl rfl r3 rfl (.int _) (fun B1 => ev_var rfl) fun Bj H'' e4 m4 => ?_
        refine ⟨Bj, some (.int (i : Int)), some x, some v, rfl, (e2.trans a3.base).trans e4, ?_⟩
        rw [eg]
        exact m4
      · rintro σ' H' ⟨Bi, w3, w4, w6, rfl, e2, m⟩
        rw [List.length_map] at m
        have m2 : MetInv K B H p dk (metTurn ps at_ rows) Bi H' := m
        refine sd_asg (K := K) (d := dI (at_ + 1)) m2.at_.le (.int (ev_add (ev_var rfl) (ev_n (a := 1)))) fun v B3 H3 a3 r3 => ?_
        obtain rfl := r3.isInt
        have hl2 : metLoop ps (f3 + 1) at_ rows = metLoop ps f3 (at_ + 1) (metTurn ps at_ rows) := if_pos hlt
        refine ⟨f3, Nat.lt_succ_self _, at_ + 1, f3, B3, metTurn ps at_ rows, turnW ps (ws.getD at_ wrow0) ws, w3, w4, w6, rfl, rfl, by omega, by rw [← hl2]; exact hloop, held.turn hlt, met.turn hn hp (by rw [← ew]; exact hpat), m2.step a3⟩
    · have hge := of_decide_eq_false hb
      have hend : metLoop ps mm at_ rows = rows := by
        cases mm with
        | zero => rfl
        | succ k => exact if_neg hge
      rw [hend] at hloop
      rw [hloop] at racc
      have mi1 := mi.up e1
      exact sd_ret rfl mi1.at_ hp0 mi1.nP (e1 _ _ hP) racc q
end
end Mw
end
section
set_option Elab.async false
set_option linter.all false
set_option maxRecDepth 100000
set_option maxHeartbeats 4000000
/-! # Walks: words of met patterns -/
namespace Mw
open PySem PySem.Spec PyProof.Rows L2 Evl
section
variable {P : Program} {w : World} {K : Frg} {mg : Str → Option Value} {base : Heap}
theorem find_first {n i : Nat} {p : Nat → Bool} (hi : i < n) (hp : p i = true) (hno : ∀ j, j < i → p j = false) : (List.range n).find? p = some i := by
  obtain ⟨k, rfl⟩ : ∃ k, n = i + (k + 1) := ⟨n - i - 1, by omega⟩
  rw [List.range_add, List.find?_append]
  have e : (List.range i).find? p = none := List.find?_eq_none.mpr fun j hj => by
    rw [hno j (List.mem_range.mp hj)]
    decide
  rw [e, List.range_succ_eq_map, List.map_cons, List.find?_cons, Nat.add_zero, hp]
  rfl
theorem find_no {n : Nat} {p : Nat → Bool} (hno : ∀ j, j < n → p j = false) : (List.range n).find? p = none := List.find?_eq_none.mpr fun j hj => by
  rw [hno j (List.mem_range.mp hj)]
  decide
/-- the places fall -/
def Falls (rows : List Row) : Prop := ∀ i, i < rows.length → (rows.getD i row0).2.1 = -1 ∨ ∃ j, j < i ∧ (rows.getD i row0).2.1 = ((j : Nat) : Int)
theorem Held.falls {rows : List Row} {ws : List WRow} (h : Held rows ws) : Falls rows := fun i hi => by
  rcases (h.hold i hi).word with ⟨e, _⟩ | ⟨j, hj, e, _⟩
  · exact .inl e
  · exact .inr ⟨j, hj, e⟩
def F_word_of (ds : List PyData) (d : PyData) : Prop := ∃ rows place, ds = [dMets rows, dI place] ∧ d = dL (wordOf rows place) ∧ place < rows.length ∧ Falls rows ∧ rows.length ≤ 5000
theorem sc_word_of : FnScope ["rows", "place", "found", "at"] ["rows", "place"] MwH.d_word_of.scope := ⟨rfl, rfl, rfl, by decide +kernel, rfl, by decide +kernel, by decide +kernel⟩
theorem ok_word_of (T : Txt K mg) : Has P w K mg base 1 "word_of" ["rows", "place"] (spD K F_word_of) := by
  refine has_def (N := ["rows", "place", "found", "at"]) T 26 rfl rfl rfl rfl rfl sc_word_of (fun _ _ _ _ _ _ us hl => match us, hl with | [_, _], _ => rfl) (fun ds d h => by obtain ⟨rows, place, rfl, rfl, hpl, hfall, hlen⟩ := h; rfl) fun f cdv A outer s H E hr vs B ds dd Q le r hF q => ?_
  obtain ⟨rows, place, rfl, rfl, hpl, hfall, hlen⟩ := hF
  obtain ⟨x_rows, x_place, rfl, r_rows, r_place⟩ := RpAll.n2 r
  refine ⟨_, (pss_cons (ps_par (i := 2) (j := 3) rfl sc_word_of.nd rfl rfl (by decide) rfl rfl (pa_cons (pe_lst pa_nil) (pa_cons (pv 1) pa_nil)) (by rfl)) (pss_cons (ps_while PassesOwn.never (pt_cmpR op_ge (pv 3) pe_int (nomark _)) (pss_cons (ps_expr (pe_bm PySem.F.plainAttrs_list PySem.F.slot_list_append PySem.F.type_list_append mt_append (pv 2) (pa_cons (pe_ix (ix_tupK (K := K) rfl) (pe_ix (ix_listK (K := K) rfl) (pv 0) (pv 3) (fun _ _ => rfl)) pe_int (fun _ _ => rfl)) pa_nil))) (pss_one (ps_set (i := 3) sc_word_of.nd rfl (Or.inl rfl) (pe_ix (ix_tupK (K := K) rfl) (pe_ix (ix_listK (K := K) rfl) (pv 0) (pv 3) (fun _ _ => rfl)) pe_int (fun _ _ => rfl)))))) (pss_one (ps_ret (pe_revL (pv 2)))))), ?_⟩
  obtain rfl := r_place.isInt
  refine ⟨Nat.zero_le _, fun p hp0 => ⟨_, rfl, _, _, rfl, ?_⟩⟩
  have e0 : Ex H (upd H p (.lst [])) := Ex.new hp0
  refine q_while (fun m σ' H' => ∃ (z : Int) (f : Nat) (l : List Nat) (Bi : Hp), σ' = [some x_rows, some (.int ((place : Nat) : Int)), some (.ref p), some (.int z)] ∧ m = (z + 1).toNat ∧ z + 1 ≤ (f : Int) ∧ (z = -1 ∨ ∃ j : Nat, z = (j : Int) ∧ j < rows.length) ∧ l ++ wordBack rows f z = wordBack rows (place + 1) ((place : Nat) : Int) ∧ l.length + (z + 1).toNat ≤ 5000 ∧
      At B H Bi H' ∧ Bi p = none ∧ H' p = some (.lst ((zs l).map V.int))) (place + 1)
    ⟨(place : Int), place + 1, [], B, rfl, by omega, by omega, .inr ⟨place, rfl, hpl⟩, rfl, by simp; omega, .up le e0, fresh_back le hp0, upd_same⟩ ?_
  rintro m σ' H' ⟨z, f2, l, Bi, rfl, rfl, hzf, hz, hl, hl5, b, nP, hP⟩
  refine ⟨decide (0 ≤ z), et_test (ev_is (ev_op (ev_var rfl) ev_c rv_I0) rfl), fun hb H1 e1 => ?_, fun hb H1 e1 => ?_⟩
  · have h0 := of_decide_eq_true hb
    obtain ⟨j, rfl, hj⟩ : ∃ j : Nat, z = (j : Int) ∧ j < rows.length := by
      rcases hz with rfl | h
      · exact absurd h0 (by decide)
      · exact h
    obtain ⟨f3, rfl⟩ : ∃ f3, f2 = f3 + 1 := ⟨f2 - 1, by omega⟩
    refine ⟨fun σ2 H2 => ∃ m', m' < ((j : Int) + 1).toNat ∧ ∃ (z : Int) (f : Nat) (l : List Nat) (Bi : Hp), σ2 = [some x_rows, some (.int ((place : Nat) : Int)), some (.ref p), some (.int z)] ∧ m' = (z + 1).toNat ∧ z + 1 ≤ (f : Int) ∧ (z = -1 ∨ ∃ j : Nat, z = (j : Int) ∧ j < rows.length) ∧ l ++ wordBack rows f z = wordBack rows (place + 1) ((place : Nat) : Int) ∧ l.length + (z + 1).toNat ≤ 5000 ∧
      At B H Bi H2 ∧ Bi p = none ∧ H2 p = some (.lst ((zs l).map V.int)), fun σ2 H2 h => h, ?_⟩
    have b1 : At B H Bi H1 := ⟨b.base, b.le.trans e1, b.keep.trans e1, b.fr⟩
    have hf := hfall j hj
    have ewb : wordBack rows (f3 + 1) (j : Int) = (rows.getD j row0).2.2 :: wordBack rows f3 (rows.getD j row0).2.1 := by
      show (if 0 ≤ (j : Int) then (rows.getD (j : Int).toNat row0).2.2 :: wordBack rows f3 (rows.getD (j : Int).toNat row0).2.1 else []) = _
      rw [if_pos h0, Int.toNat_natCast]
    have at_row : ∀ {B2 : Hp} {σ : L2.St}, Ex Bi B2 → σ[0]? = some (some x_rows) → σ[3]? = some (some (.int ((j : Nat) : Int))) → Gv K (tOp (rIxL K) (tVar 0) (tVar 3)) σ B2 (.tuple [dT (rows.getD j row0).1, .int (rows.getD j row0).2.1, dI (rows.getD j row0).2.2]) := fun e h1 h2 => gv_at (f := dMet) row0 (gv_var h1 (r_rows.mono (b.base.trans e))) (ev_var h2) hj
    refine sd_append (d := dI (rows.getD j row0).2.2) b1 hp0 nP (e1 _ _ hP) (by simp [zs]; omega) (fun H' _ => ev_var rfl) (gv_ixT (at_row (Ex.refl _) rfl rfl) (ev_n (a := 2)) (ix_nat (j := 2) rfl)) fun v B' H2 c2 e4 hB' rv hp' off => ?_
    obtain rfl := rv.isInt
    refine sd_asg (d := .int (rows.getD j row0).2.1) c2.le (gv_ixT (at_row e4 rfl rfl) (ev_n (a := 1)) (ix_nat (j := 1) rfl)) fun v B3 H3 a3 r3 => ?_
    obtain rfl := r3.isInt
    have key : (rows.getD j row0).2.1 + 1 ≤ (j : Int) := by
      rcases hf with h | ⟨i, hi, h⟩
      · rw [h]; omega
      · rw [h]; omega
    have key0 : -1 ≤ (rows.getD j row0).2.1 := by
      rcases hf with h | ⟨i, hi, h⟩
      · rw [h]; exact Int.le_refl _
      · rw [h]; omega
    refine ⟨((rows.getD j row0).2.1 + 1).toNat, by clear hf; omega, (rows.getD j row0).2.1, f3, l ++ [(rows.getD j row0).2.2], B3, rfl, rfl, by clear hf; omega, ?_, ?_, ?_, c2.trans a3, a3.off hB' hp' lst_tup, ?_⟩
    · rcases hf with h | ⟨i, hi, h⟩
      · exact .inl h
      · exact .inr ⟨i, h, by omega⟩
    · rw [← hl, ewb, List.append_assoc]
      rfl
    · rw [List.length_append]
      show l.length + 1 + _ ≤ _
      clear hf
      omega
    · have e : (zs (l ++ [(rows.getD j row0).2.2])).map V.int = (zs l).map V.int ++ [.int (((rows.getD j row0).2.2 : Nat) : Int)] := by simp [zs]
      rw [e]
      exact a3.keep _ _ hp'
  · have h0 := of_decide_eq_false hb
    have hz1 : z = -1 := by
      rcases hz with h | ⟨j, h, _⟩
      · exact h
      · omega
    subst hz1
    have hwb : wordBack rows f2 (-1) = [] := by
      cases f2 with
      | zero => rfl
      | succ f => exact if_neg (by decide)
    rw [hwb, List.append_nil] at hl
    refine ⟨_, rfl, p, _, rfl, sq_of (e1 _ _ hP), fun p2 hp2 => ?_⟩
    have b1 : At B H Bi H1 := ⟨b.base, b.le.trans e1, b.keep.trans e1, b.fr⟩
    refine q _ _ _ (b1.trans (At.new b1.le hp2)) (.lst upd_same ?_)
    unfold wordOf
    rw [← hl]
    have e : ((zs l).map V.int).reverse = (zs l.reverse).map V.int := by unfold zs; rw [List.map_reverse, List.map_reverse]
    rw [e]
    exact RpAll.ints _
theorem ev_sumT {σ : L2.St} {B : Hp} {t : TA} {l : List Nat} (h : GA K t σ B [dT l]) : Ev (tCB (rSumT K) t) σ B (.int ((l.sum : Nat) : Int)) := fun H le Q q =>
  h H le _ fun vs B1 H1 a1 r1 => by
    obtain ⟨x, rfl, r2⟩ := r1.n1
    obtain ⟨a, xs, rfl, hs, ra⟩ := r2.isTup
    obtain rfl := ra.isInts
    refine ⟨a, zs l, rfl, st_of (a1.le _ _ hs), ?_⟩
    rw [cast_sum]
    exact q H1 a1.keep
def F_is_zero (ds : List PyData) (d : PyData) : Prop := ∃ p, ds = [dT p] ∧ d = .bool (isZero p)
theorem sc_is_zero : FnScope ["pattern"] ["pattern"] MwH.d_is_zero.scope := ⟨rfl, rfl, rfl, by decide +kernel, rfl, by decide +kernel, by decide +kernel⟩
theorem ok_is_zero (T : Txt K mg) : Has P w K mg base 1 "is_zero" ["pattern"] (spD K F_is_zero) := by
  refine has_def (N := ["pattern"]) T 27 rfl rfl rfl rfl rfl sc_is_zero (fun _ _ _ _ _ _ us hl => match us, hl with | [_], _ => rfl) (fun ds d h => by obtain ⟨p, rfl, rfl⟩ := h; rfl) fun f cdv A outer s H E hr vs B ds dd Q le r hF q => ?_
  obtain ⟨p, rfl, rfl⟩ := hF
  obtain ⟨x_pattern, rfl, r_pattern⟩ := RpAll.n1 r
  refine ⟨_, (pss_one (ps_ret (pe_cmpR op_eq (pe_callB (cr_sumT (K := K) rfl rfl) (by rfl) (T.free 132 rfl) (by decide +kernel) (pa_cons (pv 0) pa_nil)) pe_int (nomark _)))), ?_⟩
  refine qd_ret le (Gv.is (.bl (ev_eq (ev_sumT (ga_cons (gv_var rfl r_pattern) ga_nil)) (ev_n (a := 0)))) ?_) q
  unfold isZero
  by_cases c : p.sum = 0
  · rw [decide_eq_true c, c]
    rfl
  · rw [decide_eq_false c]
    have e : (p.sum == 0) = false := beq_eq_false_iff_ne.mpr c
    rw [e]
def F_common_columns (ds : List PyData) (d : PyData) : Prop := ∃ n p, ds = [dI n, dT p] ∧ d = dI (commonColumns n p) ∧ Sz n
theorem sc_common_columns : FnScope ["size", "pattern", "found", "row"] ["size", "pattern"] MwH.d_common_columns.scope := ⟨rfl, rfl, rfl, by decide +kernel, rfl, by decide +kernel, by decide +kernel⟩
theorem ok_common_columns (T : Txt K mg) : Has P w K mg base 1 "common_columns" ["size", "pattern"] (spD K F_common_columns) := by
  refine has_def (N := ["size", "pattern", "found", "row"]) T 28 rfl rfl rfl rfl rfl sc_common_columns (fun _ _ _ _ _ _ us hl => match us, hl with | [_, _], _ => rfl) (fun ds d h => by obtain ⟨n, p, rfl, rfl, hn⟩ := h; rfl) fun f cdv A outer s H E hr vs B ds dd Q le r hF q => ?_
  obtain ⟨n, p, rfl, rfl, hn⟩ := hF
  obtain ⟨x_size, x_pattern, rfl, r_size, r_pattern⟩ := RpAll.n2 r
  refine ⟨_, (pss_cons (ps_set (i := 2) sc_common_columns.nd rfl (Or.inl rfl) (pe_op op_sub (pe_op op_shl pe_int (pv 0)) pe_int)) (pss_cons (ps_for PassesOwn.never rfl (pi_tupK (K := K) rfl (pv 1)) (pg_name (i := 3) sc_common_columns.nd rfl (Or.inl rfl)) (pss_one (ps_set (i := 2) sc_common_columns.nd rfl (Or.inl rfl) (pe_op op_and (pv 2) (pv 3))))) (pss_one (ps_ret (pv 2))))), ?_⟩
  have h3 := hn.le
  refine qd_asg (K := K) (d := dI (2 ^ n - 1)) le (.int (ev_sub (Nat.one_le_two_pow) (ev_shl1 (by omega) ev_c (ev_v rfl r_size)) (ev_n (a := 1)))) fun v0 B0 H0 a0 r0 => ?_
  obtain rfl := r0.isInt
  refine qd_forT a0.le (gv_var rfl (r_pattern.mono a0.base)) fun a xs B1 H1 a1 hxs rxs => ?_
  refine ⟨fun i σ' H' => ∃ Bi vm, σ' = [some x_size, some x_pattern, some (.int (((p.take i).foldl (fun f r => f &&& r) (2 ^ n - 1) : Nat) : Int)), vm] ∧ At B1 H1 Bi H',
    ⟨B1, none, rfl, .refl a1.le⟩, fun i σ' H' ⟨Bi, _, _, b⟩ => b.base.trans b.le, ?_, ?_⟩
  · rintro i x d σ' H' hx hd rx ⟨Bi, vm, rfl, b⟩
    obtain ⟨hi, rfl⟩ := dL_at hd
    have ef := fold_take (f := fun f r => f &&& r) (b := 2 ^ n - 1) 0 hi
    refine sd_asg (K := K) (d := dI ((p.take i).foldl (fun f r => f &&& r) (2 ^ n - 1) &&& p.getD i 0)) b.le (.int (ev_and (ev_var rfl) (ev_v rfl (rx.mono b.base)))) fun v B' H'' a2 r2 => ?_
    obtain rfl := r2.isInt
    refine ⟨B', some x, ?_, b.trans a2⟩
    rw [ef]
    rfl
  · rintro σ' H' ⟨Bi, vm, rfl, b⟩
    rw [zlen, List.take_length]
    exact qd_ret (K := K) b.le (.int (ev_var rfl)) fun v B' H'' a2 r2 => q v B' H'' (((a0.trans a1).trans b).trans a2) r2
def dWord : Option (List Nat) → PyData
  | none => .none
  | some w => dL w
theorem met_short {n : Nat} {ps : List (List Nat)} (hn : Sz n) (hp : Pats n ps) : (metPatterns ps).length ≤ 512 := by
  rw [(Held.all ps).len]
  have e := all_ok hn hp
  have key : ∀ (f at_ : Nat) (ws : List WRow), Met n ws → Met n (queueW ps f at_ ws) := by
    intro f
    induction f with
    | zero => exact fun _ _ h => h
    | succ f ih =>
      intro at_ ws h
      unfold queueW
      split
      · rename_i hlt
        exact ih _ _ (h.turn hn hp (h.pat _ (getD_mem hlt)))
      · exact h
  exact Nat.le_trans ((key 513 0 (startW ps) (Met.start hp)).short hn) (pow_sz hn)
def F_zero_word (ds : List PyData) (d : PyData) : Prop := ∃ n ps, ds = [dTs ps] ∧ d = dWord (zeroWord ps) ∧ Sz n ∧ Pats n ps ∧ ps.length ≤ 1000
theorem sc_zero_word : FnScope ["patterns", "rows", "place", "row"] ["patterns"] MwH.d_zero_word.scope := ⟨rfl, rfl, rfl, by decide +kernel, rfl, by decide +kernel, by decide +kernel⟩
theorem ok_zero_word (T : Txt K mg) : Has P w K mg base 5 "zero_word" ["patterns"] (spD K F_zero_word) := by
  refine has_def (N := ["patterns", "rows", "place", "row"]) T 29 rfl rfl rfl rfl rfl sc_zero_word (fun _ _ _ _ _ _ us hl => match us, hl with | [_], _ => rfl) (fun ds d h => by obtain ⟨n, ps, rfl, rfl, hn, hp, hl⟩ := h; rfl) fun f cdv A outer s H E hr vs B ds dd Q le r hF q => ?_
  obtain ⟨n, ps, rfl, rfl, hn, hp, hl⟩ := hF
  obtain ⟨x_patterns, rfl, r_patterns⟩ := RpAll.n1 r
  obtain ⟨f_met_patterns, fd_met_patterns, m_met_patterns, k_met_patterns, b_met_patterns, G_met_patterns⟩ := ok_met_patterns (P := P) (w := w) (base := base) T
  obtain ⟨f_is_zero, fd_is_zero, m_is_zero, k_is_zero, b_is_zero, G_is_zero⟩ := ok_is_zero (P := P) (w := w) (base := base) T
  obtain ⟨f_word_of, fd_word_of, m_word_of, k_word_of, b_word_of, G_word_of⟩ := ok_word_of (P := P) (w := w) (base := base) T
  refine ⟨_, (pss_cons (ps_set (i := 1) sc_zero_word.nd rfl (Or.inl rfl) (pe_call G_met_patterns (hr.mono (by decide)) (by rfl) m_met_patterns k_met_patterns b_met_patterns .nil pass0 (pa_cons (pv 0) pa_nil))) (pss_cons (ps_for PassesOwn.never rfl (pi_enumK (K := K) rfl (by rfl) (T.free 135 rfl) (pa_cons (pv 1) pa_nil)) (pg_tupK (K := K) (n := 2) rfl rfl (pgs_cons (pg_name (i := 2) sc_zero_word.nd rfl (Or.inl rfl)) (pgs_cons (pg_name (i := 3) sc_zero_word.nd rfl (Or.inl rfl)) pgs_nil))) (pss_one (ps_if (pt_val (pe_call G_is_zero (hr.mono (by decide)) (by rfl) m_is_zero k_is_zero b_is_zero .nil pass0 (pa_cons (pe_ix (ix_tupK (K := K) rfl) (pv 3) pe_int (fun _ _ => rfl)) pa_nil))) (pss_one (ps_ret (pe_call G_word_of (hr.mono (by decide)) (by rfl) m_word_of k_word_of b_word_of .nil pass0 (pa_cons (pv 1) (pa_cons (pv 2) pa_nil))))) pss_nil))) (pss_one (ps_ret pe_non)))), ?_⟩
  have h5 := met_short hn hp
  refine qd_asg le (gv_call (ga_cons (gv_var rfl r_patterns) ga_nil) ⟨n, ps, rfl, rfl, hn, hp, hl⟩) fun v0 B0 H0 a0 r0 => ?_
  refine qd_forE a0.le (ga_cons (gv_var rfl r0) ga_nil) fun a xs B1 H1 a1 hxs rxs => ?_
  have b1 := a0.trans a1
  refine ⟨fun i σ' H' => ∃ v2 v3, σ' = [some x_patterns, some v0, v2, v3] ∧ Ex H1 H' ∧ ∀ j, j < i → isZero ((metPatterns ps).getD j row0).1 = false,
    ⟨none, none, rfl, Ex.refl _, fun j hj => absurd hj (Nat.not_lt_zero j)⟩, fun i σ' H' ⟨_, _, _, e, _⟩ => a1.le.trans e, ?_, ?_⟩
  · rintro i x d σ' H' hd rx ⟨v2, v3, rfl, e1, hno⟩ H2 eH
    obtain ⟨hi, rfl⟩ := dM_at row0 hd
    have b2 : At B H B1 H2 := ⟨b1.base, (b1.le.trans e1).trans eH, (b1.keep.trans e1).trans eH, b1.fr⟩
    refine sd_if (b := isZero ((metPatterns ps).getD i row0).1) b2.le ?_ (fun hb H3 e3 => ?_) (fun hb H3 e3 => ?_)
    · exact et_test (gv_callB (ga_cons (gv_ixT (ds := [dT ((metPatterns ps).getD i row0).1, .int ((metPatterns ps).getD i row0).2.1, dI ((metPatterns ps).getD i row0).2.2]) (gv_var rfl rx) (ev_n (a := 0)) (ix_nat (j := 0) rfl)) ga_nil) ⟨_, rfl, rfl⟩)
    · have b3 : At B H B1 H3 := ⟨b2.base, b2.le.trans e3, b2.keep.trans e3, b2.fr⟩
      refine qd_ret b3.le (gv_call (ga_cons (gv_var rfl (r0.mono a1.base)) (ga_int (ev_var rfl) ga_nil)) ⟨metPatterns ps, i, rfl, rfl, hi, (Held.all ps).falls, by omega⟩) fun v B' H'' a2 r2 => q v B' H'' (b3.trans a2) ?_
      have e : zeroWord ps = some (wordOf (metPatterns ps) i) := by
        unfold zeroWord
        rw [find_first (p := fun i => isZero ((metPatterns ps).getD i row0).1) hi hb hno]
        rfl
      rw [e]
      exact r2
    · refine ⟨_, _, rfl, (e1.trans eH).trans e3, fun j hj => ?_⟩
      rcases Nat.lt_succ_iff_lt_or_eq.mp hj with h | h
      · exact hno j h
      · rw [h]
        exact hb
  · rintro σ' H' ⟨v2, v3, rfl, e1, hno⟩
    rw [List.length_map] at hno
    have b2 : At B H B1 H' := ⟨b1.base, b1.le.trans e1, b1.keep.trans e1, b1.fr⟩
    have e : zeroWord ps = none := by
      unfold zeroWord
      rw [find_no (p := fun i => isZero ((metPatterns ps).getD i row0).1) hno]
      rfl
    refine q _ _ _ b2 ?_
    rw [e]
    exact .non
def F_positive_column_word (ds : List PyData) (d : PyData) : Prop := ∃ n ps, ds = [dI n, dTs ps] ∧ d = dWord (positiveColumnWord n ps) ∧ Sz n ∧ Pats n ps ∧ ps.length ≤ 1000
theorem sc_positive_column_word : FnScope ["size", "patterns", "rows", "place", "row"] ["size", "patterns"] MwH.d_positive_column_word.scope := ⟨rfl, rfl, rfl, by decide +kernel, rfl, by decide +kernel, by decide +kernel⟩
theorem ok_positive_column_word (T : Txt K mg) : Has P w K mg base 5 "positive_column_word" ["size", "patterns"] (spD K F_positive_column_word) := by
  refine has_def (N := ["size", "patterns", "rows", "place", "row"]) T 30 rfl rfl rfl rfl rfl sc_positive_column_word (fun _ _ _ _ _ _ us hl => match us, hl with | [_, _], _ => rfl) (fun ds d h => by obtain ⟨n, ps, rfl, rfl, hn, hp, hl⟩ := h; rfl) fun f cdv A outer s H E hr vs B ds dd Q le r hF q => ?_
  obtain ⟨n, ps, rfl, rfl, hn, hp, hl⟩ := hF
  obtain ⟨x_size, x_patterns, rfl, r_size, r_patterns⟩ := RpAll.n2 r
  obtain ⟨f_met_patterns, fd_met_patterns, m_met_patterns, k_met_patterns, b_met_patterns, G_met_patterns⟩ := ok_met_patterns (P := P) (w := w) (base := base) T
  obtain ⟨f_common_columns, fd_common_columns, m_common_columns, k_common_columns, b_common_columns, G_common_columns⟩ := ok_common_columns (P := P) (w := w) (base := base) T
  obtain ⟨f_word_of, fd_word_of, m_word_of, k_word_of, b_word_of, G_word_of⟩ := ok_word_of (P := P) (w := w) (base := base) T
  refine ⟨_, (pss_cons (ps_set (i := 2) sc_positive_column_word.nd rfl (Or.inl rfl) (pe_call G_met_patterns (hr.mono (by decide)) (by rfl) m_met_patterns k_met_patterns b_met_patterns .nil pass0 (pa_cons (pv 1) pa_nil))) (pss_cons (ps_for PassesOwn.never rfl (pi_enumK (K := K) rfl (by rfl) (T.free 135 rfl) (pa_cons (pv 2) pa_nil)) (pg_tupK (K := K) (n := 2) rfl rfl (pgs_cons (pg_name (i := 3) sc_positive_column_word.nd rfl (Or.inl rfl)) (pgs_cons (pg_name (i := 4) sc_positive_column_word.nd rfl (Or.inl rfl)) pgs_nil))) (pss_one (ps_if (pt_cmpR op_gt (pe_call G_common_columns (hr.mono (by decide)) (by rfl) m_common_columns k_common_columns b_common_columns .nil pass0 (pa_cons (pv 0) (pa_cons (pe_ix (ix_tupK (K := K) rfl) (pv 4) pe_int (fun _ _ => rfl)) pa_nil))) pe_int (nomark _)) (pss_one (ps_ret (pe_call G_word_of (hr.mono (by decide)) (by rfl) m_word_of k_word_of b_word_of .nil pass0 (pa_cons (pv 2) (pa_cons (pv 3) pa_nil))))) pss_nil))) (pss_one (ps_ret pe_non)))), ?_⟩
  have h5 := met_short hn hp
  refine qd_asg le (gv_call (ga_cons (gv_var rfl r_patterns) ga_nil) ⟨n, ps, rfl, rfl, hn, hp, hl⟩) fun v0 B0 H0 a0 r0 => ?_
  refine qd_forE a0.le (ga_cons (gv_var rfl r0) ga_nil) fun a xs B1 H1 a1 hxs rxs => ?_
  have b1 := a0.trans a1
  refine ⟨fun i σ' H' => ∃ v2 v3, σ' = [some x_size, some x_patterns, some v0, v2, v3] ∧ Ex H1 H' ∧ ∀ j, j < i → decide (0 < commonColumns n ((metPatterns ps).getD j row0).1) = false,
    ⟨none, none, rfl, Ex.refl _, fun j hj => absurd hj (Nat.not_lt_zero j)⟩, fun i σ' H' ⟨_, _, _, e, _⟩ => a1.le.trans e, ?_, ?_⟩
  · rintro i x d σ' H' hd rx ⟨v2, v3, rfl, e1, hno⟩ H2 eH
    obtain ⟨hi, rfl⟩ := dM_at row0 hd
    have b2 : At B H B1 H2 := ⟨b1.base, (b1.le.trans e1).trans eH, (b1.keep.trans e1).trans eH, b1.fr⟩
    refine sd_if (b := decide (0 < commonColumns n ((metPatterns ps).getD i row0).1)) b2.le ?_ (fun hb H3 e3 => ?_) (fun hb H3 e3 => ?_)
    · exact et_test (ev_gt (gv_callI (ga_cons (gv_var rfl (r_size.mono b1.base)) (ga_cons (gv_ixT (ds := [dT ((metPatterns ps).getD i row0).1, .int ((metPatterns ps).getD i row0).2.1, dI ((metPatterns ps).getD i row0).2.2]) (gv_var rfl rx) (ev_n (a := 0)) (ix_nat (j := 0) rfl)) ga_nil)) ⟨n, _, rfl, rfl, hn⟩) (ev_n (a := 0)))
    · have b3 : At B H B1 H3 := ⟨b2.base, b2.le.trans e3, b2.keep.trans e3, b2.fr⟩
      refine qd_ret b3.le (gv_call (ga_cons (gv_var rfl (r0.mono a1.base)) (ga_int (ev_var rfl) ga_nil)) ⟨metPatterns ps, i, rfl, rfl, hi, (Held.all ps).falls, by omega⟩) fun v B' H'' a2 r2 => q v B' H'' (b3.trans a2) ?_
      have e : positiveColumnWord n ps = some (wordOf (metPatterns ps) i) := by
        unfold positiveColumnWord
        rw [find_first (p := fun i => decide (0 < commonColumns n ((metPatterns ps).getD i row0).1)) hi hb hno]
        rfl
      rw [e]
      exact r2
    · refine ⟨_, _, rfl, (e1.trans eH).trans e3, fun j hj => ?_⟩
      rcases Nat.lt_succ_iff_lt_or_eq.mp hj with h | h
      · exact hno j h
      · rw [h]
        exact hb
  · rintro σ' H' ⟨v2, v3, rfl, e1, hno⟩
    rw [List.length_map] at hno
    have b2 : At B H B1 H' := ⟨b1.base, b1.le.trans e1, b1.keep.trans e1, b1.fr⟩
    have e : positiveColumnWord n ps = none := by
      unfold positiveColumnWord
      rw [find_no (p := fun i => decide (0 < commonColumns n ((metPatterns ps).getD i row0).1)) hno]
      rfl
    refine q _ _ _ b2 ?_
    rw [e]
    exact .non
end
end Mw
end
section
set_option Elab.async false
set_option linter.all false
set_option maxRecDepth 100000
set_option maxHeartbeats 4000000
/-! # Walks: states -/
namespace Mw
open PySem PySem.Spec PyProof.Rows L2 Evl
section
variable {P : Program} {w : World} {K : Frg} {mg : Str → Option Value} {base : Heap}
def F_steps_by (ds : List PyData) (d : PyData) : Prop := ∃ n p st, ds = [dI n, dT p, dT st] ∧ d = dTs (stepsBy n p st) ∧ n ≤ 3 ∧ st.length ≤ 3 ∧ ∀ i ∈ st, i < p.length
theorem dT_app (l : List Nat) (c : Nat) : PyData.tuple ((zs l).map .int ++ [dI c]) = dT (l ++ [c]) := by
  unfold dT zs
  rw [List.map_append, List.map_append]
  rfl
theorem flat_take {α β : Type} {f : α → List β} {l : List α} {i : Nat} (z : α) (h : i < l.length) : (l.take (i + 1)).flatMap f = (l.take i).flatMap f ++ f (l.getD i z) := by
  rw [take_getD z h, List.flatMap_append]
  simp
theorem steps_len {n : Nat} {p : List Nat} (hn : n ≤ 3) (st : List Nat) (hl : st.length ≤ 3) : (st.foldl (stepsLonger n p) [[]]).length ≤ 27 := by
  have h1 := steps_le (n := n) (p := p) st [[]]
  have h2 : n ^ st.length ≤ 3 ^ 3 := Nat.le_trans (Nat.pow_le_pow_left hn _) (Nat.pow_le_pow_right (by omega) hl)
  have h3 : ([[]] : List (List Nat)).length * n ^ st.length = n ^ st.length := by simp
  rw [h3] at h1
  exact Nat.le_trans h1 (Nat.le_trans h2 (by decide))
theorem sc_steps_by : FnScope ["size", "pattern", "state", "found", "index", "columns", "longer", "begun", "column"] ["size", "pattern", "state"] MwH.d_steps_by.scope := ⟨rfl, rfl, rfl, by decide +kernel, rfl, by decide +kernel, by decide +kernel⟩
theorem ok_steps_by (T : Txt K mg) : Has P w K mg base 3 "steps_by" ["size", "pattern", "state"] (spD K F_steps_by) := by
  refine has_def (N := ["size", "pattern", "state", "found", "index", "columns", "longer", "begun", "column"]) T 31 rfl rfl rfl rfl rfl sc_steps_by (fun _ _ _ _ _ _ us hl => match us, hl with | [_, _, _], _ => rfl) (fun ds d h => by obtain ⟨n, p, st, rfl, rfl, hn, hl, hi⟩ := h; rfl) fun f cdv A outer s H E hr vs B ds dd Q le r hF q => ?_
  obtain ⟨n, p, st, rfl, rfl, hn, hl, hi⟩ := hF
  obtain ⟨x_size, x_pattern, x_state, rfl, r_size, r_pattern, r_state⟩ := RpAll.n3 r
  obtain ⟨f_indices_in, fd_indices_in, m_indices_in, k_indices_in, b_indices_in, G_indices_in⟩ := ok_indices_in (P := P) (w := w) (base := base) T
  refine ⟨_, (pss_cons (ps_set (i := 3) sc_steps_by.nd rfl (Or.inl rfl) (pe_lst (pa_cons (pe_tup pa_nil) pa_nil))) (pss_cons (ps_for PassesOwn.never rfl (pi_tupK (K := K) rfl (pv 2)) (pg_name (i := 4) sc_steps_by.nd rfl (Or.inl rfl)) (pss_cons (ps_par (i := 5) (j := 6) rfl sc_steps_by.nd rfl rfl (by decide) rfl rfl (pa_cons (pe_call G_indices_in (hr.mono (by decide)) (by rfl) m_indices_in k_indices_in b_indices_in .nil pass0 (pa_cons (pv 0) (pa_cons (pe_ix (ix_tupK (K := K) rfl) (pv 1) (pv 4) (fun _ _ => rfl)) pa_nil))) (pa_cons (pe_lst pa_nil) pa_nil)) (by rfl)) (pss_cons (ps_for PassesOwn.never rfl (pi_listK (K := K) rfl (pv 3)) (pg_name (i := 7) sc_steps_by.nd rfl (Or.inr rfl)) (pss_one (ps_expr (pe_bm PySem.F.plainAttrs_list PySem.F.slot_list_extend PySem.F.type_list_extend mt_extend (pv 6) (pa_cons (pe_lc (own := [("column", 8)]) rfl sc_steps_by.nd (pi_listK (K := K) rfl (pv 5)) (blkOk_by (own := [("column", 8)]) (N := ["size", "pattern", "state", "found", "index", "columns", "longer", "begun", "column"]) (sc := MwH.d_steps_by.scope) (by decide +kernel)) (fun _ _ _ _ _ => (pg_name (i := 8) sc_steps_by.nd rfl (Or.inl rfl))) (fun _ _ _ _ _ => pts_nil) (fun _ _ _ _ _ => (pe_op (op_catAK (K := K) rfl) (pv 7) (pe_tup (pa_cons (pv 8) pa_nil))))) pa_nil))))) (pss_one (ps_set (i := 3) sc_steps_by.nd rfl (Or.inl rfl) (pv 6)))))) (pss_one (ps_ret (pv 3))))), ?_⟩
  refine qd_asg (K := K) (d := dTs [[]]) le (gv_lst (ga_cons (gv_tup ga_nil (Nat.zero_le _)) ga_nil) (by show 1 ≤ 100000; omega)) fun v0 B0 H0 a0 r0 => ?_
  refine qd_forT a0.le (gv_var rfl (r_state.mono a0.base)) fun a xs B1 H1 a1 hxs rxs => ?_
  refine ⟨fun i σ' H' => ∃ Bi vf v4 v5 v6 v7, σ' = [some x_size, some x_pattern, some x_state, some vf, v4, v5, v6, v7, none] ∧ At B1 H1 Bi H' ∧ Rp K Bi vf (dTs ((st.take i).foldl (stepsLonger n p) [[]])),
    ⟨B1, v0, none, none, none, none, rfl, .refl a1.le, r0.mono a1.base⟩, fun i σ' H' ⟨Bi, _, _, _, _, _, _, b, _⟩ => b.base.trans b.le, ?_, ?_⟩
  · rintro i x d σ' H' hx hd rx ⟨Bi, vf, v4, v5, v6, v7, rfl, b, rf⟩
    obtain ⟨hit, rfl⟩ := dL_at hd
    have ef := fold_take (f := stepsLonger n p) (b := [[]]) 0 hit
    have h27 := steps_len (p := p) hn (st.take i) (by rw [List.length_take]; omega)
    have e2 := (a0.base.trans a1.base).trans b.base
    have hip := hi (st.getD i 0) (getD_mem hit)
    have hcurl : ∀ b ∈ (st.take i).foldl (stepsLonger n p) [[]], b.length ≤ 3 := fun b hb => by
      have h1 := (steps_state (n := n) (p := p) (st := st.take i) (found := [[]]) (k := 0) (fun y hy => by
        rw [List.mem_singleton.mp hy]
        exact ⟨rfl, fun j hj => by cases hj⟩) b hb).len
      rw [h1, List.length_take]
      omega
    generalize (st.take i).foldl (stepsLonger n p) [[]] = cur at ef rf h27 hcurl
    generalize st.getD i 0 = ix at ef rx hip
    -- columns, longer = indices_in(size, pattern[index]), []
    refine gv_call (ga_cons (gv_var rfl (r_size.mono e2)) (ga_int (ev_atT (gv_var rfl (r_pattern.mono e2)) (ev_v rfl (rx.mono b.base)) hip) ga_nil)) ⟨n, p.getD ix 0, rfl, rfl, hn⟩ H' b.le _ fun vc B2 H2 a2 rc => ⟨Nat.zero_le _, fun q0 hq0 => ⟨_, _, rfl, ?_⟩⟩
    have b2 := b.trans a2
    have hq1 : H1 q0 = none := fresh_back b2.keep hq0
    have hqB : B2 q0 = none := fresh_back b2.le hq0
    have b3 : At B1 H1 B2 (upd H2 q0 (.lst [])) := b2.trans (.aside b2.le hq0)
    -- for begun in found
    refine qd_forL b3.le (gv_var rfl (rf.mono a2.base)) fun a' xs' B4 H4 a4 hxs' rxs' => ?_
    refine ⟨fun j σ'' H'' => ∃ Bj acc w7, σ'' = [some x_size, some x_pattern, some x_state, some vf, some x, some vc, some (.ref q0), w7, none] ∧ At B1 H1 Bj H'' ∧ Ex B4 Bj ∧ Bj q0 = none ∧ H'' q0 = some (.lst acc) ∧ RpAll K Bj acc (((cur.take j).flatMap fun b => (indicesIn n (p.getD ix 0)).map fun c => b ++ [c]).map dT),
      ⟨B4, [], v7, rfl, b3.trans a4, Ex.refl _, a4.off hqB upd_same lst_tup, a4.keep _ _ upd_same, .nil⟩, fun j σ'' H'' ⟨Bj, _, _, _, c, e, _⟩ => e.trans c.le, ?_, ?_⟩
    · rintro j y d σ'' H'' hy hd2 ry ⟨Bj, acc, w7, rfl, c, e4, nq, hq, racc⟩
      obtain ⟨hj, rfl⟩ := dM_at [] hd2
      have hlc : ((cur.take j).flatMap fun b => (indicesIn n (p.getD ix 0)).map fun c => b ++ [c]).length ≤ 100 := by
        have h1 := flat_len (l := cur.take j) (f := fun b => (indicesIn n (p.getD ix 0)).map fun c => b ++ [c]) (b := 3) fun b _ => by
          rw [List.length_map]
          exact Nat.le_trans (indices_len _ _) hn
        rw [List.length_take] at h1
        omega
      have hcl := indices_len n (p.getD ix 0)
      have e5 : Ex B2 Bj := a4.base.trans e4
      refine sd_extend (es := ((indicesIn n (p.getD ix 0)).map fun c => cur.getD j [] ++ [c]).map dT) c hq1 nq hq ?_ (fun H' _ => ev_var rfl) (Gv.is (gv_lcL (fun _ => true) (fun m => dT (cur.getD j [] ++ [(indicesIn n (p.getD ix 0)).getD m 0])) (gv_var rfl (rc.mono e5)) (by rw [zlen]; omega) fun m z d B6 e6 hd6 rz => turn_name (fun _ => rfl) et_true fun _ => ?_) ?_) fun ys B' H5 c5 e7 hB' rys hp' off => ?_
      · rw [racc.len, List.length_map, List.length_map, List.length_map]
        omega
      · obtain ⟨hm, rfl⟩ := dL_at hd6
        refine Gv.is (gv_catA (gv_var rfl (ry.mono (e4.trans e6))) (gv_tup (ga_cons (gv_var rfl rz) ga_nil) (by show 1 ≤ 100000; omega)) ?_) (dT_app _ _)
        rw [zlen]
        show _ + 1 ≤ _
        have hlen2 : (cur.getD j []).length ≤ 3 := hcurl _ (getD_mem hj)
        omega
      · rw [gvn_all, zlen]
        exact congrArg PyData.list (map_data (fun c => cur.getD j [] ++ [c]) dT (indicesIn n (p.getD ix 0)) 0)
      · refine ⟨B', _, _, rfl, c5, e4.trans e7, hB', hp', ?_⟩
        rw [flat_take [] hj, List.map_append]
        exact (racc.mono e7).append rys
    · rintro σ'' H'' ⟨Bj, acc, w7, rfl, c, e4, nq, hq, racc⟩
      rw [List.length_map, List.take_length] at racc
      refine ⟨_, rfl, ?_⟩
      refine ⟨_, _, _, _, _, _, rfl, c.freeze nq hq1 hq, ?_⟩
      rw [ef]
      exact .lst upd_same (racc.mono (Ex.new nq))
  · rintro σ' H' ⟨Bi, vf, v4, v5, v6, v7, rfl, b, rf⟩
    rw [zlen, List.take_length] at rf
    refine qd_ret b.le (gv_var rfl rf) fun v B' H'' a2 r2 => q v B' H'' (((a0.trans a1).trans b).trans a2) r2
end
end Mw
end
section
set_option Elab.async false
set_option linter.all false
set_option maxRecDepth 100000
set_option maxHeartbeats 4000000
/-! # Walks: the states behind a state -/
namespace Mw
open PySem PySem.Spec PyProof.Rows L2 Evl
section
variable {P : Program} {w : World} {K : Frg} {mg : Str → Option Value} {base : Heap}
/-- a dict of states -/
def dDic (l : List (List Nat)) : PyData := .dict (l.map fun x => (dT x, .bool true))
theorem keyD_inj : ∀ {k m : List Key}, k.map keyD = m.map keyD → k = m
  | [], [], _ => rfl
  | [], _ :: _, h => by cases h
  | _ :: _, [], h => by cases h
  | x :: r, y :: s, h => by
    rw [List.map_cons, List.map_cons] at h
    injection h with h1 h2
    rw [keyD_inj h2]
    cases x <;> cases y <;> (unfold keyD at h1) <;> first | (injection h1 with h3; rw [h3]) | cases h1
theorem kk_keyD (l : List Nat) : (kk l).map keyD = (zs l).map PyData.int := by
  unfold kk
  rw [List.map_map]
  rfl
theorem Rp.ofDic {B : Hp} {a : Addr} {kvs : List (List Key × V)} {ls : List (List Nat)} (h : B a = some (.dT kvs)) (hk : KeysOf kvs ls) : Rp K B (.ref a) (dDic ls) := .dic h (by
  have e : (kvs.map fun kv => (PyData.tuple (kv.1.map keyD), PyData.bool true)) = (kvs.map Prod.fst).map fun k => (PyData.tuple (k.map keyD), PyData.bool true) := by
    rw [List.map_map]
    rfl
  rw [e, hk, List.map_map]
  refine List.map_congr_left fun l _ => ?_
  show (dT l, _) = (PyData.tuple ((kk l).map keyD), _)
  rw [kk_keyD]
  rfl)
theorem Rp.isDic {B : Hp} {v : V} {ls : List (List Nat)} (h : Rp K B v (dDic ls)) : ∃ a kvs, v = .ref a ∧ B a = some (.dT kvs) ∧ KeysOf kvs ls := by
  unfold dDic at h
  generalize hks : (ls.map fun x => (dT x, PyData.bool true)) = ks at h
  cases h with
  | @dic a kvs _ ha e =>
    refine ⟨a, kvs, rfl, ha, ?_⟩
    rw [e] at hks
    have e2 := congrArg (List.map Prod.fst) hks
    rw [List.map_map, List.map_map] at e2
    unfold KeysOf
    clear hks e ha
    have gen : ∀ (ls : List (List Nat)) (kvs : List (List Key × V)), ls.map (fun x => dT x) = kvs.map (fun kv => PyData.tuple (kv.1.map keyD)) → kvs.map Prod.fst = ls.map kk := fun ls => by
      induction ls with
      | nil =>
        intro kvs h
        cases kvs with
        | nil => rfl
        | cons x r => cases h
      | cons l r ih =>
        intro kvs h
        cases kvs with
        | nil => cases h
        | cons x s =>
          rw [List.map_cons, List.map_cons] at h
          injection h with h1 h2
          unfold dT at h1
          injection h1 with h3
          rw [← kk_keyD] at h3
          rw [List.map_cons, List.map_cons, ih s h2, ← keyD_inj h3]
    exact gen ls kvs e2
section
variable {σ : L2.St} {B H : Hp} {tl : TE} {g : TG} {tu : TS} {D : Ends}
theorem sd_forL {ds : List PyData} (le : Ex B H) (h : Gv K tl σ B (.list ds)) (k : ∀ (a : Addr) (xs : List V) B1 H1, At B H B1 H1 → B1 a = some (.lst xs) → RpAll K B1 xs ds →
      ∃ Pv : Nat → L2.St → Hp → Prop, Pv 0 σ H1 ∧ (∀ i σ' H', Pv i σ' H' → Ex B1 H') ∧ (∀ i x d σ' H', xs[i]? = some x → ds[i]? = some d → Rp K B1 x d → Pv i σ' H' → g x σ' H' fun σ2 H2 => tu { D with nx := Pv (i + 1), ct := Pv (i + 1), bk := D.nx } σ2 H2) ∧
        ∀ σ' H', Pv ds.length σ' H' → D.nx σ' H') : tFor (iList K tl) g tu D σ H := qd_forL (tz := tNext) le h k
end
/-- what the search keeps in the heap: the dict at dk, the list at lp -/
structure SeeInv (K : Frg) (B H : Hp) (lp dk : Addr) (s : Seen) (Bi H' : Hp) : Prop where
  at_ : At B H Bi H'
  ne : dk ≠ lp
  nL : Bi lp = none
  nD : Bi dk = none
  ex : ∃ acc kvs, H' lp = some (.lst acc) ∧ H' dk = some (.dT kvs) ∧ RpAll K Bi acc (s.2.map dT) ∧ KeysOf kvs s.1
theorem SeeInv.up {B H : Hp} {lp dk : Addr} {s : Seen} {Bi H' H2 : Hp} (m : SeeInv K B H lp dk s Bi H') (e : Ex H' H2) : SeeInv K B H lp dk s Bi H2 :=
  ⟨⟨m.at_.base, m.at_.le.trans e, m.at_.keep.trans e, m.at_.fr⟩, m.ne, m.nL, m.nD, let ⟨acc, kvs, h1, h2, r⟩ := m.ex; ⟨acc, kvs, e _ _ h1, e _ _ h2, r⟩⟩
theorem SeeInv.step {B H : Hp} {lp dk : Addr} {s : Seen} {Bi H' B1 H2 : Hp} (m : SeeInv K B H lp dk s Bi H') (a : At Bi H' B1 H2) : SeeInv K B H lp dk s B1 H2 := by
  obtain ⟨acc, kvs, h1, h2, r, hk⟩ := m.ex
  exact ⟨m.at_.trans a, m.ne, a.off m.nL h1 lst_tup, a.off m.nD h2 dT_tup, acc, kvs, a.keep _ _ h1, a.keep _ _ h2, r.mono a.base, hk⟩
/-- if x not in known: known[x] = True; left.append(x) -/
theorem see_body {σ : L2.St} {B H : Hp} {lp dk : Addr} {s : Seen} {Bi H' : Hp} {il ik isx : Nat} {x : V} {l : List Nat} {D : Ends} (h0 : H lp = none) (h0d : H dk = none) (m : SeeInv K B H lp dk s Bi H') (hl : s.2.length ≤ 5000) (hl1 : s.1.length ≤ 5000)
    (sl : σ[il]? = some (some (.ref lp))) (sk : σ[ik]? = some (some (.ref dk))) (sx : σ[isx]? = some (some x)) (rx : Rp K Bi x (dT l))
    (q : ∀ Bj H'', Ex Bi Bj → SeeInv K B H lp dk (visit s l) Bj H'' → D.nx σ H'') :
    tIfS (tB (tDNotIn (tVar isx) (tVar ik))) (tSeq (sDPut (tVar ik) (tVar isx) (tC (.bl true))) (tDrop (tBM K "list" rAppend (tVar il) (tCons (tVar isx) tNil)))) tNext D σ H' := by
  obtain ⟨acc, kvs, hP, hD, racc, hk⟩ := m.ex
  refine s_if (et_notin (ev_var sx) (rx.mono m.at_.le) (ev_var sk) hD hk) (fun hb H1 e1 => ?_) (fun hb H1 e1 => ?_)
  · have hn : ¬ l ∈ s.1 := by
      intro z
      rw [decide_eq_true z] at hb
      cases hb
    have m1 := m.up e1
    obtain ⟨b, rfl, hbt⟩ := rx.isKey
    obtain ⟨pe, pk⟩ := hk.put hn (.bl true)
    refine ⟨.ref dk, sk, .ref b, sx, dk, _, rfl, DPut.t (e1 _ _ hD) (m1.at_.le _ _ hbt) (by
      rw [hk.len]
      exact sz_lt (by omega)), ?_⟩
    have a2 : At B H Bi (upd H1 dk (.dT (putK kvs (kk l) (.bl true)))) := m1.at_.mut m.nD h0d
    refine sd_append (d := dT l) a2 h0 m.nL (by rw [upd_ne m.ne.symm]; exact e1 _ _ hP) ?_ (fun H' _ => ev_var sl) (gv_var sx rx) fun v B' H2 c2 e4 hB' rv hp' off => ?_
    · rw [racc.len, List.length_map]
      omega
    · have o2 := off dk _ m.ne upd_same
      have em : visit s l = (s.1 ++ [l], s.2 ++ [l]) := if_neg hn
      refine q B' H2 e4 ⟨c2, m.ne, hB', o2.2 m.nD dT_tup, _, _, hp', o2.1, ?_, ?_⟩
      · rw [em, List.map_append]
        exact (racc.mono e4).append (.one rv)
      · rw [pe, em]
        exact pk
  · have hn : l ∈ s.1 := by
      by_cases z : l ∈ s.1
      · exact z
      · rw [decide_eq_false z] at hb
        cases hb
    have em : visit s l = s := if_pos hn
    have m1 := m.up e1
    rw [← em] at m1
    exact q Bi H1 (Ex.refl _) m1
def F_states_behind (ds : List PyData) (d : PyData) : Prop := ∃ n ps st, ds = [dI n, dTs ps, dT st] ∧ d = dDic (statesBehind n ps st) ∧ Sz n ∧ Pats n ps ∧ ps.length ≤ 1000 ∧ st.length ≤ 3 ∧ ∀ i ∈ st, i < n
theorem behind_all {n k : Nat} {here : List Nat} (hn : n ≤ 3) (hk : k ≤ 3) (hh : here.length = k) {ps : List (List Nat)} {s : Seen} (h : SeenOk n k s) (hl : s.2.length ≤ 28) (hb : s.2.length ≤ s.1.length + 1) (i : Nat) : let t := (ps.take i).foldl (behindOne n here) s; SeenOk n k t ∧ t.1.length ≤ 27 ∧ t.2.length ≤ t.1.length + 1 := by
  obtain ⟨h1, e1⟩ := ones_ok (ps := ps.take i) hh h
  refine ⟨h1, h1.short hn hk, ?_⟩
  unfold Bal at e1
  omega
theorem sc_states_behind : FnScope ["size", "patterns", "state", "known", "left", "here", "pattern", "after"] ["size", "patterns", "state"] MwH.d_states_behind.scope := ⟨rfl, rfl, rfl, by decide +kernel, rfl, by decide +kernel, by decide +kernel⟩
theorem ok_states_behind (T : Txt K mg) : Has P w K mg base 4 "states_behind" ["size", "patterns", "state"] (spD K F_states_behind) := by
  refine has_def (N := ["size", "patterns", "state", "known", "left", "here", "pattern", "after"]) T 32 rfl rfl rfl rfl rfl sc_states_behind (fun _ _ _ _ _ _ us hl => match us, hl with | [_, _, _], _ => rfl) (fun ds d h => by obtain ⟨n, ps, st, rfl, rfl, hn, hp, hpl, hl, hi⟩ := h; rfl) fun f cdv A outer s H E hr vs B ds dd Q le r hF q => ?_
  obtain ⟨n, ps, st, rfl, rfl, hn, hp, hpl, hl, hi⟩ := hF
  obtain ⟨x_size, x_patterns, x_state, rfl, r_size, r_patterns, r_state⟩ := RpAll.n3 r
  obtain ⟨f_steps_by, fd_steps_by, m_steps_by, k_steps_by, b_steps_by, G_steps_by⟩ := ok_steps_by (P := P) (w := w) (base := base) T
  have hu := hu_of hr
  have hu64 := hr.units
  have hu65 := hu65_of hr
  refine ⟨_, (pss_cons (ps_par (i := 3) (j := 4) rfl sc_states_behind.nd rfl rfl (by decide) rfl rfl (pa_cons pe_dnewT (pa_cons (pe_lst (pa_cons (pv 2) pa_nil)) pa_nil)) (by rfl)) (pss_cons (ps_while PassesOwn.never (pt_cmpR (op_neDK (K := K) rfl hu64) (pv 4) (pe_lst pa_nil) (nomark _)) (pss_cons (ps_set (i := 5) sc_states_behind.nd rfl (Or.inl rfl) (pe_bm0 PySem.F.plainAttrs_list PySem.F.slot_list_pop PySem.F.type_list_pop mt_pop (pv 4))) (pss_one (ps_for PassesOwn.never rfl (pi_listK (K := K) rfl (pv 1)) (pg_name (i := 6) sc_states_behind.nd rfl (Or.inl rfl)) (pss_one (ps_for PassesOwn.never rfl (pi_listK (K := K) rfl (pe_call G_steps_by (hr.mono (by decide)) (by rfl) m_steps_by k_steps_by b_steps_by .nil pass0 (pa_cons (pv 0) (pa_cons (pv 6) (pa_cons (pv 5) pa_nil))))) (pg_name (i := 7) sc_states_behind.nd rfl (Or.inl rfl)) (pss_one (ps_if (pt_cmp (pc_dnotin hu (pv 7) (pv 3))) (pss_cons (ps_dput hu (pv 3) (pv 7) pe_bl rfl) (pss_one (ps_expr (pe_bm PySem.F.plainAttrs_list PySem.F.slot_list_append PySem.F.type_list_append mt_append (pv 4) (pa_cons (pv 7) pa_nil))))) pss_nil)))))))) (pss_one (ps_ret (pv 3))))), ?_⟩
  refine fun dk hd0 => ⟨_, rfl, by show 1 ≤ sizeLine; decide, fun p hp0 => ⟨_, _, rfl, ?_⟩⟩
  have ne : dk ≠ p := fun z => by
    rw [← z, upd_same] at hp0
    cases hp0
  have h0p : H p = none := by
    rw [upd_ne ne.symm] at hp0
    exact hp0
  have e0 : Ex H (upd (upd H dk (.dT [])) p (.lst [x_state])) := (Ex.new hd0).trans (Ex.new hp0)
  have hst : State n st.length st := ⟨rfl, hi⟩
  have m0 : SeeInv K B H p dk ([], [st]) B (upd (upd H dk (.dT [])) p (.lst [x_state])) := ⟨.up le e0, ne, fresh_back le h0p, fresh_back le hd0, [x_state], [], upd_same, by rw [upd_ne ne]; exact upd_same, .one r_state, rfl⟩
  refine q_while (fun mm σ' H' => ∃ (f : Nat) (s : Seen) (Bi : Hp) (v5 v6 v7 : Option V), σ' = [some x_size, some x_patterns, some x_state, some (.ref dk), some (.ref p), v5, v6, v7] ∧ mm = f ∧ f ≤ 28 ∧ f + s.1.length = s.2.length + 27 ∧ behindLoop n ps f s = statesBehind n ps st ∧ SeenOk n st.length s ∧ SeeInv K B H p dk s Bi H')
    28 ⟨28, ([], [st]), B, none, none, none, rfl, rfl, Nat.le_refl _, rfl, rfl, ⟨.nil, (fun x hx => by cases hx), (fun x hx => by rw [List.mem_singleton.mp hx]; exact hst)⟩, m0⟩ ?_
  rintro mm σ' H' ⟨f2, s, Bi, v5, v6, v7, rfl, rfl, hf28, hbal, hloop, hok, mi⟩
  obtain ⟨acc, kvs, hP, hD, racc, hk⟩ := mi.ex
  have hsh := hok.short hn.le hl
  refine ⟨!(s.2.map dT).isEmpty, et_test (ev_neE (gv_var rfl (.lst hP (racc.mono mi.at_.le))) (shp_dTs s.2).ok), fun hb H1 e1 => ?_, fun hb H1 e1 => ?_⟩
  · have hne : s.2 ≠ [] := fun z => by
      rw [z] at hb
      cases hb
    have hpos : 0 < s.2.length := List.length_pos_iff.mpr hne
    obtain ⟨f3, rfl⟩ : ∃ f3, mm = f3 + 1 := ⟨mm - 1, by omega⟩
    refine ⟨fun σ2 H2 => ∃ m', m' < f3 + 1 ∧ ∃ (f : Nat) (s : Seen) (Bi : Hp) (v5 v6 v7 : Option V), σ2 = [some x_size, some x_patterns, some x_state, some (.ref dk), some (.ref p), v5, v6, v7] ∧ m' = f ∧ f ≤ 28 ∧ f + s.1.length = s.2.length + 27 ∧ behindLoop n ps f s = statesBehind n ps st ∧ SeenOk n st.length s ∧ SeeInv K B H p dk s Bi H2, fun σ2 H2 h => h, ?_⟩
    have mi1 := mi.up e1
    have hP1 := e1 _ _ hP
    have hD1 := e1 _ _ hD
    -- here = left.pop()
    have hlast := List.getLast?_eq_some_getLast hne
    obtain ⟨y, hy, ry⟩ := racc.get (i := s.2.length - 1) (d := dT (s.2.getLast hne)) (by
      rw [List.getElem?_map, ← List.getLast?_eq_getElem?, hlast]
      rfl)
    have hal : acc.length = s.2.length := by rw [racc.len, List.length_map]
    refine ⟨_, rfl, Or.inl ⟨rfl, acc, sq_of hP1⟩, p, acc, y, rfl, rfl, hP1, by rw [hal]; exact hy, ?_⟩
    have hh := hok.left _ (List.getLast_mem hne)
    have hto : behindTurn n ps s = ps.foldl (behindOne n (s.2.getLast hne)) (s.1, s.2.dropLast) := by
      unfold behindTurn
      rw [hlast]
      rfl
    obtain ⟨hok2, hbal2⟩ := turn_ok (ps := ps) hok hne
    have hok0 : SeenOk n st.length (s.1, s.2.dropLast) := ⟨hok.nd, hok.known, fun x hx => hok.left x (List.dropLast_subset _ hx)⟩
    have hl0 : (s.1, s.2.dropLast).2.length ≤ 28 := by
      show s.2.dropLast.length ≤ 28
      rw [List.length_dropLast]
      omega
    have hb0 : (s.1, s.2.dropLast).2.length ≤ (s.1, s.2.dropLast).1.length + 1 := by
      show s.2.dropLast.length ≤ s.1.length + 1
      rw [List.length_dropLast]
      omega
    have m2 : SeeInv K B H p dk (s.1, s.2.dropLast) Bi (upd H1 p (.lst acc.dropLast)) := ⟨mi1.at_.mut mi.nL h0p, ne, mi.nL, mi.nD, acc.dropLast, kvs, upd_same, by rw [upd_ne ne]; exact hD1, by
      have := racc.take (s.2.length - 1)
      rw [← List.map_take, ← List.dropLast_eq_take, ← hal, ← List.dropLast_eq_take] at this
      exact this, hk⟩
    generalize s.2.getLast hne = here at ry hh hto
    have hstep : behindLoop n ps (f3 + 1) s = behindLoop n ps f3 (behindTurn n ps s) := if_neg hne
    rw [hstep, hto] at hloop
    rw [hto] at hok2 hbal2
    clear hstep hto hlast
    generalize (s.1, s.2.dropLast) = s0 at hok0 hl0 hb0 m2 hloop hok2 hbal2
    refine sd_forL m2.at_.le (gv_var rfl (r_patterns.mono m2.at_.base)) fun a xs B3 H3 a3 hxs rxs => ?_
    refine ⟨fun i σ' H' => ∃ Bj w6 w7, σ' = [some x_size, some x_patterns, some x_state, some (.ref dk), some (.ref p), some y, w6, w7] ∧ Ex B3 Bj ∧ SeeInv K B H p dk ((ps.take i).foldl (behindOne n here) s0) Bj H',
      ⟨B3, v6, v7, rfl, Ex.refl _, m2.step a3⟩, fun i σ' H' ⟨Bj, _, _, _, e, m⟩ => e.trans m.at_.le, ?_, ?_⟩
    · rintro i x d σ' H' hx hd rx ⟨Bj, w6, w7, rfl, e2, m⟩
      obtain ⟨hit, rfl⟩ := dM_at [] hd
      have ef := fold_take (f := behindOne n here) (b := s0) [] hit
      obtain ⟨ok3, sh3, lf3⟩ := behind_all (ps := ps) hn.le hl hh.len hok0 hl0 hb0 i
      generalize (ps.take i).foldl (behindOne n here) s0 = cur at ef ok3 sh3 lf3 m
      have hpat := hp.get hit
      generalize ps.getD i [] = pat at ef rx hpat
      refine sd_forL m.at_.le (gv_call (ga_cons (gv_var rfl (r_size.mono m.at_.base)) (ga_cons (gv_var rfl (rx.mono e2)) (ga_cons (gv_var rfl (ry.mono (a3.base.trans e2))) ga_nil))) ⟨n, pat, here, rfl, rfl, hn.le, by rw [hh.len]; exact hl, fun j hj => by rw [hpat.len]; exact hh.lt j hj⟩) fun a' xs' B4 H4 a4 hxs' rxs' => ?_
      refine ⟨fun j σ'' H'' => ∃ Bk w7, σ'' = [some x_size, some x_patterns, some x_state, some (.ref dk), some (.ref p), some y, some x, w7] ∧ Ex B4 Bk ∧ SeeInv K B H p dk (((stepsBy n pat here).take j).foldl visit cur) Bk H'',
        ⟨B4, w7, rfl, Ex.refl _, m.step a4⟩, fun j σ'' H'' ⟨Bk, _, _, e, m⟩ => e.trans m.at_.le, ?_, ?_⟩
      · rintro j z d σ'' H'' hz hd2 rz ⟨Bk, w7, rfl, e3, m3⟩
        obtain ⟨hj, rfl⟩ := dM_at [] hd2
        have eg := fold_take (f := visit) (b := cur) [] hj
        obtain ⟨ok4, bal4⟩ := visits_ok (l := (stepsBy n pat here).take j) ok3 fun x hx => by
          rw [← hh.len]
          exact stepsBy_state x (List.take_subset _ _ hx)
        have sh4 := ok4.short hn.le hl
        unfold Bal at bal4
        refine see_body h0p hd0 m3 (by omega) (by omega) rfl rfl rfl (rz.mono e3) fun Bl H5 e5 m5 => ?_
        rw [← eg] at m5
        exact ⟨Bl, some z, rfl, e3.trans e5, m5⟩
      · rintro σ'' H'' ⟨Bk, w7, rfl, e3, m3⟩
        rw [List.length_map, List.take_length] at m3
        refine ⟨Bk, some x, w7, rfl, (e2.trans a4.base).trans e3, ?_⟩
        rw [ef]
        exact m3
    · rintro σ' H' ⟨Bj, w6, w7, rfl, e2, m⟩
      rw [List.length_map, List.take_length] at m
      exact ⟨f3, Nat.lt_succ_self _, f3, _, Bj, _, _, _, rfl, rfl, by omega, by omega, hloop, hok2, m⟩
  · have hnil : s.2 = [] := by
      cases h2 : s.2 with
      | nil => rfl
      | cons x r =>
        rw [h2] at hb
        cases hb
    have hend : behindLoop n ps mm s = s.1 := by
      cases mm with
      | zero => rfl
      | succ k => exact if_pos hnil
    rw [hend] at hloop
    rw [hloop] at hk
    have mi1 := mi.up e1
    have hD1 := e1 _ _ hD
    exact ⟨_, rfl, q _ _ _ (mi1.at_.freeze mi1.nD hd0 hD1) (.ofDic upd_same hk)⟩
end
end Mw
end
section
set_option Elab.async false
set_option linter.all false
set_option maxRecDepth 100000
set_option maxHeartbeats 4000000
/-! # A loop over the keys of a dict that an expression gives: locked while the loop runs -/
namespace Mw
open PySem PySem.Spec PyProof.Rows L2 Evl
def NoFrz (H0 : Hp) (d : Addr) : Prop := ∀ o' u', H0 d ≠ some (.frz o' u')
def iKeysL (H0 : Hp) (td : TE) : TI := fun σ H R => td σ H fun x H1 => ∃ d kvs, x = .ref d ∧ H1 d = some (.dT kvs) ∧ (NoFrz H0 d → ∀ od, R (Itkt d od kvs) (upd H1 d (.frz od (.dT kvs))))
theorem pi_keysL {X : Cx} {tg e : Expr} {td : TE} (he : PE X e td) : PI X tg e (iKeysL X.H_0 td) := by
  refine ⟨fun pins s σ H R I h => ?_⟩
  refine thn (he.run pins s σ H _ I h) fun u s1 ⟨x, H1, I0, rx, d, kvs, ex, hd0, q0⟩ => ?_
  subst ex
  obtain rfl : u = Value.ref d := rx
  have mu : Mut (some (HO.dT kvs)) := trivial
  obtain ⟨o, I1⟩ := I0.lock hd0 mu
  have q := q0 (I0.nofrz hd0 mu) o
  have hd : upd H1 d (.frz o (.dT kvs)) d = some (.frz o (.dT kvs)) := upd_same
  obtain ⟨hs, hgd, hx, es, ep, hdt, hsz, ent⟩ := I1.frzT hd
  refine iter_keys hs hgd hx hdt (pi_one (tk := s1.toks) I1 _ (turn_keysT _ hdt) ⟨_, Heap.get?_push_size _ rfl, rfl, ?_⟩ q)
  rw [hsz] <;> rfl
/-- at the end the dict at d is unlocked -/
def UnL (H0 : Hp) (Q : Hp → Prop) (H' : Hp) : Prop := ∃ d od kvs, H' d = some (.frz od (.dT kvs)) ∧ NoFrz H0 d ∧ Q (upd H' d (.dT kvs))
def tForK (H0 : Hp) (td : TE) (g : TG) (tb : TS) : TS := fun D σ H => tFor (iKeysL H0 td) g tb ⟨fun σ' => UnL H0 (D.nx σ'), fun v => UnL H0 (D.rt v), fun σ' => UnL H0 (D.bk σ'), fun σ' => UnL H0 (D.ct σ')⟩ σ H
theorem ps_forKeys {X : Cx} {tg e : Expr} {td : TE} {g : TG} {tb : TS} {body : List Stmt} {pos : Pos} (hp : PassesOwn (model X.prog X.w) X.A X.env X.xe) (hc : X.calm = true) (he : PE X e td) (hg : PG X tg g) (hb : PSs X body tb)
    (hs : ∀ x, foldedSetIterable e X.env x = pure x := by intro _; rfl) : PS X (.For tg e body [] pos) (tForK X.H_0 td g tb) := by
  have h0 := ps_for (pos := pos) hp hc (pi_keysL (tg := tg) he) hg hb hs
  refine ⟨fun pins s σ H D I hw => ?_⟩
  refine thn (h0.run pins s σ H _ I hw) fun f s1 q => ?_
  cases f with
  | next => obtain ⟨σ', H', I2, d, od, kvs, e, n, q⟩ := q; exact ⟨σ', _, I2.unlock e n, q⟩
  | brk => obtain ⟨σ', H', I2, d, od, kvs, e, n, q⟩ := q; exact ⟨σ', _, I2.unlock e n, q⟩
  | cont => obtain ⟨σ', H', I2, d, od, kvs, e, n, q⟩ := q; exact ⟨σ', _, I2.unlock e n, q⟩
  | ret v => obtain ⟨x, σ', H', I2, r, d, od, kvs, e, n, q⟩ := q; exact ⟨x, σ', _, I2.unlock e n, r, q⟩
mutual
/-- no dict within -/
def noDic : PyData → Bool
  | .dict _ => false
  | .list ds => noDics ds
  | .tuple ds => noDics ds
  | _ => true
def noDics : List PyData → Bool
  | [] => true
  | d :: ds => noDic d && noDics ds
end
section
variable {K : Frg} {B : Hp} {p : Addr} {kvs : List (List Key × V)}
mutual
theorem Rp.rem (e : B p = some (.dT kvs)) : ∀ (d : PyData) (v : V), noDic d = true → Rp K B v d → Rp K (rem B p) v d
  | .none, _, _, h => by
    cases h
    exact .non
  | .bool b, _, _, h => by
    cases h
    exact .bl b
  | .int i, _, _, h => by
    cases h
    exact .int i
  | .str s, _, _, h => by cases h
  | .list ds, _, c, h => by
    cases h with
    | @lst a xs _ ha b => exact .lst (by rw [rem_ne (fun z => by rw [z, e] at ha; cases ha)]; exact ha) (RpAll.rem e ds _ c b)
  | .tuple ds, _, c, h => by
    cases h with
    | @tup a xs _ ha b => exact .tup (by rw [rem_ne (fun z => by rw [z, e] at ha; cases ha)]; exact ha) (RpAll.rem e ds _ c b)
  | .dict ks, _, c, h => by cases c
theorem RpAll.rem (e : B p = some (.dT kvs)) : ∀ (ds : List PyData) (vs : List V), noDics ds = true → RpAll K B vs ds → RpAll K (rem B p) vs ds
  | [], _, _, h => by
    cases h
    exact .nil
  | d :: ds, _, c, h => by
    cases h with
    | cons a t =>
      have c2 : (noDic d && noDics ds) = true := c
      rw [Bool.and_eq_true] at c2
      exact .cons (Rp.rem e d _ c2.1 a) (RpAll.rem e ds _ c2.2 t)
end
theorem noDics_of : ∀ {ds : List PyData}, (∀ d ∈ ds, noDic d = true) → noDics ds = true
  | [], _ => rfl
  | d :: r, h => by
    show (noDic d && noDics r) = true
    rw [h d (List.mem_cons_self ..), noDics_of fun x hx => h x (List.mem_cons_of_mem _ hx)]
    rfl
theorem noDic_dT (l : List Nat) : noDic (dT l) = true := noDics_of fun d hd => by
  obtain ⟨i, _, rfl⟩ := List.mem_map.mp hd
  rfl
theorem noDic_dTs (l : List (List Nat)) : noDic (dTs l) = true := noDics_of fun d hd => by
  obtain ⟨i, _, rfl⟩ := List.mem_map.mp hd
  exact noDic_dT i
/-- for x in e, e a dict of states; the body writes names alone -/
theorem qd_forK {H0 H : Hp} {td : TE} {g : TG} {tu tz : TS} {D : Ends} {σ : L2.St} {ls : List (List Nat)} (le : Ex B H) (h : Gv K td σ B (dDic ls))
    (k : ∀ B2 H2, Ex B2 H2 → (∀ v d, noDic d = true → Rp K B v d → Rp K B2 v d) → ∃ Pv : Nat → L2.St → Prop, Pv 0 σ ∧
      (∀ i σ' H' x (D' : Ends), i < ls.length → Ex H2 H' → Rp K H' x (dT (ls.getD i [])) → Pv i σ' → (∀ σ2 H3, Ex H' H3 → Pv (i + 1) σ2 → D'.nx σ2 H3) → (∀ v H3, Ex H' H3 → (∀ H4, Ex H H4 → D.rt v H4) → D'.rt v H3) → g x σ' H' fun σ2 H3 => tu D' σ2 H3) ∧
      ∀ σ' H', Ex H H' → Pv ls.length σ' → tz D σ' H') : tSeq (tForK H0 td g tu) tz D σ H := h H le _ fun v B1 H1 a1 r1 => by
  obtain ⟨d, kvs, rfl, hd, hk⟩ := r1.isDic
  have hd1 := a1.le _ _ hd
  refine ⟨d, kvs, rfl, hd1, fun nf od => ?_⟩
  have le2 : Ex (rem B1 d) (upd H1 d (.frz od (.dT kvs))) := fun x u e => by
    by_cases c : x = d
    · rw [c, rem_at] at e
      cases e
    · rw [rem_ne c] at e
      rw [upd_ne c]
      exact a1.le x u e
  obtain ⟨Pv, p0, ps, pd⟩ := k _ _ le2 fun v dd c r => Rp.rem hd dd v c (r.mono a1.base)
  have back : ∀ {H' : Hp}, Ex (upd H1 d (.frz od (.dT kvs))) H' → H' d = some (.frz od (.dT kvs)) ∧ Ex H (upd H' d (.dT kvs)) := fun {H'} e => ⟨e _ _ upd_same, fun x u hx => by
    by_cases c : x = d
    · rw [c] at hx ⊢
      have h2 := a1.keep _ _ hx
      rw [hd1] at h2
      rw [upd_same]
      exact h2
    · rw [upd_ne c]
      exact e x u (by rw [upd_ne c]; exact a1.keep x u hx)⟩
  have hlen := hk.len
  refine ⟨fun i m σ' H' => m = kvs.length - i ∧ i ≤ kvs.length ∧ Ex (upd H1 d (.frz od (.dT kvs))) H' ∧ Pv i σ', ⟨kvs.length, by simp, Nat.zero_le _, Ex.refl _, p0⟩, ?_⟩
  rintro i m σ' H' ⟨rfl, hi, e, p⟩
  obtain ⟨hf, hb⟩ := back e
  by_cases hlt : i < kvs.length
  · refine .inr ⟨⟨hf, hlt⟩, fun σ2 H2 => Ex (upd H1 d (.frz od (.dT kvs))) H2 ∧ Pv (i + 1) σ2, fun σ2 H2 ⟨e2, p2⟩ => ⟨kvs.length - (i + 1), by omega, rfl, hlt, e2, p2⟩, fun x H2 y => ?_⟩
    obtain ⟨eH, key, v2, q, hkv, rfl, hq⟩ := y
    rw [eH]
    refine ps i σ' H' (.ref q) ⟨fun σ2 H2 => Ex (upd H1 d (.frz od (.dT kvs))) H2 ∧ Pv (i + 1) σ2, fun v => UnL H0 (D.rt v), fun σ' => UnL H0 (tz D σ'), fun σ2 H2 => Ex (upd H1 d (.frz od (.dT kvs))) H2 ∧ Pv (i + 1) σ2⟩ (by rw [← hlen]; exact hlt) e ?_ p (fun σ2 H3 e3 p3 => ⟨e.trans e3, p3⟩) (fun v H3 e3 q3 => ⟨d, od, kvs, (back (e.trans e3)).1, nf, q3 _ (back (e.trans e3)).2⟩)
    have hkey : key = kk (ls.getD i []) := by
      have h1 : (kvs.map Prod.fst)[i]? = some key := by rw [List.getElem?_map, hkv]; rfl
      rw [hk, List.getElem?_map] at h1
      rw [List.getD_eq_getElem?_getD]
      cases h2 : ls[i]? with
      | none => rw [h2] at h1; cases h1
      | some l =>
        rw [h2] at h1
        exact (Option.some.inj h1).symm
    rw [hkey, kk_kV] at hq
    exact .tup hq (RpAll.ints _)
  · have e1 : i = kvs.length := by omega
    subst e1
    rw [hlen] at p
    exact .inl ⟨⟨hf, Nat.le_refl _⟩, d, od, kvs, hf, nf, pd σ' _ hb p⟩
end
end Mw
end
section
set_option Elab.async false
set_option linter.all false
set_option maxRecDepth 100000
set_option maxHeartbeats 4000000
/-! # Walks: growth, the first half -/
namespace Mw
open PySem PySem.Spec PyProof.Rows L2 Evl
section
variable {P : Program} {w : World} {K : Frg} {mg : Str → Option Value} {base : Heap}
def dTab (t : List (List (List Nat))) : PyData := .list (t.map dDic)
section
variable {σ : L2.St} {B H : Hp} {ty td tl : TE} {D : Ends} {t : TT}
theorem any_no {α : Type} {l : List α} (z : α) {p : α → Bool} (hno : ∀ k, k < l.length → p (l.getD k z) = false) : l.any p = false := List.any_eq_false.mpr fun y hy hp => by
  obtain ⟨k, hk, rfl⟩ := List.mem_iff_getElem.mp hy
  have := hno k hk
  rw [List.getD_eq_getElem?_getD, List.getElem?_eq_getElem hk] at this
  rw [show p l[k] = false from this] at hp
  cases hp
theorem ev_dinG {ls : List (List Nat)} {l : List Nat} (hy : Gv K ty σ B (dT l)) (hd : Gv K td σ B (dDic ls)) : Ev (tDIn ty td) σ B (.bl (ls.contains l)) := fun H le Q q => by
  refine hy H le _ fun v B1 H1 a1 r1 => (hd.mono a1.base) H1 a1.le _ fun u B2 H2 a2 r2 => ?_
  obtain ⟨b, rfl, hb⟩ := r1.isKey
  obtain ⟨dk, kvs, rfl, hk, ho⟩ := r2.isDic
  refine ⟨dk, _, rfl, DGet.t (a2.le _ _ hk) (a2.le _ _ (a2.base _ _ hb)), ?_⟩
  rw [ho.some l, ← List.contains_eq_mem]
  exact q H2 (a1.keep.trans a2.keep)
/-- for x in l: if t: return True; return False -/
theorem any_forL {α : Type} {f : α → PyData} {l : List α} (z : α) {p : α → Bool} {j : Nat} {b : Bool} (le : Ex B H) (h : Gv K tl σ B (.list (l.map f))) (hb : l.any p = b)
    (body : ∀ i x B1, i < l.length → Ex B B1 → Rp K B1 x (f (l.getD i z)) → EvT t (σ.set j (some x)) B1 (p (l.getD i z)))
    (q : ∀ H', Ex H H' → D.rt (.bl b) H') : tSeq (tFor (iList K tl) (gName j) (tIfS t (tRet (tC (.bl true))) tNext)) (tRet (tC (.bl false))) D σ H := by
  refine qd_forL le h fun a xs B1 H1 a1 hxs rxs => ?_
  refine ⟨fun i σ' H' => (σ' = σ ∨ ∃ o, σ' = σ.set j (some o)) ∧ Ex H1 H' ∧ ∀ k, k < i → p (l.getD k z) = false, ⟨.inl rfl, Ex.refl _, fun k hk => absurd hk (Nat.not_lt_zero k)⟩, fun i σ' H' h => a1.le.trans h.2.1, ?_, ?_⟩
  · rintro i x d σ' H' hx hd rx ⟨hσ, e1, hno⟩
    obtain ⟨hi, rfl⟩ := dM_at z hd
    have es : σ'.set j (some x) = σ.set j (some x) := by
      rcases hσ with rfl | ⟨o, rfl⟩
      · rfl
      · exact List.set_set ..
    show tIfS t _ tNext _ (σ'.set j (some x)) H'
    rw [es]
    refine sd_if (a1.le.trans e1) (body i x B1 hi a1.base rx) (fun hb2 H2 e2 => ?_) (fun hb2 H2 e2 => ?_)
    · have e : l.any p = true := List.any_eq_true.mpr ⟨_, getD_mem hi, hb2⟩
      rw [e] at hb
      subst hb
      exact q H2 ((a1.keep.trans e1).trans e2)
    · refine ⟨.inr ⟨x, rfl⟩, e1.trans e2, fun k hk => ?_⟩
      rcases Nat.lt_succ_iff_lt_or_eq.mp hk with h | h
      · exact hno k h
      · rw [h]
        exact hb2
  · rintro σ' H' ⟨_, e1, hno⟩
    rw [List.length_map] at hno
    have e : l.any p = false := any_no z hno
    rw [e] at hb
    subst hb
    exact q H' (a1.keep.trans e1)
theorem any_forR {ta : TA} {n : Nat} {p : Nat → Bool} {j : Nat} {b : Bool} (le : Ex B H) (h : EvA ta σ B [.int (n : Int)]) (hn : n ≤ 1000) (hb : (List.range n).any p = b)
    (body : ∀ i B1, i < n → Ex B B1 → EvT t (σ.set j (some (.int (i : Int)))) B1 (p i))
    (q : ∀ H', Ex H H' → D.rt (.bl b) H') : tSeq (tFor (iRng1 ta) (gName j) (tIfS t (tRet (tC (.bl true))) tNext)) (tRet (tC (.bl false))) D σ H := by
  refine qd_forR le h (by omega) (fun i σ' H' => (σ' = σ ∨ ∃ o, σ' = σ.set j (some o)) ∧ Ex H H' ∧ ∀ k, k < i → p k = false) (fun H1 e1 => ⟨.inl rfl, e1, fun k hk => absurd hk (Nat.not_lt_zero k)⟩) ?_ ?_
  · rintro i σ' H' hi ⟨hσ, e1, hno⟩
    have es : σ'.set j (some (.int (i : Int))) = σ.set j (some (.int (i : Int))) := by
      rcases hσ with rfl | ⟨o, rfl⟩
      · rfl
      · exact List.set_set ..
    rw [es]
    refine sd_if (B := B) (le.trans e1) (body i B hi (Ex.refl _)) (fun hb2 H2 e2 => ?_) (fun hb2 H2 e2 => ?_)
    · have e : (List.range n).any p = true := List.any_eq_true.mpr ⟨_, List.mem_range.mpr hi, hb2⟩
      rw [e] at hb
      subst hb
      exact q H2 (e1.trans e2)
    · refine ⟨.inr ⟨_, rfl⟩, e1.trans e2, fun k hk => ?_⟩
      rcases Nat.lt_succ_iff_lt_or_eq.mp hk with h | h
      · exact hno k h
      · rw [h]
        exact hb2
  · rintro σ' H' ⟨_, e1, hno⟩
    have e : (List.range n).any p = false := List.any_eq_false.mpr fun y hy hp => by
      rw [hno y (List.mem_range.mp hy)] at hp
      cases hp
    rw [e] at hb
    subst hb
    exact q H' e1
end
def F_follow_table (ds : List PyData) (d : PyData) : Prop := ∃ n ps, ds = [dI n, dTs ps] ∧ d = dTab (followTable n ps) ∧ Sz n ∧ Pats n ps ∧ ps.length ≤ 1000
theorem sc_follow_table : FnScope ["size", "patterns", "index"] ["size", "patterns"] MwH.d_follow_table.scope := ⟨rfl, rfl, rfl, by decide +kernel, rfl, by decide +kernel, by decide +kernel⟩
theorem ok_follow_table (T : Txt K mg) : Has P w K mg base 5 "follow_table" ["size", "patterns"] (spD K F_follow_table) := by
  refine has_def (N := ["size", "patterns", "index"]) T 33 rfl rfl rfl rfl rfl sc_follow_table (fun _ _ _ _ _ _ us hl => match us, hl with | [_, _], _ => rfl) (fun ds d h => by obtain ⟨n, ps, rfl, rfl, hn, hp, hl⟩ := h; rfl) fun f cdv A outer s H E hr vs B ds dd Q le r hF q => ?_
  obtain ⟨n, ps, rfl, rfl, hn, hp, hl⟩ := hF
  obtain ⟨x_size, x_patterns, rfl, r_size, r_patterns⟩ := RpAll.n2 r
  obtain ⟨f_states_behind, fd_states_behind, m_states_behind, k_states_behind, b_states_behind, G_states_behind⟩ := ok_states_behind (P := P) (w := w) (base := base) T
  refine ⟨_, (pss_one (ps_ret (pe_lc (own := [("index", 2)]) rfl sc_follow_table.nd (pi_range1 (by rfl) (T.free 133 rfl) (pa_cons (pv 0) pa_nil)) (blkOk_by (own := [("index", 2)]) (N := ["size", "patterns", "index"]) (sc := MwH.d_follow_table.scope) (by decide +kernel)) (fun _ _ _ _ _ => (pg_name (i := 2) sc_follow_table.nd rfl (Or.inl rfl))) (fun _ _ _ _ _ => pts_nil) (fun _ _ _ _ _ => (pe_call G_states_behind (hr.mono (by decide)) (by rfl) m_states_behind k_states_behind b_states_behind .nil pass0 (pa_cons (pv 0) (pa_cons (pv 1) (pa_cons (pe_tup (pa_cons (pv 2) pa_nil)) pa_nil)))))))), ?_⟩
  have h3 := hn.le
  refine qd_ret le (Gv.is (gv_lcR (n := n) (fun _ => true) (fun i => dDic (statesBehind n ps [i])) (ea_cons (ev_v rfl r_size) ea_nil) (by omega) fun i B1 e1 hi => turn_name (fun _ => rfl) et_true fun _ => ?_) ?_) q
  · exact gv_call (ga_cons (gv_var rfl (r_size.mono e1)) (ga_cons (gv_var rfl (r_patterns.mono e1)) (ga_cons (gv_tup (ga_int (ev_var rfl) ga_nil) (by show 1 ≤ 100000; omega)) ga_nil))) ⟨n, ps, [i], rfl, rfl, hn, hp, hl, by show 1 ≤ 3; omega, fun j hj => by rw [List.mem_singleton.mp hj]; exact hi⟩
  · rw [gvn_all]
    unfold dTab followTable
    rw [List.map_map]
    rfl
def F_is_or_follows (ds : List PyData) (d : PyData) : Prop := ∃ t i j, ds = [dTab t, dI i, dI j] ∧ d = .bool (isOrFollows t i j) ∧ i < t.length
theorem sc_is_or_follows : FnScope ["table", "index", "other"] ["table", "index", "other"] MwH.d_is_or_follows.scope := ⟨rfl, rfl, rfl, by decide +kernel, rfl, by decide +kernel, by decide +kernel⟩
theorem ok_is_or_follows (T : Txt K mg) : Has P w K mg base 1 "is_or_follows" ["table", "index", "other"] (spD K F_is_or_follows) := by
  refine has_def (N := ["table", "index", "other"]) T 34 rfl rfl rfl rfl rfl sc_is_or_follows (fun _ _ _ _ _ _ us hl => match us, hl with | [_, _, _], _ => rfl) (fun ds d h => by obtain ⟨t, i, j, rfl, rfl, hi⟩ := h; rfl) fun f cdv A outer s H E hr vs B ds dd Q le r hF q => ?_
  obtain ⟨t, i, j, rfl, rfl, hi⟩ := hF
  obtain ⟨x_table, x_index, x_other, rfl, r_table, r_index, r_other⟩ := RpAll.n3 r
  have hu := hu_of hr
  have hu64 := hr.units
  have hu65 := hu65_of hr
  refine ⟨_, (pss_one (ps_ret (pe_or (pe_cmpR op_eq (pv 1) (pv 2) (nomark _)) (pe_one (pe_cmp (pc_din hu (pe_tup (pa_cons (pv 2) pa_nil)) (pe_ix (ix_listK (K := K) rfl) (pv 0) (pv 1) (fun _ _ => rfl))) rfl))))), ?_⟩
  refine qd_ret le (Gv.is (.bl (ev_orV (ev_eq (ev_v rfl r_index) (ev_v rfl r_other)) fun _ => ev_dinG (gv_tup (ga_cons (gv_var rfl r_other) ga_nil) (by show 1 ≤ 100000; omega)) (gv_at (f := dDic) [] (gv_var rfl r_table) (ev_v rfl r_index) hi))) rfl) q
def F_parts_and_meets (ds : List PyData) (d : PyData) : Prop := ∃ n ps i, ds = [dI n, dTs ps, dI i] ∧ d = .bool (partsAndMeets n ps i) ∧ Sz n ∧ Pats n ps ∧ ps.length ≤ 1000 ∧ i < n
theorem behind_loop_ok {n k : Nat} {ps : List (List Nat)} : ∀ (f : Nat) {s : Seen}, SeenOk n k s → ∀ x ∈ behindLoop n ps f s, State n k x
  | 0, s, h => h.known
  | f + 1, s, h => by
    show ∀ x ∈ (if s.2 = [] then s.1 else behindLoop n ps f (behindTurn n ps s)), State n k x
    split
    · exact h.known
    · rename_i c
      exact behind_loop_ok f (turn_ok h c).1
theorem behind_state {n : Nat} {ps : List (List Nat)} {st : List Nat} (h : ∀ i ∈ st, i < n) : ∀ x ∈ statesBehind n ps st, State n st.length x :=
  behind_loop_ok 28 ⟨.nil, (fun x hx => by cases hx), (fun x hx => by rw [List.mem_singleton.mp hx]; exact ⟨rfl, h⟩)⟩
theorem mem2 {i j n : Nat} (hi : i < n) (hj : j < n) : ∀ x ∈ [i, j], x < n := fun x hx => by
  rcases List.mem_cons.mp hx with e | e
  · rw [e]
    exact hi
  · rw [List.mem_singleton.mp e]
    exact hj
theorem sc_parts_and_meets : FnScope ["size", "patterns", "index", "state"] ["size", "patterns", "index"] MwH.d_parts_and_meets.scope := ⟨rfl, rfl, rfl, by decide +kernel, rfl, by decide +kernel, by decide +kernel⟩
theorem ok_parts_and_meets (T : Txt K mg) : Has P w K mg base 5 "parts_and_meets" ["size", "patterns", "index"] (spD K F_parts_and_meets) := by
  refine has_def (N := ["size", "patterns", "index", "state"]) T 35 rfl rfl rfl rfl rfl sc_parts_and_meets (fun _ _ _ _ _ _ us hl => match us, hl with | [_, _, _], _ => rfl) (fun ds d h => by obtain ⟨n, ps, i, rfl, rfl, hn, hp, hl, hi⟩ := h; rfl) fun f cdv A outer s H E hr vs B ds dd Q le r hF q => ?_
  obtain ⟨n, ps, i, rfl, rfl, hn, hp, hl, hi⟩ := hF
  obtain ⟨x_size, x_patterns, x_index, rfl, r_size, r_patterns, r_index⟩ := RpAll.n3 r
  obtain ⟨f_states_behind, fd_states_behind, m_states_behind, k_states_behind, b_states_behind, G_states_behind⟩ := ok_states_behind (P := P) (w := w) (base := base) T
  have hu := hu_of hr
  have hu64 := hr.units
  have hu65 := hu65_of hr
  refine ⟨_, (pss_cons (ps_forKeys PassesOwn.never rfl (pe_call G_states_behind (hr.mono (by decide)) (by rfl) m_states_behind k_states_behind b_states_behind .nil pass0 (pa_cons (pv 0) (pa_cons (pv 1) (pa_cons (pe_tup (pa_cons (pv 2) (pa_cons (pv 2) pa_nil))) pa_nil)))) (pg_name (i := 3) sc_parts_and_meets.nd rfl (Or.inl rfl)) (pss_one (ps_if (PW.pt (pw_and (pt_cmpR op_ne (pe_ix (ix_tupK (K := K) rfl) (pv 3) pe_int (fun _ _ => rfl)) (pe_ix (ix_tupK (K := K) rfl) (pv 3) pe_int (fun _ _ => rfl)) (nomark _)) (pw_and1 (pt_cmp (pc_din hu (pe_tup (pa_cons (pv 2) (pa_cons (pv 2) pa_nil))) (pe_call G_states_behind (hr.mono (by decide)) (by rfl) m_states_behind k_states_behind b_states_behind .nil pass0 (pa_cons (pv 0) (pa_cons (pv 1) (pa_cons (pv 3) pa_nil))))))))) (pss_one (ps_ret pe_bl)) pss_nil))) (pss_one (ps_ret pe_bl))), ?_⟩
  have hst := behind_state (ps := ps) (mem2 hi hi)
  refine qd_forK (ls := statesBehind n ps [i, i]) le (gv_call (ga_cons (gv_var rfl r_size) (ga_cons (gv_var rfl r_patterns) (ga_cons (gv_tup (ga_cons (gv_var rfl r_index) (ga_cons (gv_var rfl r_index) ga_nil)) (by show 2 ≤ 100000; omega)) ga_nil))) ⟨n, ps, [i, i], rfl, rfl, hn, hp, hl, by show 2 ≤ 3; omega, mem2 hi hi⟩) fun B2 H2 le2 tr => ?_
  have rs := tr _ _ rfl r_size
  have rp := tr _ _ (noDic_dTs ps) r_patterns
  have ri := tr _ _ rfl r_index
  have key : ∀ k, k < (statesBehind n ps [i, i]).length → ∃ u v, (statesBehind n ps [i, i]).getD k [] = [u, v] ∧ u < n ∧ v < n := fun k hk => by
    have h := hst _ (getD_mem (d := []) hk)
    obtain ⟨u, v, e⟩ := len2 h.len
    rw [e] at h
    exact ⟨u, v, e, h.lt u (by simp), h.lt v (by simp)⟩
  have eany : partsAndMeets n ps i = (statesBehind n ps [i, i]).any fun s => s.getD 0 0 != s.getD 1 0 && (statesBehind n ps s).contains [i, i] := rfl
  generalize statesBehind n ps [i, i] = sb at key eany
  refine ⟨fun k σ' => (∃ o, σ' = [some x_size, some x_patterns, some x_index, o]) ∧ ∀ m, m < k → ((sb.getD m []).getD 0 0 != (sb.getD m []).getD 1 0 && (statesBehind n ps (sb.getD m [])).contains [i, i]) = false, ⟨⟨none, rfl⟩, fun m hm => absurd hm (Nat.not_lt_zero m)⟩, ?_, ?_⟩
  · rintro k σ' H' x D' hk e rx ⟨⟨o, rfl⟩, hno⟩ hnx hrt
    obtain ⟨u, v, euv, hu2, hv2⟩ := key k hk
    have le3 := le2.trans e
    have hb3 : ∀ c, ((sb.getD k []).getD 0 0 != (sb.getD k []).getD 1 0 && (statesBehind n ps (sb.getD k [])).contains [i, i]) = c → ((!decide (u = v)) && (statesBehind n ps [u, v]).contains [i, i]) = c := fun c h => by
      rw [euv] at h
      exact h
    rw [euv] at rx
    refine sd_if (b := (!decide (u = v)) && (statesBehind n ps [u, v]).contains [i, i]) (B := H') (Ex.refl _) ?_ (fun hb H3 e3 => ?_) (fun hb H3 e3 => ?_)
    · refine et_and (et_test (ev_ne (ev_atT (l := [u, v]) (gv_var rfl rx) (ev_n (a := 0)) (by show 0 < 2; omega)) (ev_atT (l := [u, v]) (gv_var rfl rx) (ev_n (a := 1)) (by show 1 < 2; omega)))) fun _ => et_B (ev_dinG (l := [i, i]) (gv_tup (ga_cons (gv_var rfl (ri.mono le3)) (ga_cons (gv_var rfl (ri.mono le3)) ga_nil)) (by show 2 ≤ 100000; omega)) (gv_call (ga_cons (gv_var rfl (rs.mono le3)) (ga_cons (gv_var rfl (rp.mono le3)) (ga_cons (gv_var rfl rx) ga_nil))) ⟨n, ps, [u, v], rfl, rfl, hn, hp, hl, by show 2 ≤ 3; omega, mem2 hu2 hv2⟩))
    · refine hrt _ _ e3 fun H4 e4 => ?_
      have eb : partsAndMeets n ps i = true := by
        rw [eany]
        refine List.any_eq_true.mpr ⟨_, getD_mem (d := []) hk, ?_⟩
        rw [euv]
        exact hb
      rw [eb] at q
      exact q _ _ _ (.up le e4) (.bl true)
    · refine hnx _ _ e3 ⟨⟨some x, rfl⟩, fun m hm => ?_⟩
      rcases Nat.lt_succ_iff_lt_or_eq.mp hm with h | h
      · exact hno m h
      · rw [h, euv]
        exact hb
  · rintro σ' H' e ⟨_, hno⟩
    have eb : partsAndMeets n ps i = false := by
      rw [eany]
      exact any_no [] hno
    rw [eb] at q
    exact q _ _ _ (.up le e) (.bl false)
end
end Mw
end
section
set_option Elab.async false
set_option linter.all false
set_option maxRecDepth 100000
set_option maxHeartbeats 4000000
/-! # Walks: growth, the second half -/
namespace Mw
open PySem PySem.Spec PyProof.Rows L2 Evl
section
variable {P : Program} {w : World} {K : Frg} {mg : Str → Option Value} {base : Heap}
def doublesIn (n : Nat) (t : List (List (List Nat))) (i : Nat) (e : List Nat) (p : Nat) : Bool := decide (1 < e.getD p 0) && (isOrFollows t i (p / n) && isOrFollows t (p % n) i)
def F_doubles_on_way (ds : List PyData) (d : PyData) : Prop := ∃ n ms t i, ds = [dI n, dM ms, dTab t, dI i] ∧ d = .bool (doublesOnWay n ms t i) ∧ Sz n ∧ Ms n ms ∧ t.length = n ∧ i < n
theorem sc_doubles_on_way : FnScope ["size", "matrices", "table", "index", "entries", "place", "entry", "row", "column"] ["size", "matrices", "table", "index"] MwH.d_doubles_on_way.scope := ⟨rfl, rfl, rfl, by decide +kernel, rfl, by decide +kernel, by decide +kernel⟩
theorem ok_doubles_on_way (T : Txt K mg) : Has P w K mg base 2 "doubles_on_way" ["size", "matrices", "table", "index"] (spD K F_doubles_on_way) := by
  refine has_def (N := ["size", "matrices", "table", "index", "entries", "place", "entry", "row", "column"]) T 36 rfl rfl rfl rfl rfl sc_doubles_on_way (fun _ _ _ _ _ _ us hl => match us, hl with | [_, _, _, _], _ => rfl) (fun ds d h => by obtain ⟨n, ms, t, i, rfl, rfl, hn, hm, ht, hi⟩ := h; rfl) fun f cdv A outer s H E hr vs B ds dd Q le r hF q => ?_
  obtain ⟨n, ms, t, i, rfl, rfl, hn, hm, ht, hi⟩ := hF
  obtain ⟨x_size, x_matrices, x_table, x_index, rfl, r_size, r_matrices, r_table, r_index⟩ := RpAll.n4 r
  obtain ⟨f_is_or_follows, fd_is_or_follows, m_is_or_follows, k_is_or_follows, b_is_or_follows, G_is_or_follows⟩ := ok_is_or_follows (P := P) (w := w) (base := base) T
  refine ⟨_, (pss_cons (ps_for PassesOwn.never rfl (pi_listK (K := K) rfl (pv 1)) (pg_name (i := 4) sc_doubles_on_way.nd rfl (Or.inl rfl)) (pss_one (ps_for PassesOwn.never rfl (pi_enumK (K := K) rfl (by rfl) (T.free 135 rfl) (pa_cons (pv 4) pa_nil)) (pg_tupK (K := K) (n := 2) rfl rfl (pgs_cons (pg_name (i := 5) sc_doubles_on_way.nd rfl (Or.inl rfl)) (pgs_cons (pg_name (i := 6) sc_doubles_on_way.nd rfl (Or.inl rfl)) pgs_nil))) (pss_cons (ps_par (i := 7) (j := 8) rfl sc_doubles_on_way.nd rfl rfl (by decide) rfl rfl (pa_cons (pe_op op_fdiv (pv 5) (pv 0)) (pa_cons (pe_op op_mod (pv 5) (pv 0)) pa_nil)) (by rfl)) (pss_one (ps_if (PW.pt (pw_and (pt_cmpR op_gt (pv 6) pe_int (nomark _)) (pw_and (pt_val (pe_call G_is_or_follows (hr.mono (by decide)) (by rfl) m_is_or_follows k_is_or_follows b_is_or_follows .nil pass0 (pa_cons (pv 2) (pa_cons (pv 3) (pa_cons (pv 7) pa_nil))))) (pw_and1 (pt_val (pe_call G_is_or_follows (hr.mono (by decide)) (by rfl) m_is_or_follows k_is_or_follows b_is_or_follows .nil pass0 (pa_cons (pv 2) (pa_cons (pv 8) (pa_cons (pv 3) pa_nil))))))))) (pss_one (ps_ret pe_bl)) pss_nil)))))) (pss_one (ps_ret pe_bl))), ?_⟩
  have h3 := hn.le
  have hn0 := hn.pos
  have eany : doublesOnWay n ms t i = ms.any fun e => (List.range e.length).any (doublesIn n t i e) := rfl
  refine qd_forL le (gv_var rfl r_matrices) fun a xs B1 H1 a1 hxs rxs => ?_
  refine ⟨fun k σ' H' => (∃ v4 v5 v6 v7 v8, σ' = [some x_size, some x_matrices, some x_table, some x_index, v4, v5, v6, v7, v8]) ∧ Ex H1 H' ∧ ∀ m, m < k → (List.range (ms.getD m []).length).any (doublesIn n t i (ms.getD m [])) = false,
    ⟨⟨none, none, none, none, none, rfl⟩, Ex.refl _, fun m hm => absurd hm (Nat.not_lt_zero m)⟩, fun i σ' H' h => a1.le.trans h.2.1, ?_, ?_⟩
  · rintro k x d σ' H' hx hd rx ⟨⟨v4, v5, v6, v7, v8, rfl⟩, e1, hno⟩
    obtain ⟨hk, rfl⟩ := dM_at [] hd
    have hmk := hm.get hk
    have e2 := a1.le.trans e1
    refine sd_forE e2 (ga_cons (gv_var rfl rx) ga_nil) fun a' xs' B2 H2 a2 hxs' rxs' => ?_
    refine ⟨fun p σ' H' => (∃ w5 w6 w7 w8, σ' = [some x_size, some x_matrices, some x_table, some x_index, some x, w5, w6, w7, w8]) ∧ Ex H2 H' ∧ ∀ m, m < p → doublesIn n t i (ms.getD k []) m = false,
      ⟨⟨v5, v6, v7, v8, rfl⟩, Ex.refl _, fun m hm => absurd hm (Nat.not_lt_zero m)⟩, fun i σ' H' h => a2.le.trans h.2.1, ?_, ?_⟩
    · rintro p y d σ'' H'' hd2 ry ⟨⟨w5, w6, w7, w8, rfl⟩, e3, hno2⟩ H3 eH
      obtain ⟨hp, rfl⟩ := dL_at hd2
      have e4 := (a2.le.trans e3).trans eH
      have eb := a1.base.trans a2.base
      refine qd_par (K := K) (d1 := dI (p / n)) (d2 := dI (p % n)) e4 (ga_int (ev_div hn0 (by omega) (ev_var rfl) (ev_v rfl (r_size.mono eb))) (ga_int (ev_mod hn0 (ev_var rfl) (ev_v rfl (r_size.mono eb))) ga_nil)) fun u1 u2 B4 H4 a4 ru1 ru2 => ?_
      have eb4 := eb.trans a4.base
      refine sd_if (b := doublesIn n t i (ms.getD k []) p) a4.le ?_ (fun hb H5 e5 => ?_) (fun hb H5 e5 => ?_)
      · exact et_and (et_test (ev_gt (ev_v rfl (ry.mono a4.base)) (ev_n (a := 1)))) fun _ => et_and (et_test (gv_callB (ga_cons (gv_var rfl (r_table.mono eb4)) (ga_cons (gv_var rfl (r_index.mono eb4)) (ga_cons (gv_var rfl ru1) ga_nil))) ⟨t, i, p / n, rfl, rfl, by omega⟩)) fun _ =>
          et_test (gv_callB (ga_cons (gv_var rfl (r_table.mono eb4)) (ga_cons (gv_var rfl ru2) (ga_cons (gv_var rfl (r_index.mono eb4)) ga_nil))) ⟨t, p % n, i, rfl, rfl, by rw [ht]; exact Nat.mod_lt _ hn0⟩)
      · have er : doublesOnWay n ms t i = true := by
          rw [eany]
          exact List.any_eq_true.mpr ⟨_, getD_mem (d := []) hk, List.any_eq_true.mpr ⟨p, List.mem_range.mpr hp, hb⟩⟩
        rw [er] at q
        exact q _ _ _ (.up le ((((((a1.keep.trans e1).trans a2.keep).trans e3).trans eH).trans a4.keep).trans e5)) (.bl true)
      · refine ⟨⟨_, _, _, _, rfl⟩, ((e3.trans eH).trans a4.keep).trans e5, fun m hm => ?_⟩
        rcases Nat.lt_succ_iff_lt_or_eq.mp hm with h | h
        · exact hno2 m h
        · rw [h]
          exact hb
    · rintro σ'' H'' ⟨⟨w5, w6, w7, w8, rfl⟩, e3, hno2⟩
      rw [zlen] at hno2
      refine ⟨⟨_, _, _, _, _, rfl⟩, (e1.trans a2.keep).trans e3, fun m hm => ?_⟩
      rcases Nat.lt_succ_iff_lt_or_eq.mp hm with h | h
      · exact hno m h
      · rw [h]
        refine List.any_eq_false.mpr fun y hy hpy => ?_
        rw [hno2 y (List.mem_range.mp hy)] at hpy
        cases hpy
  · rintro σ' H' ⟨_, e1, hno⟩
    rw [List.length_map] at hno
    have er : doublesOnWay n ms t i = false := by
      rw [eany]
      exact any_no [] hno
    rw [er] at q
    exact q _ _ _ (.up le (a1.keep.trans e1)) (.bl false)
theorem table_len (n : Nat) (ps : List (List Nat)) : (followTable n ps).length = n := by
  unfold followTable
  rw [List.length_map, List.length_range]
def F_is_exponential (ds : List PyData) (d : PyData) : Prop := ∃ n ms ps t, ds = [dI n, dM ms, dTs ps, dTab t] ∧ d = .bool (isExponential n ms ps t) ∧ Sz n ∧ Ms n ms ∧ Pats n ps ∧ ps.length ≤ 1000 ∧ t.length = n
theorem sc_is_exponential : FnScope ["size", "matrices", "patterns", "table", "index"] ["size", "matrices", "patterns", "table"] MwH.d_is_exponential.scope := ⟨rfl, rfl, rfl, by decide +kernel, rfl, by decide +kernel, by decide +kernel⟩
theorem ok_is_exponential (T : Txt K mg) : Has P w K mg base 6 "is_exponential" ["size", "matrices", "patterns", "table"] (spD K F_is_exponential) := by
  refine has_def (N := ["size", "matrices", "patterns", "table", "index"]) T 37 rfl rfl rfl rfl rfl sc_is_exponential (fun _ _ _ _ _ _ us hl => match us, hl with | [_, _, _, _], _ => rfl) (fun ds d h => by obtain ⟨n, ms, ps, t, rfl, rfl, hn, hm, hp, hl, ht⟩ := h; rfl) fun f cdv A outer s H E hr vs B ds dd Q le r hF q => ?_
  obtain ⟨n, ms, ps, t, rfl, rfl, hn, hm, hp, hl, ht⟩ := hF
  obtain ⟨x_size, x_matrices, x_patterns, x_table, rfl, r_size, r_matrices, r_patterns, r_table⟩ := RpAll.n4 r
  obtain ⟨f_doubles_on_way, fd_doubles_on_way, m_doubles_on_way, k_doubles_on_way, b_doubles_on_way, G_doubles_on_way⟩ := ok_doubles_on_way (P := P) (w := w) (base := base) T
  obtain ⟨f_parts_and_meets, fd_parts_and_meets, m_parts_and_meets, k_parts_and_meets, b_parts_and_meets, G_parts_and_meets⟩ := ok_parts_and_meets (P := P) (w := w) (base := base) T
  refine ⟨_, (pss_cons (ps_for PassesOwn.never rfl (pi_range1 (by rfl) (T.free 133 rfl) (pa_cons (pv 0) pa_nil)) (pg_name (i := 4) sc_is_exponential.nd rfl (Or.inl rfl)) (pss_one (ps_if (PW.pt (pw_or (pt_val (pe_call G_parts_and_meets (hr.mono (by decide)) (by rfl) m_parts_and_meets k_parts_and_meets b_parts_and_meets .nil pass0 (pa_cons (pv 0) (pa_cons (pv 2) (pa_cons (pv 4) pa_nil))))) (pw_or1 (pt_val (pe_call G_doubles_on_way (hr.mono (by decide)) (by rfl) m_doubles_on_way k_doubles_on_way b_doubles_on_way .nil pass0 (pa_cons (pv 0) (pa_cons (pv 1) (pa_cons (pv 3) (pa_cons (pv 4) pa_nil))))))))) (pss_one (ps_ret pe_bl)) pss_nil))) (pss_one (ps_ret pe_bl))), ?_⟩
  have h3 := hn.le
  refine any_forR (n := n) (p := fun i => partsAndMeets n ps i || doublesOnWay n ms t i) le (ea_cons (ev_v rfl r_size) ea_nil) (by omega) rfl (fun i B1 hi e1 => ?_) fun H' e => q _ _ _ (.up le e) (.bl _)
  exact et_or (et_test (gv_callB (ga_cons (gv_var rfl (r_size.mono e1)) (ga_cons (gv_var rfl (r_patterns.mono e1)) (ga_int (ev_var rfl) ga_nil))) ⟨n, ps, i, rfl, rfl, hn, hp, hl, hi⟩)) fun _ =>
    et_test (gv_callB (ga_cons (gv_var rfl (r_size.mono e1)) (ga_cons (gv_var rfl (r_matrices.mono e1)) (ga_cons (gv_var rfl (r_table.mono e1)) (ga_int (ev_var rfl) ga_nil)))) ⟨n, ms, t, i, rfl, rfl, hn, hm, ht, hi⟩)
def F_continues (ds : List PyData) (d : PyData) : Prop := ∃ t ls l, ds = [dTab t, dPairs ls, dPair l] ∧ d = .bool (continues_ t ls l) ∧ ∀ b ∈ ls, b.2 < t.length
theorem sc_continues : FnScope ["table", "leaks", "leak", "before"] ["table", "leaks", "leak"] MwH.d_continues.scope := ⟨rfl, rfl, rfl, by decide +kernel, rfl, by decide +kernel, by decide +kernel⟩
theorem ok_continues (T : Txt K mg) : Has P w K mg base 2 "continues" ["table", "leaks", "leak"] (spD K F_continues) := by
  refine has_def (N := ["table", "leaks", "leak", "before"]) T 39 rfl rfl rfl rfl rfl sc_continues (fun _ _ _ _ _ _ us hl => match us, hl with | [_, _, _], _ => rfl) (fun ds d h => by obtain ⟨t, ls, l, rfl, rfl, hb⟩ := h; rfl) fun f cdv A outer s H E hr vs B ds dd Q le r hF q => ?_
  obtain ⟨t, ls, l, rfl, rfl, hb⟩ := hF
  obtain ⟨x_table, x_leaks, x_leak, rfl, r_table, r_leaks, r_leak⟩ := RpAll.n3 r
  obtain ⟨f_is_or_follows, fd_is_or_follows, m_is_or_follows, k_is_or_follows, b_is_or_follows, G_is_or_follows⟩ := ok_is_or_follows (P := P) (w := w) (base := base) T
  refine ⟨_, (pss_cons (ps_for PassesOwn.never rfl (pi_listK (K := K) rfl (pv 1)) (pg_name (i := 3) sc_continues.nd rfl (Or.inl rfl)) (pss_one (ps_if (pt_val (pe_call G_is_or_follows (hr.mono (by decide)) (by rfl) m_is_or_follows k_is_or_follows b_is_or_follows .nil pass0 (pa_cons (pv 0) (pa_cons (pe_ix (ix_tupK (K := K) rfl) (pv 3) pe_int (fun _ _ => rfl)) (pa_cons (pe_ix (ix_tupK (K := K) rfl) (pv 2) pe_int (fun _ _ => rfl)) pa_nil))))) (pss_one (ps_ret pe_bl)) pss_nil))) (pss_one (ps_ret pe_bl))), ?_⟩
  refine any_forL (f := dPair) (0, 0) (p := fun b => isOrFollows t b.2 l.1) le (gv_var rfl r_leaks) rfl (fun i x B1 hi e1 rx => ?_) fun H' e => q _ _ _ (.up le e) (.bl _)
  exact et_test (gv_callB (ga_cons (gv_var rfl (r_table.mono e1)) (ga_cons (gv_ixT (ds := [dI (ls.getD i (0, 0)).1, dI (ls.getD i (0, 0)).2]) (gv_var rfl rx) (ev_n (a := 1)) (ix_nat (j := 1) rfl)) (ga_cons (gv_ixT (ds := [dI l.1, dI l.2]) (gv_var rfl (r_leak.mono e1)) (ev_n (a := 0)) (ix_nat (j := 0) rfl)) ga_nil))) ⟨t, _, _, rfl, rfl, hb _ (getD_mem hi)⟩)
end
end Mw
end
section
set_option Elab.async false
set_option linter.all false
set_option maxRecDepth 100000
set_option maxHeartbeats 4000000
/-! # Walks: leaks, the degree, the growth class -/
namespace Mw
open PySem PySem.Spec PyProof.Rows L2 Evl
section
variable {P : Program} {w : World} {K : Frg} {mg : Str → Option Value} {base : Heap}
theorem flat_range {β : Type} {f : Nat → List β} (i : Nat) : (List.range (i + 1)).flatMap f = (List.range i).flatMap f ++ f i := by
  rw [List.range_succ, List.flatMap_append]
  simp
theorem filter_range {p : Nat → Bool} (i : Nat) : (List.range (i + 1)).filter p = (List.range i).filter p ++ (if p i then [i] else []) := by
  rw [List.range_succ, List.filter_append]
  congr 1
  cases h : p i <;> simp [h]
def isLeak (n : Nat) (ps : List (List Nat)) (i j : Nat) : Bool := (!decide (i = j)) && (statesBehind n ps [i, i, j]).contains [i, j, j]
def leaksFrom (n : Nat) (ps : List (List Nat)) (m i : Nat) : List (Nat × Nat) := ((List.range m).filter (isLeak n ps i)).map fun j => (i, j)
theorem leaks_all (n : Nat) (ps : List (List Nat)) : leaksOf n ps = (List.range n).flatMap (leaksFrom n ps n) := by
  unfold leaksOf
  congr 1
theorem leaksFrom_len (n : Nat) (ps : List (List Nat)) (m i : Nat) : (leaksFrom n ps m i).length ≤ m := by
  unfold leaksFrom
  rw [List.length_map]
  have := List.length_filter_le (isLeak n ps i) (List.range m)
  rw [List.length_range] at this
  exact this
theorem leaks_len (n : Nat) (ps : List (List Nat)) (i : Nat) : ((List.range i).flatMap (leaksFrom n ps n)).length ≤ i * n := by
  have := flat_len (l := List.range i) (f := leaksFrom n ps n) (b := n) fun x _ => leaksFrom_len n ps n x
  rw [List.length_range] at this
  exact this
theorem mem3 {i j k n : Nat} (hi : i < n) (hj : j < n) (hk : k < n) : ∀ x ∈ [i, j, k], x < n := fun x hx => by
  rcases List.mem_cons.mp hx with e | e
  · rw [e]
    exact hi
  · exact mem2 hj hk x e
def F_leaks_of (ds : List PyData) (d : PyData) : Prop := ∃ n ps, ds = [dI n, dTs ps] ∧ d = dPairs (leaksOf n ps) ∧ Sz n ∧ Pats n ps ∧ ps.length ≤ 1000
theorem sc_leaks_of : FnScope ["size", "patterns", "found", "one", "other"] ["size", "patterns"] MwH.d_leaks_of.scope := ⟨rfl, rfl, rfl, by decide +kernel, rfl, by decide +kernel, by decide +kernel⟩
theorem ok_leaks_of (T : Txt K mg) : Has P w K mg base 5 "leaks_of" ["size", "patterns"] (spD K F_leaks_of) := by
  refine has_def (N := ["size", "patterns", "found", "one", "other"]) T 38 rfl rfl rfl rfl rfl sc_leaks_of (fun _ _ _ _ _ _ us hl => match us, hl with | [_, _], _ => rfl) (fun ds d h => by obtain ⟨n, ps, rfl, rfl, hn, hp, hl⟩ := h; rfl) fun f cdv A outer s H E hr vs B ds dd Q le r hF q => ?_
  obtain ⟨n, ps, rfl, rfl, hn, hp, hl⟩ := hF
  obtain ⟨x_size, x_patterns, rfl, r_size, r_patterns⟩ := RpAll.n2 r
  obtain ⟨f_states_behind, fd_states_behind, m_states_behind, k_states_behind, b_states_behind, G_states_behind⟩ := ok_states_behind (P := P) (w := w) (base := base) T
  have hu := hu_of hr
  have hu64 := hr.units
  have hu65 := hu65_of hr
  refine ⟨_, (pss_cons (ps_set (i := 2) sc_leaks_of.nd rfl (Or.inl rfl) (pe_lst pa_nil)) (pss_cons (ps_for PassesOwn.never rfl (pi_range1 (by rfl) (T.free 133 rfl) (pa_cons (pv 0) pa_nil)) (pg_name (i := 3) sc_leaks_of.nd rfl (Or.inl rfl)) (pss_one (ps_for PassesOwn.never rfl (pi_range1 (by rfl) (T.free 133 rfl) (pa_cons (pv 0) pa_nil)) (pg_name (i := 4) sc_leaks_of.nd rfl (Or.inl rfl)) (pss_one (ps_if (PW.pt (pw_and (pt_cmpR op_ne (pv 3) (pv 4) (nomark _)) (pw_and1 (pt_cmp (pc_din hu (pe_tup (pa_cons (pv 3) (pa_cons (pv 4) (pa_cons (pv 4) pa_nil)))) (pe_call G_states_behind (hr.mono (by decide)) (by rfl) m_states_behind k_states_behind b_states_behind .nil pass0 (pa_cons (pv 0) (pa_cons (pv 1) (pa_cons (pe_tup (pa_cons (pv 3) (pa_cons (pv 3) (pa_cons (pv 4) pa_nil)))) pa_nil))))))))) (pss_one (ps_expr (pe_bm PySem.F.plainAttrs_list PySem.F.slot_list_append PySem.F.type_list_append mt_append (pv 2) (pa_cons (pe_tup (pa_cons (pv 3) (pa_cons (pv 4) pa_nil))) pa_nil)))) pss_nil))))) (pss_one (ps_ret (pv 2))))), ?_⟩
  have h3 := hn.le
  have h9 : n * n ≤ 9 := Nat.mul_le_mul h3 h3
  refine qd_newL le el_empty fun p H0 hp0 hpB e0 hpl => ?_
  refine qd_forR (n := n) (le.trans e0) (ea_cons (ev_v rfl r_size) ea_nil) (by omega)
    (fun i σ' H' => ∃ Bi acc v3 v4, σ' = [some x_size, some x_patterns, some (.ref p), v3, v4] ∧ At B H Bi H' ∧ Bi p = none ∧ H' p = some (.lst acc) ∧ RpAll K Bi acc (((List.range i).flatMap (leaksFrom n ps n)).map dPair))
    (fun H1 e1 => ⟨B, [], none, none, rfl, .up le (e0.trans e1), hpB, e1 _ _ hpl, .nil⟩) ?_ ?_
  · rintro i σ' H' hi ⟨Bi, acc, v3, v4, rfl, b, nb, hP, racc⟩
    refine sd_forR (n := n) b.le (ea_cons (ev_v rfl (r_size.mono b.base)) ea_nil) (by omega)
      (fun j σ'' H'' => ∃ Bj acc' w4, σ'' = [some x_size, some x_patterns, some (.ref p), some (.int (i : Int)), w4] ∧ At B H Bj H'' ∧ Bj p = none ∧ H'' p = some (.lst acc') ∧ RpAll K Bj acc' (((List.range i).flatMap (leaksFrom n ps n) ++ leaksFrom n ps j i).map dPair))
      (fun H1 e1 => ⟨Bi, acc, v4, rfl, ⟨b.base, b.le.trans e1, b.keep.trans e1, b.fr⟩, nb, e1 _ _ hP, by simpa [leaksFrom] using racc⟩) ?_ ?_
    · rintro j σ'' H'' hj ⟨Bj, acc', w4, rfl, c, nc, hP', racc'⟩
      have el : leaksFrom n ps (j + 1) i = leaksFrom n ps j i ++ (if isLeak n ps i j then [(i, j)] else []) := by
        unfold leaksFrom
        rw [filter_range, List.map_append]
        cases isLeak n ps i j <;> rfl
      have h4 := racc'.len
      have h5 := leaks_len n ps i
      have h6 := leaksFrom_len n ps j i
      have h7 : i * n ≤ n * n := Nat.mul_le_mul_right n (by omega)
      rw [List.length_map, List.length_append] at h4
      refine sd_if (b := isLeak n ps i j) c.le ?_ (fun hb H3 e3 => ?_) (fun hb H3 e3 => ?_)
      · exact et_and (et_test (ev_ne (ev_var rfl) (ev_var rfl))) fun _ => et_B (ev_dinG (l := [i, j, j]) (gv_tup (ga_int (ev_var rfl) (ga_int (ev_var rfl) (ga_int (ev_var rfl) ga_nil))) (by show 3 ≤ 100000; omega)) (gv_call (ga_cons (gv_var rfl (r_size.mono c.base)) (ga_cons (gv_var rfl (r_patterns.mono c.base)) (ga_cons (gv_tup (ga_int (ev_var rfl) (ga_int (ev_var rfl) (ga_int (ev_var rfl) ga_nil))) (by show 3 ≤ 100000; omega)) ga_nil))) ⟨n, ps, [i, i, j], rfl, rfl, hn, hp, hl, by show 3 ≤ 3; omega, mem3 hi hi hj⟩))
      · have c3 : At B H Bj H3 := ⟨c.base, c.le.trans e3, c.keep.trans e3, c.fr⟩
        refine sd_append (d := dPair (i, j)) c3 hp0 nc (e3 _ _ hP') (by omega) (fun H' _ => ev_var rfl) (gv_tup (ga_int (ev_var rfl) (ga_int (ev_var rfl) ga_nil)) (by show 2 ≤ 100000; omega)) fun v B' H4 c2 e4 hB' rv hp' _ => ?_
        refine ⟨B', _, _, rfl, c2, hB', hp', ?_⟩
        rw [el, hb, if_pos rfl, ← List.append_assoc, List.map_append]
        exact (racc'.mono e4).append (.one rv)
      · refine ⟨Bj, acc', _, rfl, ⟨c.base, c.le.trans e3, c.keep.trans e3, c.fr⟩, nc, e3 _ _ hP', ?_⟩
        rw [el, hb, if_neg (by decide), List.append_nil]
        exact racc'
    · rintro σ'' H'' ⟨Bj, acc', w4, rfl, c, nc, hP', racc'⟩
      refine ⟨Bj, acc', _, _, rfl, c, nc, hP', ?_⟩
      rw [flat_range]
      exact racc'
  · rintro σ' H' ⟨Bi, acc, v3, v4, rfl, b, nb, hP, racc⟩
    rw [← leaks_all] at racc
    exact sd_ret rfl b hp0 nb hP racc q
theorem filter_data {α : Type} {f : α → PyData} (z : α) (p : α → Bool) (l : List α) : gvn l.length (fun i => p (l.getD i z)) (fun i => f (l.getD i z)) = (l.filter p).map f := by
  unfold gvn
  conv => rhs; rw [← map_range_getD l z]
  rw [List.filter_map, List.map_map]
  rfl
theorem degree_nil (t : List (List (List Nat))) (ls : List (Nat × Nat)) (f found : Nat) : degreeLoop t ls f found [] = found := by
  cases f <;> rfl
theorem At.ex {B0 H0 B H H1 : Hp} (a : At B0 H0 B H) (e : Ex H H1) : At B0 H0 B H1 := ⟨a.base, a.le.trans e, a.keep.trans e, a.fr⟩
def F_degree_of (ds : List PyData) (d : PyData) : Prop := ∃ t ls, ds = [dTab t, dPairs ls] ∧ d = dI (degreeOf t ls) ∧ (∀ b ∈ ls, b.2 < t.length) ∧ ls.length ≤ 1000
theorem sc_degree_of : FnScope ["table", "leaks", "found", "last", "turn", "leak"] ["table", "leaks"] MwH.d_degree_of.scope := ⟨rfl, rfl, rfl, by decide +kernel, rfl, by decide +kernel, by decide +kernel⟩
theorem ok_degree_of (T : Txt K mg) : Has P w K mg base 3 "degree_of" ["table", "leaks"] (spD K F_degree_of) := by
  refine has_def (N := ["table", "leaks", "found", "last", "turn", "leak"]) T 40 rfl rfl rfl rfl rfl sc_degree_of (fun _ _ _ _ _ _ us hl => match us, hl with | [_, _], _ => rfl) (fun ds d h => by obtain ⟨t, ls, rfl, rfl, hb, hl⟩ := h; rfl) fun f cdv A outer s H E hr vs B ds dd Q le r hF q => ?_
  obtain ⟨t, ls, rfl, rfl, hb, hl⟩ := hF
  obtain ⟨x_table, x_leaks, rfl, r_table, r_leaks⟩ := RpAll.n2 r
  obtain ⟨f_continues, fd_continues, m_continues, k_continues, b_continues, G_continues⟩ := ok_continues (P := P) (w := w) (base := base) T
  have hu := hu_of hr
  have hu64 := hr.units
  have hu65 := hu65_of hr
  refine ⟨_, (pss_cons (ps_asg (pe_tup (pa_cons pe_int (pa_cons (pv 1) pa_nil))) (pg_tupK (K := K) (n := 2) rfl rfl (pgs_cons (pg_name (i := 2) sc_degree_of.nd rfl (Or.inl rfl)) (pgs_cons (pg_name (i := 3) sc_degree_of.nd rfl (Or.inr rfl)) pgs_nil)))) (pss_cons (ps_for PassesOwn.never rfl (pi_range1 (by rfl) (T.free 133 rfl) (pa_cons (pe_callB (call_lenK (K := K) rfl) (by rfl) (T.free 131 rfl) (by decide +kernel) (pa_cons (pv 1) pa_nil)) pa_nil)) (pg_name (i := 4) sc_degree_of.nd rfl (Or.inl rfl)) (pss_cons (ps_if (pt_cmpR (op_eqDK (K := K) rfl hu64) (pv 3) (pe_lst pa_nil) (nomark _)) (pss_one ps_break) pss_nil) (pss_cons (ps_set (i := 2) sc_degree_of.nd rfl (Or.inl rfl) (pe_op op_add (pv 2) pe_int)) (pss_one (ps_set (i := 3) sc_degree_of.nd rfl (Or.inr rfl) (pe_lc (own := [("leak", 5)]) rfl sc_degree_of.nd (pi_listK (K := K) rfl (pv 1)) (blkOk_by (own := [("leak", 5)]) (N := ["table", "leaks", "found", "last", "turn", "leak"]) (sc := MwH.d_degree_of.scope) (by decide +kernel)) (fun _ _ _ _ _ => (pg_name (i := 5) sc_degree_of.nd rfl (Or.inl rfl))) (fun _ _ _ _ _ => (pts_one (pt_val (pe_call G_continues (hr.mono (by decide)) (by rfl) m_continues k_continues b_continues .nil pass0 (pa_cons (pv 0) (pa_cons (pv 3) (pa_cons (pv 5) pa_nil))))))) (fun _ _ _ _ _ => (pv 5)))))))) (pss_one (ps_ret (pv 2))))), ?_⟩
  refine qd_two (d1 := dI 0) le (ga_int (ev_n (a := 0)) (ga_cons (gv_var rfl r_leaks) ga_nil)) fun v1 v2 B1 H1 a1 rv1 rv2 => ?_
  obtain rfl := rv1.isInt
  refine qd_forR (n := ls.length) a1.le (ea_cons (ev_lenM (f := dPair) (ga_cons (gv_var rfl (r_leaks.mono a1.base)) ga_nil)) ea_nil) (by omega)
    (fun i σ' H' => ∃ Bi fd last vl o4, σ' = [some x_table, some x_leaks, some (.int ((fd : Nat) : Int)), some vl, o4, none] ∧ At B H Bi H' ∧ Rp K Bi vl (dPairs last) ∧ (∀ b ∈ last, b ∈ ls) ∧ degreeLoop t ls (ls.length - i) fd last = degreeOf t ls)
    (fun H2 e2 => ⟨B1, 0, ls, v2, none, rfl, a1.ex e2, rv2, fun _ h => h, rfl⟩) ?_ ?_
  · rintro i σ' H' hi ⟨Bi, fd, last, vl, o4, rfl, b, rl, hsub, hloop⟩
    obtain ⟨f3, ef⟩ : ∃ f3, ls.length - i = f3 + 1 := ⟨ls.length - i - 1, by omega⟩
    rw [ef] at hloop
    refine qd_if (b := (last.map dPair).isEmpty) b.le (et_test (ev_eqE (gv_var rfl rl) (shp_pairs last).ok)) (fun hbb H2 e2 => ?_) (fun hbb H2 e2 => ?_)
    · have hnil : last = [] := by
        cases last with
        | nil => rfl
        | cons x r => cases hbb
      subst hnil
      rw [degree_nil] at hloop
      rw [← hloop] at q
      exact ⟨_, rfl, q _ _ _ (b.ex e2) (.int _)⟩
    · have hne : last ≠ [] := fun z => by
        rw [z] at hbb
        cases hbb
      have hstep : degreeLoop t ls (f3 + 1) fd last = degreeLoop t ls f3 (fd + 1) (ls.filter (continues_ t last)) := if_neg hne
      rw [hstep] at hloop
      have b2 := b.ex e2
      refine qd_asg (K := K) (d := dI (fd + 1)) b2.le (.int (ev_add (ev_var rfl) (ev_n (a := 1)))) fun v3 B3 H3 a3 r3 => ?_
      obtain rfl := r3.isInt
      have e3 := b2.base.trans a3.base
      refine sd_asg (d := dPairs (ls.filter (continues_ t last))) a3.le (Gv.is (gv_lcL (fun i => continues_ t last (ls.getD i (0, 0))) (fun i => dPair (ls.getD i (0, 0))) (gv_var rfl (r_leaks.mono e3)) (by rw [List.length_map]; omega) fun m z d B6 e6 hd6 rz => ?_) ?_) fun v4 B4 H4 a4 r4 => ?_
      · obtain ⟨hm, rfl⟩ := dM_at (0, 0) hd6
        exact turn_name (fun _ => rfl) (et_test (gv_callB (ga_cons (gv_var rfl (r_table.mono (e3.trans e6))) (ga_cons (gv_var rfl (rl.mono (a3.base.trans e6))) (ga_cons (gv_var rfl rz) ga_nil))) ⟨t, last, _, rfl, rfl, fun b hb2 => hb b (hsub b hb2)⟩)) fun _ => gv_var rfl rz
      · rw [List.length_map]
        exact congrArg PyData.list (filter_data (0, 0) (continues_ t last) ls)
      · refine ⟨B4, fd + 1, _, v4, _, rfl, (b2.trans a3).trans a4, r4, fun x hx => (List.mem_filter.mp hx).1, ?_⟩
        rw [← hloop]
        congr 1
        omega
  · rintro σ' H' ⟨Bi, fd, last, vl, o4, rfl, b, rl, hsub, hloop⟩
    rw [Nat.sub_self] at hloop
    have e : degreeOf t ls = fd := hloop.symm
    rw [e] at q
    exact ⟨_, rfl, q _ _ _ b (.int _)⟩
theorem gv_if {σ : L2.St} {B : Hp} {t : TT} {ta tb : TE} {b : Bool} {d : PyData} (h : EvT t σ B b) (h1 : b = true → Gv K ta σ B d) (h2 : b = false → Gv K tb σ B d) : Gv K (tIf t ta tb) σ B d := fun H le Q q => by
  refine (h.mono le) H (Ex.refl _) _ fun H1 e1 => ?_
  cases hb : b with
  | true =>
    rw [if_pos rfl]
    exact h1 hb H1 (le.trans e1) Q fun v B' H' a r => q v B' H' ((At.up le e1).trans a) r
  | false =>
    rw [if_neg (by decide)]
    exact h2 hb H1 (le.trans e1) Q fun v B' H' a r => q v B' H' ((At.up le e1).trans a) r
theorem leaks_lt {n : Nat} {ps : List (List Nat)} : ∀ b ∈ leaksOf n ps, b.1 < n ∧ b.2 < n := fun b hb => by
  rw [leaks_all] at hb
  obtain ⟨i, hi, hb⟩ := List.mem_flatMap.mp hb
  obtain ⟨j, hj, rfl⟩ := List.mem_map.mp hb
  exact ⟨List.mem_range.mp hi, List.mem_range.mp (List.mem_filter.mp hj).1⟩
theorem gv_two {σ : L2.St} {B : Hp} {ta tb : TE} {a b : Nat} (ha : Ev ta σ B (.int (a : Int))) (hb : Ev tb σ B (.int (b : Int))) : Gv K (tLst (tCons ta (tCons tb tNil))) σ B (dL [a, b]) :=
  gv_lst (ga_int ha (ga_int hb ga_nil)) (by show 2 ≤ 100000; omega)
def F_growth_of (ds : List PyData) (d : PyData) : Prop := ∃ n ms ps, ds = [dI n, dM ms, dTs ps] ∧ d = dL [(growthOf n ms ps).1, (growthOf n ms ps).2] ∧ Sz n ∧ Ms n ms ∧ Pats n ps ∧ ps.length ≤ 1000
theorem sc_growth_of : FnScope ["size", "matrices", "patterns", "table", "degree", "index"] ["size", "matrices", "patterns"] MwH.d_growth_of.scope := ⟨rfl, rfl, rfl, by decide +kernel, rfl, by decide +kernel, by decide +kernel⟩
theorem ok_growth_of (T : Txt K mg) : Has P w K mg base 7 "growth_of" ["size", "matrices", "patterns"] (spD K F_growth_of) := by
  refine has_def (N := ["size", "matrices", "patterns", "table", "degree", "index"]) T 41 rfl rfl rfl rfl rfl sc_growth_of (fun _ _ _ _ _ _ us hl => match us, hl with | [_, _, _], _ => rfl) (fun ds d h => by obtain ⟨n, ms, ps, rfl, rfl, hn, hm, hp, hl⟩ := h; rfl) fun f cdv A outer s H E hr vs B ds dd Q le r hF q => ?_
  obtain ⟨n, ms, ps, rfl, rfl, hn, hm, hp, hl⟩ := hF
  obtain ⟨x_size, x_matrices, x_patterns, rfl, r_size, r_matrices, r_patterns⟩ := RpAll.n3 r
  obtain ⟨f_follow_table, fd_follow_table, m_follow_table, k_follow_table, b_follow_table, G_follow_table⟩ := ok_follow_table (P := P) (w := w) (base := base) T
  obtain ⟨f_is_exponential, fd_is_exponential, m_is_exponential, k_is_exponential, b_is_exponential, G_is_exponential⟩ := ok_is_exponential (P := P) (w := w) (base := base) T
  obtain ⟨f_degree_of, fd_degree_of, m_degree_of, k_degree_of, b_degree_of, G_degree_of⟩ := ok_degree_of (P := P) (w := w) (base := base) T
  obtain ⟨f_leaks_of, fd_leaks_of, m_leaks_of, k_leaks_of, b_leaks_of, G_leaks_of⟩ := ok_leaks_of (P := P) (w := w) (base := base) T
  have hu := hu_of hr
  have hu64 := hr.units
  have hu65 := hu65_of hr
  refine ⟨_, (pss_cons (ps_set (i := 3) sc_growth_of.nd rfl (Or.inr rfl) (pe_call G_follow_table (hr.mono (by decide)) (by rfl) m_follow_table k_follow_table b_follow_table .nil pass0 (pa_cons (pv 0) (pa_cons (pv 2) pa_nil)))) (pss_cons (ps_if (pt_val (pe_call G_is_exponential (hr.mono (by decide)) (by rfl) m_is_exponential k_is_exponential b_is_exponential .nil pass0 (pa_cons (pv 0) (pa_cons (pv 1) (pa_cons (pv 2) (pa_cons (pv 3) pa_nil)))))) (pss_one (ps_ret (pe_lst (pa_cons pe_int (pa_cons pe_int pa_nil))))) pss_nil) (pss_cons (ps_if (pt_cmpR (op_eqDK (K := K) rfl hu64) (pe_lc (own := [("index", 5)]) rfl sc_growth_of.nd (pi_range1 (by rfl) (T.free 133 rfl) (pa_cons (pv 0) pa_nil)) (blkOk_by (own := [("index", 5)]) (N := ["size", "matrices", "patterns", "table", "degree", "index"]) (sc := MwH.d_growth_of.scope) (by decide +kernel)) (fun _ _ _ _ _ => (pg_name (i := 5) sc_growth_of.nd rfl (Or.inl rfl))) (fun _ _ _ _ _ => (pts_one (pt_cmp (pc_din hu (pe_tup (pa_cons (pv 5) pa_nil)) (pe_ix (ix_listK (K := K) rfl) (pv 3) (pv 5) (fun _ _ => rfl)))))) (fun _ _ _ _ _ => (pv 5))) (pe_lst pa_nil) (nomark _)) (pss_one (ps_ret (pe_lst (pa_cons pe_int (pa_cons pe_int pa_nil))))) pss_nil) (pss_cons (ps_set (i := 4) sc_growth_of.nd rfl (Or.inl rfl) (pe_call G_degree_of (hr.mono (by decide)) (by rfl) m_degree_of k_degree_of b_degree_of .nil pass0 (pa_cons (pv 3) (pa_cons (pe_call G_leaks_of (hr.mono (by decide)) (by rfl) m_leaks_of k_leaks_of b_leaks_of .nil pass0 (pa_cons (pv 0) (pa_cons (pv 2) pa_nil))) pa_nil)))) (pss_one (ps_ret (pe_ifExp (pt_cmpR op_eq (pv 4) pe_int (nomark _)) (pe_lst (pa_cons pe_int (pa_cons pe_int pa_nil))) (pe_lst (pa_cons pe_int (pa_cons (pv 4) pa_nil)))))))))), ?_⟩
  have h3 := hn.le
  have h9 : n * n ≤ 9 := Nat.mul_le_mul h3 h3
  refine qd_asg (d := dTab (followTable n ps)) le (gv_call (ga_cons (gv_var rfl r_size) (ga_cons (gv_var rfl r_patterns) ga_nil)) ⟨n, ps, rfl, rfl, hn, hp, hl⟩) fun vt B1 H1 a1 rt => ?_
  have ht := table_len n ps
  refine qd_if (b := isExponential n ms ps (followTable n ps)) a1.le (et_test (gv_callB (ga_cons (gv_var rfl (r_size.mono a1.base)) (ga_cons (gv_var rfl (r_matrices.mono a1.base)) (ga_cons (gv_var rfl (r_patterns.mono a1.base)) (ga_cons (gv_var rfl rt) ga_nil)))) ⟨n, ms, ps, _, rfl, rfl, hn, hm, hp, hl, ht⟩)) (fun hb H2 e2 => ?_) (fun hb H2 e2 => ?_)
  · have eg : growthOf n ms ps = (3, 0) := if_pos hb
    rw [eg] at q
    exact qd_ret (a1.le.trans e2) (gv_two (ev_n (a := 3)) (ev_n (a := 0))) fun v B' H' a r => q v B' H' ((a1.ex e2).trans a) r
  have b1 := a1.ex e2
  have eg : growthOf n ms ps = if (List.range n).filter (fun i => ((followTable n ps).getD i []).contains [i]) = [] then (0, 0)
      else if degreeOf (followTable n ps) (leaksOf n ps) = 0 then (1, 0) else (2, degreeOf (followTable n ps) (leaksOf n ps)) := if_neg (by rw [hb]; decide)
  have egv : (gvn n (fun i => ((followTable n ps).getD i []).contains [i]) (fun i => dI i)) = ((List.range n).filter (fun i => ((followTable n ps).getD i []).contains [i])).map (fun i => dI i) := rfl
  generalize followTable n ps = tb at eg egv ht rt
  refine qd_if (b := (((List.range n).filter (fun i => (tb.getD i []).contains [i])).map (fun i => dI i)).isEmpty) b1.le (et_test (ev_eqE (Gv.is (gv_lcR (n := n) (fun i => (tb.getD i []).contains [i]) (fun i => dI i) (ea_cons (ev_v rfl (r_size.mono b1.base)) ea_nil) (by omega) fun i B3 e3 hi => turn_name (fun _ => rfl) (et_B (ev_dinG (l := [i]) (gv_tup (ga_int (ev_var rfl) ga_nil) (by show 1 ≤ 100000; omega)) (gv_at (f := dDic) [] (gv_var rfl (rt.mono e3)) (ev_var rfl) (by rw [ht]; exact hi)))) fun _ => .int (ev_var rfl)) (congrArg PyData.list egv)) (Shp.lst (n := 1) fun d hd => by obtain ⟨i, _, rfl⟩ := List.mem_map.mp hd; exact .int i).ok)) (fun hb2 H3 e3 => ?_) (fun hb2 H3 e3 => ?_)
  · rw [List.isEmpty_iff, List.map_eq_nil_iff] at hb2
    rw [if_pos hb2] at eg
    rw [eg] at q
    exact qd_ret (b1.le.trans e3) (gv_two (ev_n (a := 0)) (ev_n (a := 0))) fun v B' H' a r => q v B' H' ((b1.ex e3).trans a) r
  · have hne : ¬ (List.range n).filter (fun i => (tb.getD i []).contains [i]) = [] := fun z => by
      rw [z] at hb2
      cases hb2
    rw [if_neg hne] at eg
    have b3 := b1.ex e3
    have hll : (leaksOf n ps).length ≤ 9 := by
      rw [leaks_all]
      exact Nat.le_trans (leaks_len n ps n) h9
    refine qd_asg (d := dI (degreeOf tb (leaksOf n ps))) b3.le (gv_call (ga_cons (gv_var rfl (rt.mono (Ex.refl _))) (ga_cons (gv_call (ga_cons (gv_var rfl (r_size.mono b3.base)) (ga_cons (gv_var rfl (r_patterns.mono b3.base)) ga_nil)) ⟨n, ps, rfl, rfl, hn, hp, hl⟩) ga_nil)) ⟨tb, _, rfl, rfl, fun b hb => by rw [ht]; exact (leaks_lt b hb).2, by omega⟩) fun vd B4 H4 a4 r4 => ?_
    generalize degreeOf tb (leaksOf n ps) = dg at eg r4
    refine qd_ret a4.le (gv_if (b := decide (dg = 0)) (et_test (ev_eq (ev_v rfl r4) (ev_n (a := 0)))) (fun hd => Gv.is (gv_two (ev_n (a := 1)) (ev_n (a := 0))) ?_) (fun hd => Gv.is (gv_two (ev_n (a := 2)) (ev_v rfl r4)) ?_)) fun v B' H' a r => q v B' H' ((b3.trans a4).trans a) r
    · rw [if_pos (of_decide_eq_true hd)] at eg
      rw [eg]
    · rw [if_neg (of_decide_eq_false hd)] at eg
      rw [eg]
end
end Mw
end
section
set_option Elab.async false
set_option linter.all false
set_option maxRecDepth 100000
set_option maxHeartbeats 4000000
/-! # Walks: pairs -/
namespace Mw
open PySem PySem.Spec PyProof.Rows L2 Evl
section
variable {P : Program} {w : World} {K : Frg} {mg : Str → Option Value} {base : Heap}
theorem ev_p0 {σ : L2.St} {B : Hp} {tl : TE} {q : Nat × Nat} (h : Gv K tl σ B (dPair q)) : Ev (tOp (rIxT K) tl (tC (.int 0))) σ B (.int (q.1 : Int)) :=
  (gv_ixT (ds := [dI q.1, dI q.2]) (d := dI q.1) h (ev_n (a := 0)) (ix_nat (j := 0) rfl)).toInt
theorem ev_p1 {σ : L2.St} {B : Hp} {tl : TE} {q : Nat × Nat} (h : Gv K tl σ B (dPair q)) : Ev (tOp (rIxT K) tl (tC (.int 1))) σ B (.int (q.2 : Int)) :=
  (gv_ixT (ds := [dI q.1, dI q.2]) (d := dI q.2) h (ev_n (a := 1)) (ix_nat (j := 1) rfl)).toInt
theorem gv_pair {σ : L2.St} {B : Hp} {ta tb : TE} {a b : Nat} (ha : Ev ta σ B (.int (a : Int))) (hb : Ev tb σ B (.int (b : Int))) : Gv K (tTup (tCons ta (tCons tb tNil))) σ B (dPair (a, b)) :=
  gv_tup (ga_int ha (ga_int hb ga_nil)) (by show 2 ≤ 100000; omega)
def F_are_apart (ds : List PyData) (d : PyData) : Prop := ∃ p : Nat × Nat, ds = [dPair p] ∧ d = .bool (areApart p)
theorem sc_are_apart : FnScope ["pair"] ["pair"] MwH.d_are_apart.scope := ⟨rfl, rfl, rfl, by decide +kernel, rfl, by decide +kernel, by decide +kernel⟩
theorem ok_are_apart (T : Txt K mg) : Has P w K mg base 1 "are_apart" ["pair"] (spD K F_are_apart) := by
  refine has_def (N := ["pair"]) T 42 rfl rfl rfl rfl rfl sc_are_apart (fun _ _ _ _ _ _ us hl => match us, hl with | [_], _ => rfl) (fun ds d h => by obtain ⟨p, rfl, rfl⟩ := h; rfl) fun f cdv A outer s H E hr vs B ds dd Q le r hF q => ?_
  obtain ⟨p, rfl, rfl⟩ := hF
  obtain ⟨x_pair, rfl, r_pair⟩ := RpAll.n1 r
  refine ⟨_, (pss_one (ps_ret (pe_cmpR op_eq (pe_op op_and (pe_ix (ix_tupK (K := K) rfl) (pv 0) pe_int (fun _ _ => rfl)) (pe_ix (ix_tupK (K := K) rfl) (pv 0) pe_int (fun _ _ => rfl))) pe_int (nomark _)))), ?_⟩
  exact qd_ret (K := K) le (Gv.is (.bl (ev_eq (ev_and (ev_p0 (gv_var rfl r_pair)) (ev_p1 (gv_var rfl r_pair))) (ev_n (a := 0)))) rfl) q
def F_pair_after (ds : List PyData) (d : PyData) : Prop := ∃ n p z, ds = [dT p, dPair z] ∧ d = dPair (pairAfter p z) ∧ Sz n ∧ Pat n p
theorem sc_pair_after : FnScope ["pattern", "pair"] ["pattern", "pair"] MwH.d_pair_after.scope := ⟨rfl, rfl, rfl, by decide +kernel, rfl, by decide +kernel, by decide +kernel⟩
theorem ok_pair_after (T : Txt K mg) : Has P w K mg base 3 "pair_after" ["pattern", "pair"] (spD K F_pair_after) := by
  refine has_def (N := ["pattern", "pair"]) T 43 rfl rfl rfl rfl rfl sc_pair_after (fun _ _ _ _ _ _ us hl => match us, hl with | [_, _], _ => rfl) (fun ds d h => by obtain ⟨n, p, z, rfl, rfl, hn, hp⟩ := h; rfl) fun f cdv A outer s H E hr vs B ds dd Q le r hF q => ?_
  obtain ⟨n, p, z, rfl, rfl, hn, hp⟩ := hF
  obtain ⟨x_pattern, x_pair, rfl, r_pattern, r_pair⟩ := RpAll.n2 r
  obtain ⟨f_mapped, fd_mapped, m_mapped, k_mapped, b_mapped, G_mapped⟩ := ok_mapped (P := P) (w := w) (base := base) T
  refine ⟨_, (pss_one (ps_ret (pe_tup (pa_cons (pe_call G_mapped (hr.mono (by decide)) (by rfl) m_mapped k_mapped b_mapped .nil pass0 (pa_cons (pv 0) (pa_cons (pe_ix (ix_tupK (K := K) rfl) (pv 1) pe_int (fun _ _ => rfl)) pa_nil))) (pa_cons (pe_call G_mapped (hr.mono (by decide)) (by rfl) m_mapped k_mapped b_mapped .nil pass0 (pa_cons (pv 0) (pa_cons (pe_ix (ix_tupK (K := K) rfl) (pv 1) pe_int (fun _ _ => rfl)) pa_nil))) pa_nil))))), ?_⟩
  exact qd_ret (K := K) le (gv_pair (gv_callI (ga_cons (gv_var rfl r_pattern) (ga_int (ev_p0 (gv_var rfl r_pair)) ga_nil)) ⟨n, p, z.1, rfl, rfl, hn, hp⟩) (gv_callI (ga_cons (gv_var rfl r_pattern) (ga_int (ev_p1 (gv_var rfl r_pair)) ga_nil)) ⟨n, p, z.2, rfl, rfl, hn, hp⟩)) q
def firstFrom (n i : Nat) : List (Nat × Nat) := (List.range (n - (i + 1))).map fun j => (2 ^ i, 2 ^ (i + 1 + j))
def F_first_pairs (ds : List PyData) (d : PyData) : Prop := ∃ n, ds = [dI n] ∧ d = dPairs (firstPairs n) ∧ Sz n
theorem firsts_len (n i : Nat) : ((List.range i).flatMap (firstFrom n)).length ≤ i * n := by
  have := flat_len (l := List.range i) (f := firstFrom n) (b := n) fun x _ => by
    unfold firstFrom
    rw [List.length_map, List.length_range]
    omega
  rw [List.length_range] at this
  exact this
theorem sc_first_pairs : FnScope ["size", "found", "one", "other"] ["size"] MwH.d_first_pairs.scope := ⟨rfl, rfl, rfl, by decide +kernel, rfl, by decide +kernel, by decide +kernel⟩
theorem ok_first_pairs (T : Txt K mg) : Has P w K mg base 1 "first_pairs" ["size"] (spD K F_first_pairs) := by
  refine has_def (N := ["size", "found", "one", "other"]) T 44 rfl rfl rfl rfl rfl sc_first_pairs (fun _ _ _ _ _ _ us hl => match us, hl with | [_], _ => rfl) (fun ds d h => by obtain ⟨n, rfl, rfl, hn⟩ := h; rfl) fun f cdv A outer s H E hr vs B ds dd Q le r hF q => ?_
  obtain ⟨n, rfl, rfl, hn⟩ := hF
  obtain ⟨x_size, rfl, r_size⟩ := RpAll.n1 r
  refine ⟨_, (pss_cons (ps_set (i := 1) sc_first_pairs.nd rfl (Or.inl rfl) (pe_lst pa_nil)) (pss_cons (ps_for PassesOwn.never rfl (pi_range1 (by rfl) (T.free 133 rfl) (pa_cons (pv 0) pa_nil)) (pg_name (i := 2) sc_first_pairs.nd rfl (Or.inr rfl)) (pss_one (ps_expr (pe_bm PySem.F.plainAttrs_list PySem.F.slot_list_extend PySem.F.type_list_extend mt_extend (pv 1) (pa_cons (pe_lc (own := [("other", 3)]) rfl sc_first_pairs.nd (pi_range2 (by rfl) (T.free 133 rfl) (pa_cons (pe_op op_add (pv 2) pe_int) (pa_cons (pv 0) pa_nil))) (blkOk_by (own := [("other", 3)]) (N := ["size", "found", "one", "other"]) (sc := MwH.d_first_pairs.scope) (by decide +kernel)) (fun _ _ _ _ _ => (pg_name (i := 3) sc_first_pairs.nd rfl (Or.inl rfl))) (fun _ _ _ _ _ => pts_nil) (fun _ _ _ _ _ => (pe_tup (pa_cons (pe_op op_shl pe_int (pv 2)) (pa_cons (pe_op op_shl pe_int (pv 3)) pa_nil))))) pa_nil))))) (pss_one (ps_ret (pv 1))))), ?_⟩
  have h3 := hn.le
  have h9 : n * n ≤ 9 := Nat.mul_le_mul h3 h3
  refine qd_newL le el_empty fun p H0 hp0 hpB e0 hpl => ?_
  refine qd_forR (n := n) (le.trans e0) (ea_cons (ev_v rfl r_size) ea_nil) (by omega)
    (fun i σ' H' => ∃ Bi acc v2, σ' = [some x_size, some (.ref p), v2, none] ∧ At B H Bi H' ∧ Bi p = none ∧ H' p = some (.lst acc) ∧ RpAll K Bi acc (((List.range i).flatMap (firstFrom n)).map dPair))
    (fun H1 e1 => ⟨B, [], none, rfl, .up le (e0.trans e1), hpB, e1 _ _ hpl, .nil⟩) ?_ ?_
  · rintro i σ' H' hi ⟨Bi, acc, v2, rfl, b, nb, hP, racc⟩
    have h5 := firsts_len n i
    have h7 : i * n ≤ n * n := Nat.mul_le_mul_right n (by omega)
    refine sd_extend (es := (firstFrom n i).map dPair) b hp0 nb hP ?_ (fun H' _ => ev_var rfl) (Gv.is (gv_lcR2 (lo := i + 1) (n := n - (i + 1)) (hi := n) (fun _ => true) (fun j => dPair (2 ^ i, 2 ^ (i + 1 + j))) (ea_cons (ev_add (ev_var rfl) (ev_n (a := 1))) (ea_cons (ev_v rfl (r_size.mono b.base)) ea_nil)) rfl ⟨by omega, by omega⟩ fun j B6 e6 hj => turn_name (fun _ => rfl) et_true fun _ =>
      gv_pair (ev_shl1 (by omega) ev_c (ev_var rfl)) (ev_shl1 (by omega) ev_c (ev_var rfl))) ?_) fun ys B' H4 c2 e4 hB' rys hp' _ => ?_
    · have h4 := racc.len
      rw [List.length_map] at h4
      unfold firstFrom
      rw [List.length_map, List.length_map, List.length_range]
      omega
    · rw [gvn_all]
      unfold firstFrom
      rw [List.map_map]
      rfl
    · refine ⟨B', _, _, rfl, c2, hB', hp', ?_⟩
      rw [flat_range, List.map_append]
      exact (racc.mono e4).append rys
  · rintro σ' H' ⟨Bi, acc, v2, rfl, b, nb, hP, racc⟩
    exact sd_ret rfl b hp0 nb hP racc q
/-! ### pairs in a dict -/
def pk (z : Nat × Nat) : List Nat := [z.1, z.2]
theorem pk_inj {a b : Nat × Nat} (h : pk a = pk b) : a = b := by
  unfold pk at h
  injection h with h1 h2
  injection h2 with h2 _
  exact Prod.ext h1 h2
theorem pk_mem {l : List (Nat × Nat)} {z : Nat × Nat} : pk z ∈ l.map pk ↔ z ∈ l := by
  constructor
  · intro h
    obtain ⟨y, hy, e⟩ := List.mem_map.mp h
    rw [← pk_inj e]
    exact hy
  · exact fun h => List.mem_map.mpr ⟨z, h, rfl⟩
theorem dPair_pk (z : Nat × Nat) : dPair z = dT (pk z) := rfl
theorem KeysOf.again {kvs : List (List Key × V)} {ls : List (List Nat)} (h : KeysOf kvs ls) {l : List Nat} (hl : l ∈ ls) (v : V) : KeysOf (putK kvs (kk l) v) ls := by
  have e : putK kvs (kk l) v = kvs.map (fun kv => if kv.1 = kk l then (kv.1, v) else kv) := by
    unfold putK
    rw [valV_any, h.some l, decide_eq_true hl, if_pos rfl]
  rw [e]
  unfold KeysOf
  rw [← h, List.map_map]
  refine List.map_congr_left fun kv _ => ?_
  show (if kv.1 = kk l then (kv.1, v) else kv).1 = kv.1
  split <;> rfl
theorem KeysOf.add {kvs : List (List Key × V)} {l : List (Nat × Nat)} (h : KeysOf kvs (l.map pk)) (z : Nat × Nat) (v : V) : KeysOf (putK kvs (kk (pk z)) v) ((if z ∈ l then l else l ++ [z]).map pk) := by
  by_cases c : z ∈ l
  · rw [if_pos c]
    exact h.again (pk_mem.mpr c) v
  · rw [if_neg c, List.map_append]
    obtain ⟨e, k⟩ := h.put (l := pk z) (fun q => c (pk_mem.mp q)) v
    rw [e]
    exact k
structure PairsOk (n : Nat) (l : List (Nat × Nat)) : Prop where
  nd : l.Nodup
  lt : ∀ z ∈ l, z.1 < 2 ^ n ∧ z.2 < 2 ^ n
theorem PairsOk.short {n : Nat} {l : List (Nat × Nat)} (hn : Sz n) (h : PairsOk n l) : l.length ≤ 64 := by
  have h8 := pow_le8 hn
  refine pigeonOf (fun z => z.1 * 8 + z.2) h.nd (fun z hz => ?_) fun y hy z hz e => ?_
  · obtain ⟨h1, h2⟩ := h.lt z hz
    show z.1 * 8 + z.2 < 64
    omega
  · obtain ⟨h1, h2⟩ := h.lt y hy
    obtain ⟨h3, h4⟩ := h.lt z hz
    have e2 : y.1 * 8 + y.2 = z.1 * 8 + z.2 := e
    exact Prod.ext (by omega) (by omega)
theorem PairsOk.add {n : Nat} {l : List (Nat × Nat)} {z : Nat × Nat} (h : PairsOk n l) (h1 : z.1 < 2 ^ n) (h2 : z.2 < 2 ^ n) : PairsOk n (addApart l z) := by
  unfold addApart
  split
  · split
    · exact h
    · rename_i c
      refine ⟨List.nodup_append.mpr ⟨h.nd, List.pairwise_singleton _ z, fun a ha b hb e => c ?_⟩, fun y hy => ?_⟩
      · rw [List.mem_singleton] at hb
        rw [← hb, ← e]
        exact ha
      · rcases List.mem_append.mp hy with q | q
        · exact h.lt y q
        · rw [List.mem_singleton.mp q]
          exact ⟨h1, h2⟩
  · exact h
def nextOne (ps : List (List Nat)) (z : Nat × Nat) (known : List (Nat × Nat)) : List (Nat × Nat) := ps.foldl (fun k p => addApart k (pairAfter p z)) known
theorem after_lt {n : Nat} {p : List Nat} (hn : Sz n) (hp : Pat n p) (z : Nat × Nat) : (pairAfter p z).1 < 2 ^ n ∧ (pairAfter p z).2 < 2 ^ n := ⟨hp.mapped_lt hn _, hp.mapped_lt hn _⟩
theorem nextOne_ok {n : Nat} {ps : List (List Nat)} {z : Nat × Nat} {known : List (Nat × Nat)} (hn : Sz n) (hp : Pats n ps) (h : PairsOk n known) : PairsOk n (nextOne ps z known) :=
  foldl_inv (I := PairsOk n) h fun b p hb hm => hb.add (after_lt hn (hp p hm) z).1 (after_lt hn (hp p hm) z).2
theorem nexts_ok {n : Nat} {ps : List (List Nat)} {l known : List (Nat × Nat)} (hn : Sz n) (hp : Pats n ps) (h : PairsOk n known) : PairsOk n (l.foldl (fun k z => nextOne ps z k) known) :=
  foldl_inv (I := PairsOk n) h fun b p hb _ => nextOne_ok hn hp hb
theorem next_ok {n : Nat} {ps : List (List Nat)} {l : List (Nat × Nat)} (hn : Sz n) (hp : Pats n ps) : PairsOk n (nextPairs ps l) := nexts_ok hn hp ⟨.nil, fun z hz => by cases hz⟩
/-- the heap's tuples -/
def tupB (H : Hp) : Hp := fun a => match H a with
  | some (.tup xs) => some (.tup xs)
  | _ => none
theorem tupB_at {H : Hp} {a : Addr} {xs : List V} (h : H a = some (.tup xs)) : tupB H a = some (.tup xs) := by
  unfold tupB
  rw [h]
theorem tupB_le {H : Hp} : Ex (tupB H) H := fun a o e => by
  unfold tupB at e
  split at e
  · rename_i xs h
    rw [h]
    exact e
  · cases e
theorem tupB_tup {H : Hp} {a : Addr} {o : HO} (e : tupB H a = some o) : ∃ xs, o = .tup xs := by
  unfold tupB at e
  split at e
  · exact ⟨_, (Option.some.inj e).symm⟩
  · cases e
theorem keys_rp {H : Hp} : ∀ {kvs : List (List Key × V)} {bs : List Addr} {ls : List (List Nat)}, IsKeys H kvs bs → KeysOf kvs ls → RpAll K (tupB H) (bs.map V.ref) (ls.map dT)
  | [], [], ls, _, h => by
    cases ls with
    | nil => exact .nil
    | cons l r => cases h
  | kv :: kvs, b :: bs, ls, hk, h => by
    cases ls with
    | nil => cases h
    | cons l r =>
      unfold KeysOf at h
      rw [List.map_cons, List.map_cons] at h
      injection h with h1 h2
      cases hk with
      | cons hb ht =>
        have e : H b = some (.tup (kv.1.map kV)) := hb
        rw [h1, kk_kV] at e
        exact .cons (.tup (tupB_at e) (RpAll.ints _)) (keys_rp ht h2)
  | [], _ :: _, _, hk, _ => by cases hk
  | _ :: _, [], _, hk, _ => by cases hk
/-- what the search keeps: the dict at dk -/
structure DicInv (K : Frg) (B H : Hp) (dk : Addr) (l : List (Nat × Nat)) (Bi H' : Hp) : Prop where
  at_ : At B H Bi H'
  nD : Bi dk = none
  ex : ∃ kvs, H' dk = some (.dT kvs) ∧ KeysOf kvs (l.map pk)
theorem DicInv.step {B H : Hp} {dk : Addr} {l : List (Nat × Nat)} {Bi H' B1 H2 : Hp} (m : DicInv K B H dk l Bi H') (a : At Bi H' B1 H2) : DicInv K B H dk l B1 H2 := by
  obtain ⟨kvs, h2, hk⟩ := m.ex
  exact ⟨m.at_.trans a, a.off m.nD h2 dT_tup, kvs, a.keep _ _ h2, hk⟩
def F_next_pairs (ds : List PyData) (d : PyData) : Prop := ∃ n ps l, ds = [dTs ps, dPairs l] ∧ d = dPairs (nextPairs ps l) ∧ Sz n ∧ Pats n ps
theorem sc_next_pairs : FnScope ["patterns", "pairs", "known", "pair", "pattern", "after"] ["patterns", "pairs"] MwH.d_next_pairs.scope := ⟨rfl, rfl, rfl, by decide +kernel, rfl, by decide +kernel, by decide +kernel⟩
theorem ok_next_pairs (T : Txt K mg) : Has P w K mg base 4 "next_pairs" ["patterns", "pairs"] (spD K F_next_pairs) := by
  refine has_def (N := ["patterns", "pairs", "known", "pair", "pattern", "after"]) T 45 rfl rfl rfl rfl rfl sc_next_pairs (fun _ _ _ _ _ _ us hl => match us, hl with | [_, _], _ => rfl) (fun ds d h => by obtain ⟨n, ps, l, rfl, rfl, hn, hp⟩ := h; rfl) fun f cdv A outer s H E hr vs B ds dd Q le r hF q => ?_
  obtain ⟨n, ps, l, rfl, rfl, hn, hp⟩ := hF
  obtain ⟨x_patterns, x_pairs, rfl, r_patterns, r_pairs⟩ := RpAll.n2 r
  obtain ⟨f_pair_after, fd_pair_after, m_pair_after, k_pair_after, b_pair_after, G_pair_after⟩ := ok_pair_after (P := P) (w := w) (base := base) T
  obtain ⟨f_are_apart, fd_are_apart, m_are_apart, k_are_apart, b_are_apart, G_are_apart⟩ := ok_are_apart (P := P) (w := w) (base := base) T
  have hu := hu_of hr
  have hu64 := hr.units
  have hu65 := hu65_of hr
  refine ⟨_, (pss_cons (ps_set (i := 2) sc_next_pairs.nd rfl (Or.inl rfl) pe_dnewT) (pss_cons (ps_for PassesOwn.never rfl (pi_listK (K := K) rfl (pv 1)) (pg_name (i := 3) sc_next_pairs.nd rfl (Or.inl rfl)) (pss_one (ps_for PassesOwn.never rfl (pi_listK (K := K) rfl (pv 0)) (pg_name (i := 4) sc_next_pairs.nd rfl (Or.inl rfl)) (pss_cons (ps_set (i := 5) sc_next_pairs.nd rfl (Or.inl rfl) (pe_call G_pair_after (hr.mono (by decide)) (by rfl) m_pair_after k_pair_after b_pair_after .nil pass0 (pa_cons (pv 4) (pa_cons (pv 3) pa_nil)))) (pss_one (ps_if (pt_val (pe_call G_are_apart (hr.mono (by decide)) (by rfl) m_are_apart k_are_apart b_are_apart .nil pass0 (pa_cons (pv 5) pa_nil))) (pss_one (ps_dput hu (pv 2) (pv 5) pe_bl rfl)) pss_nil)))))) (pss_one (ps_ret (pe_callTy (call_list_dT rfl) (by rfl) (T.free 136 rfl) (by decide +kernel) (pa_cons (pv 2) pa_nil)))))), ?_⟩
  have en : nextPairs ps l = l.foldl (fun k z => nextOne ps z k) [] := rfl
  refine fun dk hd0 => ?_
  have m0 : DicInv K B H dk [] B (upd H dk (.dT [])) := ⟨.up le (Ex.new hd0), fresh_back le hd0, [], upd_same, rfl⟩
  refine qd_forL m0.at_.le (gv_var rfl r_pairs) fun a xs B1 H1 a1 hxs rxs => ?_
  have m1 := m0.step a1
  refine ⟨fun i σ' H' => ∃ Bi v3 v4 v5, σ' = [some x_patterns, some x_pairs, some (.ref dk), v3, v4, v5] ∧ Ex B1 Bi ∧ DicInv K B H dk ((l.take i).foldl (fun k z => nextOne ps z k) []) Bi H',
    ⟨B1, none, none, none, rfl, Ex.refl _, m1⟩, fun i σ' H' ⟨Bi, _, _, _, _, e, m⟩ => e.trans m.at_.le, ?_, ?_⟩
  · rintro i x d σ' H' hx hd rx ⟨Bi, v3, v4, v5, rfl, e2, m⟩
    obtain ⟨hit, rfl⟩ := dM_at (0, 0) hd
    have ef := fold_take (f := fun k z => nextOne ps z k) (b := []) (0, 0) hit
    have hok := nexts_ok (l := l.take i) (known := []) hn hp ⟨.nil, fun z hz => by cases hz⟩
    generalize (l.take i).foldl (fun k z => nextOne ps z k) [] = cur at ef m hok
    generalize l.getD i (0, 0) = z at ef rx
    refine sd_forL m.at_.le (gv_var rfl (r_patterns.mono (a1.base.trans e2))) fun a' xs' B2 H2 a2 hxs' rxs' => ?_
    have m2 := m.step a2
    refine ⟨fun j σ'' H'' => ∃ Bj w4 w5, σ'' = [some x_patterns, some x_pairs, some (.ref dk), some x, w4, w5] ∧ Ex B2 Bj ∧ DicInv K B H dk (nextOne (ps.take j) z cur) Bj H'',
      ⟨B2, v4, v5, rfl, Ex.refl _, m2⟩, fun j σ'' H'' ⟨Bj, _, _, _, e, m⟩ => e.trans m.at_.le, ?_, ?_⟩
    · rintro j y d σ'' H'' hy hd2 ry ⟨Bj, w4, w5, rfl, e3, m3⟩
      obtain ⟨hj, rfl⟩ := dM_at [] hd2
      have eg : nextOne (ps.take (j + 1)) z cur = addApart (nextOne (ps.take j) z cur) (pairAfter (ps.getD j []) z) := fold_take (f := fun k p => addApart k (pairAfter p z)) (b := cur) [] hj
      have hok2 := nextOne_ok (z := z) hn (fun p hm => hp p (List.take_subset j ps hm)) hok
      have hsh := hok2.short hn
      have hpat := hp.get hj
      generalize nextOne (ps.take j) z cur = now at eg hok2 hsh m3
      generalize ps.getD j [] = pat at eg ry hpat
      refine qd_asg (d := dPair (pairAfter pat z)) m3.at_.le (gv_call (ga_cons (gv_var rfl (ry.mono e3)) (ga_cons (gv_var rfl (rx.mono ((e2.trans a2.base).trans e3))) ga_nil)) ⟨n, pat, z, rfl, rfl, hn, hpat⟩) fun va B4 H4 a4 r4 => ?_
      have m4 := m3.step a4
      generalize pairAfter pat z = aft at eg r4
      refine sd_if (b := areApart aft) m4.at_.le (et_test (gv_callB (ga_cons (gv_var rfl r4) ga_nil) ⟨aft, rfl, rfl⟩)) (fun hb H5 e5 => ?_) (fun hb H5 e5 => ?_)
      · obtain ⟨kvs, hD, hk⟩ := m4.ex
        rw [dPair_pk] at r4
        obtain ⟨b, rfl, hbt⟩ := r4.isKey
        have hl : kvs.length = now.length := by rw [hk.len, List.length_map]
        refine ⟨.ref dk, rfl, .ref b, rfl, dk, _, rfl, DPut.t (e5 _ _ hD) (e5 _ _ (m4.at_.le _ _ hbt)) (sz_lt (by omega)), ?_⟩
        refine ⟨B4, _, _, rfl, e3.trans a4.base, (m4.at_.ex e5).mut m4.nD hd0, m4.nD, _, upd_same, ?_⟩
        rw [eg]
        unfold addApart
        rw [if_pos hb]
        exact hk.add aft _
      · refine ⟨B4, _, _, rfl, e3.trans a4.base, ?_⟩
        rw [eg]
        unfold addApart
        rw [hb, if_neg (by decide)]
        obtain ⟨kvs, hD, hk⟩ := m4.ex
        exact ⟨m4.at_.ex e5, m4.nD, kvs, e5 _ _ hD, hk⟩
    · rintro σ'' H'' ⟨Bj, w4, w5, rfl, e3, m3⟩
      rw [List.length_map, List.take_length] at m3
      refine ⟨Bj, _, _, _, rfl, (e2.trans a2.base).trans e3, ?_⟩
      rw [ef]
      exact m3
  · rintro σ' H' ⟨Bi, v3, v4, v5, rfl, e2, m⟩
    rw [List.length_map, List.take_length, ← en] at m
    obtain ⟨kvs, hD, hk⟩ := m.ex
    refine ⟨_, rfl, dk, kvs, rfl, .inl hD, fun p bs hp0 hb => ?_⟩
    have hj : Ex (joinB Bi (tupB H')) H' := join_le m.at_.le tupB_le
    have a2 : At Bi H' (joinB Bi (tupB H')) H' := ⟨join_l, hj, Ex.refl _, fun x u e => by
      unfold joinB at e
      cases c : Bi x with
      | some o =>
        rw [c] at e
        exact .inl e
      | none =>
        rw [c] at e
        exact .inr (.inr (tupB_tup e))⟩
    refine q _ _ _ ((m.at_.trans a2).trans (At.new hj hp0)) (.lst upd_same ?_)
    have r1 := keys_rp (K := K) hb hk
    rw [List.map_map] at r1
    exact (r1.mono (join_r m.at_.le tupB_le)).mono (Ex.new (fresh_back hj hp0))
end
end Mw
end
section
set_option Elab.async false
set_option linter.all false
set_option maxRecDepth 100000
set_option maxHeartbeats 4000000
/-! # Walks: the mixing index, the pairs that last -/
namespace Mw
open PySem PySem.Spec PyProof.Rows L2 Evl
section
variable {P : Program} {w : World} {K : Frg} {mg : Str → Option Value} {base : Heap}
def dOptN : Option Nat → PyData
  | none => .none
  | some m => dI m
def F_mixing_index (ds : List PyData) (d : PyData) : Prop := ∃ n ps, ds = [dI n, dTs ps] ∧ d = dOptN (mixingIndex n ps) ∧ Sz n ∧ Pats n ps
theorem sc_mixing_index : FnScope ["size", "patterns", "pairs", "length"] ["size", "patterns"] MwH.d_mixing_index.scope := ⟨rfl, rfl, rfl, by decide +kernel, rfl, by decide +kernel, by decide +kernel⟩
theorem ok_mixing_index (T : Txt K mg) : Has P w K mg base 5 "mixing_index" ["size", "patterns"] (spD K F_mixing_index) := by
  refine has_def (N := ["size", "patterns", "pairs", "length"]) T 46 rfl rfl rfl rfl rfl sc_mixing_index (fun _ _ _ _ _ _ us hl => match us, hl with | [_, _], _ => rfl) (fun ds d h => by obtain ⟨n, ps, rfl, rfl, hn, hp⟩ := h; rfl) fun f cdv A outer s H E hr vs B ds dd Q le r hF q => ?_
  obtain ⟨n, ps, rfl, rfl, hn, hp⟩ := hF
  obtain ⟨x_size, x_patterns, rfl, r_size, r_patterns⟩ := RpAll.n2 r
  obtain ⟨f_first_pairs, fd_first_pairs, m_first_pairs, k_first_pairs, b_first_pairs, G_first_pairs⟩ := ok_first_pairs (P := P) (w := w) (base := base) T
  obtain ⟨f_next_pairs, fd_next_pairs, m_next_pairs, k_next_pairs, b_next_pairs, G_next_pairs⟩ := ok_next_pairs (P := P) (w := w) (base := base) T
  have hu := hu_of hr
  have hu64 := hr.units
  have hu65 := hu65_of hr
  refine ⟨_, (pss_cons (ps_set (i := 2) sc_mixing_index.nd rfl (Or.inl rfl) (pe_call G_first_pairs (hr.mono (by decide)) (by rfl) m_first_pairs k_first_pairs b_first_pairs .nil pass0 (pa_cons (pv 0) pa_nil))) (pss_cons (ps_for PassesOwn.never rfl (pi_range1 (by rfl) (T.free 133 rfl) (pa_cons (pe_op op_add (pe_op op_shl pe_int (pe_op op_mul pe_int (pv 0))) pe_int) pa_nil)) (pg_name (i := 3) sc_mixing_index.nd rfl (Or.inl rfl)) (pss_cons (ps_if (pt_cmpR (op_eqDK (K := K) rfl hu64) (pv 2) (pe_lst pa_nil) (nomark _)) (pss_one (ps_ret (pv 3))) pss_nil) (pss_one (ps_set (i := 2) sc_mixing_index.nd rfl (Or.inl rfl) (pe_call G_next_pairs (hr.mono (by decide)) (by rfl) m_next_pairs k_next_pairs b_next_pairs .nil pass0 (pa_cons (pv 1) (pa_cons (pv 2) pa_nil))))))) (pss_one (ps_ret pe_non)))), ?_⟩
  have h3 := hn.le
  have h64 : 2 ^ (2 * n) ≤ 64 := by rcases hn with rfl | rfl | rfl <;> decide
  refine qd_asg (d := dPairs (firstPairs n)) le (gv_call (ga_cons (gv_var rfl r_size) ga_nil) ⟨n, rfl, rfl, hn⟩) fun v2 B1 H1 a1 r1 => ?_
  refine qd_forR (n := 2 ^ (2 * n) + 1) a1.le (ea_cons (ev_add (ev_shl1 (b := 2 * n) (by omega) ev_c (ev_mul (a := 2) (b := n) (.inl (by omega)) ev_n (ev_v rfl (r_size.mono a1.base)))) (ev_n (a := 1))) ea_nil) (by omega)
    (fun i σ' H' => ∃ Bi vp v3, σ' = [some x_size, some x_patterns, some vp, v3] ∧ At B H Bi H' ∧ Rp K Bi vp (dPairs (pairsAt n ps i)) ∧ ∀ k, k < i → (pairsAt n ps k).isEmpty = false)
    (fun H2 e2 => ⟨B1, v2, none, rfl, a1.ex e2, r1, fun k hk => absurd hk (Nat.not_lt_zero k)⟩) ?_ ?_
  · rintro i σ' H' hi ⟨Bi, vp, v3, rfl, b, rp, hno⟩
    refine qd_if (b := ((pairsAt n ps i).map dPair).isEmpty) b.le (et_test (ev_eqE (gv_var rfl rp) (shp_pairs _).ok)) (fun hb H2 e2 => ?_) (fun hb H2 e2 => ?_)
    · rw [List.isEmpty_map] at hb
      have e : mixingIndex n ps = some i := find_first hi hb hno
      rw [e] at q
      exact qd_ret (K := K) (d := dI i) (b.le.trans e2) (.int (ev_var rfl)) fun v B' H'' a r => q v B' H'' ((b.ex e2).trans a) r
    · rw [List.isEmpty_map] at hb
      refine sd_asg (d := dPairs (pairsAt n ps (i + 1))) (b.le.trans e2) (gv_call (ga_cons (gv_var rfl (r_patterns.mono b.base)) (ga_cons (gv_var rfl rp) ga_nil)) ⟨n, ps, _, rfl, rfl, hn, hp⟩) fun v B' H'' a r => ?_
      refine ⟨B', v, _, rfl, (b.ex e2).trans a, r, fun k hk => ?_⟩
      rcases Nat.lt_succ_iff_lt_or_eq.mp hk with h | h
      · exact hno k h
      · rw [h]
        exact hb
  · rintro σ' H' ⟨Bi, vp, v3, rfl, b, rp, hno⟩
    have e : mixingIndex n ps = none := find_no hno
    rw [e] at q
    exact q _ _ _ b .non
section
variable {σ : L2.St} {B H : Hp} {ta : TA} {tu tz : TS} {D : Ends}
theorem qd_forR2 {j lo hi : Nat} (le : Ex B H) (h : EvA ta σ B [.int (lo : Int), .int (hi : Int)]) (hn : lo ≤ 100000 ∧ hi ≤ 100000) (Pv : Nat → L2.St → Hp → Prop) (h0 : ∀ H1, Ex H H1 → Pv 0 σ H1)
    (hs : ∀ (i : Nat) σ' H', lo + i < hi → Pv i σ' H' → tu { D with nx := Pv (i + 1), ct := Pv (i + 1), bk := tz D } (σ'.set j (some (.int ((lo + i : Nat) : Int)))) H') (hd : ∀ σ' H', Pv (hi - lo) σ' H' → tz D σ' H') : tSeq (tFor (iRng2 ta) (gName j) tu) tz D σ H :=
  q_forR2 (h.mono le) ⟨by omega, by omega, by omega, by omega⟩ Pv h0 (fun i σ' H' hi p => by
    have e : (lo : Int) + (i : Int) = ((lo + i : Nat) : Int) := by omega
    rw [e]
    exact hs i σ' H' (by omega) p) fun σ' H' p => hd σ' H' (by
    have e : ((hi : Int) - (lo : Int)).toNat = hi - lo := by omega
    rw [e] at p
    exact p)
theorem sd_forR2 {j lo hi : Nat} (le : Ex B H) (h : EvA ta σ B [.int (lo : Int), .int (hi : Int)]) (hn : lo ≤ 100000 ∧ hi ≤ 100000) (Pv : Nat → L2.St → Hp → Prop) (h0 : ∀ H1, Ex H H1 → Pv 0 σ H1)
    (hs : ∀ (i : Nat) σ' H', lo + i < hi → Pv i σ' H' → tu { D with nx := Pv (i + 1), ct := Pv (i + 1), bk := D.nx } (σ'.set j (some (.int ((lo + i : Nat) : Int)))) H') (hd : ∀ σ' H', Pv (hi - lo) σ' H' → D.nx σ' H') : tFor (iRng2 ta) (gName j) tu D σ H :=
  s_forR2 (h.mono le) ⟨by omega, by omega, by omega, by omega⟩ Pv h0 (fun i σ' H' hi p => by
    have e : (lo : Int) + (i : Int) = ((lo + i : Nat) : Int) := by omega
    rw [e]
    exact hs i σ' H' (by omega) p) fun σ' H' p => hd σ' H' (by
    have e : ((hi : Int) - (lo : Int)).toNat = hi - lo := by omega
    rw [e] at p
    exact p)
end
def allFrom (n i : Nat) : List (Nat × Nat) := ((List.range (2 ^ n - 1)).map fun j => (i + 1, j + 1)).filter areApart
theorem all_pairs (n : Nat) : allPairs n = (List.range (2 ^ n - 1)).flatMap (allFrom n) := rfl
theorem allFrom_len (n i : Nat) : (allFrom n i).length ≤ 2 ^ n - 1 := by
  unfold allFrom
  have := List.length_filter_le areApart ((List.range (2 ^ n - 1)).map fun j => (i + 1, j + 1))
  rw [List.length_map, List.length_range] at this
  exact this
theorem alls_len (n i : Nat) : ((List.range i).flatMap (allFrom n)).length ≤ i * (2 ^ n - 1) := by
  have := flat_len (l := List.range i) (f := allFrom n) (b := 2 ^ n - 1) fun x _ => allFrom_len n x
  rw [List.length_range] at this
  exact this
theorem all_len {n : Nat} (hn : Sz n) : (allPairs n).length ≤ 49 := by
  rw [all_pairs]
  have h8 := pow_le8 hn
  have h := alls_len n (2 ^ n - 1)
  have h2 : (2 ^ n - 1) * (2 ^ n - 1) ≤ 7 * 7 := Nat.mul_le_mul (by omega) (by omega)
  omega
def F_all_pairs (ds : List PyData) (d : PyData) : Prop := ∃ n, ds = [dI n] ∧ d = dPairs (allPairs n) ∧ Sz n
theorem sc_all_pairs : FnScope ["size", "found", "one", "other"] ["size"] MwH.d_all_pairs.scope := ⟨rfl, rfl, rfl, by decide +kernel, rfl, by decide +kernel, by decide +kernel⟩
theorem ok_all_pairs (T : Txt K mg) : Has P w K mg base 2 "all_pairs" ["size"] (spD K F_all_pairs) := by
  refine has_def (N := ["size", "found", "one", "other"]) T 47 rfl rfl rfl rfl rfl sc_all_pairs (fun _ _ _ _ _ _ us hl => match us, hl with | [_], _ => rfl) (fun ds d h => by obtain ⟨n, rfl, rfl, hn⟩ := h; rfl) fun f cdv A outer s H E hr vs B ds dd Q le r hF q => ?_
  obtain ⟨n, rfl, rfl, hn⟩ := hF
  obtain ⟨x_size, rfl, r_size⟩ := RpAll.n1 r
  obtain ⟨f_are_apart, fd_are_apart, m_are_apart, k_are_apart, b_are_apart, G_are_apart⟩ := ok_are_apart (P := P) (w := w) (base := base) T
  refine ⟨_, (pss_cons (ps_set (i := 1) sc_all_pairs.nd rfl (Or.inl rfl) (pe_lst pa_nil)) (pss_cons (ps_for PassesOwn.never rfl (pi_range2 (by rfl) (T.free 133 rfl) (pa_cons pe_int (pa_cons (pe_op op_shl pe_int (pv 0)) pa_nil))) (pg_name (i := 2) sc_all_pairs.nd rfl (Or.inr rfl)) (pss_one (ps_expr (pe_bm PySem.F.plainAttrs_list PySem.F.slot_list_extend PySem.F.type_list_extend mt_extend (pv 1) (pa_cons (pe_lc (own := [("other", 3)]) rfl sc_all_pairs.nd (pi_range2 (by rfl) (T.free 133 rfl) (pa_cons pe_int (pa_cons (pe_op op_shl pe_int (pv 0)) pa_nil))) (blkOk_by (own := [("other", 3)]) (N := ["size", "found", "one", "other"]) (sc := MwH.d_all_pairs.scope) (by decide +kernel)) (fun _ _ _ _ _ => (pg_name (i := 3) sc_all_pairs.nd rfl (Or.inl rfl))) (fun _ _ _ _ _ => (pts_one (pt_val (pe_call G_are_apart (hr.mono (by decide)) (by rfl) m_are_apart k_are_apart b_are_apart .nil pass0 (pa_cons (pe_tup (pa_cons (pv 2) (pa_cons (pv 3) pa_nil))) pa_nil))))) (fun _ _ _ _ _ => (pe_tup (pa_cons (pv 2) (pa_cons (pv 3) pa_nil))))) pa_nil))))) (pss_one (ps_ret (pv 1))))), ?_⟩
  have h3 := hn.le
  have h8 := pow_le8 hn
  have h1 := Nat.two_pow_pos n
  refine qd_newL le el_empty fun p H0 hp0 hpB e0 hpl => ?_
  refine qd_forR2 (lo := 1) (hi := 2 ^ n) (le.trans e0) (ea_cons ev_n (ea_cons (ev_shl1 (by omega) ev_c (ev_v rfl r_size)) ea_nil)) ⟨by omega, by omega⟩
    (fun i σ' H' => ∃ Bi acc v2, σ' = [some x_size, some (.ref p), v2, none] ∧ At B H Bi H' ∧ Bi p = none ∧ H' p = some (.lst acc) ∧ RpAll K Bi acc (((List.range i).flatMap (allFrom n)).map dPair))
    (fun H1 e1 => ⟨B, [], none, rfl, .up le (e0.trans e1), hpB, e1 _ _ hpl, .nil⟩) ?_ ?_
  · rintro i σ' H' hi ⟨Bi, acc, v2, rfl, b, nb, hP, racc⟩
    have h5 := alls_len n i
    have h6 := allFrom_len n i
    have h7 : i * (2 ^ n - 1) ≤ 7 * 7 := Nat.mul_le_mul (by omega) (by omega)
    refine sd_extend (es := (allFrom n i).map dPair) b hp0 nb hP ?_ (fun H' _ => ev_var rfl) (Gv.is (gv_lcR2 (lo := 1) (n := 2 ^ n - 1) (hi := 2 ^ n) (fun j => areApart (1 + i, 1 + j)) (fun j => dPair (1 + i, 1 + j)) (ea_cons ev_n (ea_cons (ev_shl1 (by omega) ev_c (ev_v rfl (r_size.mono b.base))) ea_nil)) rfl ⟨by omega, by omega⟩ fun j B6 e6 hj => turn_name (fun _ => rfl)
      (et_test (gv_callB (ga_cons (gv_pair (ev_var rfl) (ev_var rfl)) ga_nil) ⟨_, rfl, rfl⟩)) fun _ => gv_pair (ev_var rfl) (ev_var rfl)) ?_) fun ys B' H4 c2 e4 hB' rys hp' _ => ?_
    · have h4 := racc.len
      rw [List.length_map] at h4
      rw [List.length_map]
      omega
    · unfold gvn allFrom
      rw [List.filter_map, List.map_map]
      have e1 : (fun j => areApart (1 + i, 1 + j)) = areApart ∘ fun j => (i + 1, j + 1) := by
        funext j
        show areApart (1 + i, 1 + j) = areApart (i + 1, j + 1)
        rw [Nat.add_comm 1 i, Nat.add_comm 1 j]
      have e2 : (fun j => dPair (1 + i, 1 + j)) = dPair ∘ fun j => (i + 1, j + 1) := by
        funext j
        show dPair (1 + i, 1 + j) = dPair (i + 1, j + 1)
        rw [Nat.add_comm 1 i, Nat.add_comm 1 j]
      rw [e1, e2]
    · refine ⟨B', _, _, rfl, c2, hB', hp', ?_⟩
      rw [flat_range, List.map_append]
      exact (racc.mono e4).append rys
  · rintro σ' H' ⟨Bi, acc, v2, rfl, b, nb, hP, racc⟩
    rw [← all_pairs] at racc
    exact sd_ret rfl b hp0 nb hP racc q
theorem eqv_pair (y z : Nat × Nat) : PyData.eqv (dPair y) (dPair z) = decide (y = z) := by
  show (((y.1 : Int) == (z.1 : Int)) && (((y.2 : Int) == (z.2 : Int)) && true)) = _
  rw [Bool.and_true]
  by_cases h : y = z
  · rw [h, decide_eq_true rfl]
    simp
  · rw [decide_eq_false h]
    by_cases h1 : y.1 = z.1
    · have h2 : ¬ y.2 = z.2 := fun e => h (Prod.ext h1 e)
      have e : ((y.2 : Int) == (z.2 : Int)) = false := beq_eq_false_iff_ne.mpr (by omega)
      rw [e, Bool.and_false]
    · have e : ((y.1 : Int) == (z.1 : Int)) = false := beq_eq_false_iff_ne.mpr (by omega)
      rw [e, Bool.false_and]
theorem any_pair (l : List (Nat × Nat)) (z : Nat × Nat) : (l.map dPair).any (fun w => PyData.eqv w (dPair z)) = l.contains z := by
  rw [List.any_map]
  induction l with
  | nil => rfl
  | cons y r ih =>
    rw [List.any_cons, ih, List.contains_cons]
    congr 1
    show PyData.eqv (dPair y) (dPair z) = (z == y)
    rw [eqv_pair]
    by_cases h : y = z
    · rw [h]
      simp
    · rw [decide_eq_false h]
      exact (beq_eq_false_iff_ne.mpr fun e => h e.symm).symm
theorem ev_inP {σ : L2.St} {B : Hp} {te tl : TE} {z : Nat × Nat} {l : List (Nat × Nat)} (h : Gv K te σ B (dPair z)) (hl : Gv K tl σ B (dPairs l)) : Ev (tOp (rInD K) te tl) σ B (.bl (l.contains z)) := fun H le Q q =>
  h H le _ fun v B1 H1 a1 r1 => (hl.mono a1.base) H1 a1.le _ fun u B2 H2 a2 r2 => ⟨dPair z, l.map dPair, Rp.dp K _ _ _ (shp_pair z).lay ((r1.mono a2.base).mono a2.le), Rp.dp K _ _ _ (shp_pairs l).lay (r2.mono a2.le), (shp_pair z).ok, (shp_pairs l).ok, by
    rw [any_pair]
    exact q H2 (a1.keep.trans a2.keep)⟩
def F_first_matrix_into (ds : List PyData) (d : PyData) : Prop := ∃ n ps z kept, ds = [dTs ps, dPair z, dPairs kept] ∧ d = dOptN (firstMatrixInto ps z kept) ∧ Sz n ∧ Pats n ps
theorem sc_first_matrix_into : FnScope ["patterns", "pair", "kept", "matrix", "pattern"] ["patterns", "pair", "kept"] MwH.d_first_matrix_into.scope := ⟨rfl, rfl, rfl, by decide +kernel, rfl, by decide +kernel, by decide +kernel⟩
theorem ok_first_matrix_into (T : Txt K mg) : Has P w K mg base 4 "first_matrix_into" ["patterns", "pair", "kept"] (spD K F_first_matrix_into) := by
  refine has_def (N := ["patterns", "pair", "kept", "matrix", "pattern"]) T 48 rfl rfl rfl rfl rfl sc_first_matrix_into (fun _ _ _ _ _ _ us hl => match us, hl with | [_, _, _], _ => rfl) (fun ds d h => by obtain ⟨n, ps, z, kept, rfl, rfl, hn, hp⟩ := h; rfl) fun f cdv A outer s H E hr vs B ds dd Q le r hF q => ?_
  obtain ⟨n, ps, z, kept, rfl, rfl, hn, hp⟩ := hF
  obtain ⟨x_patterns, x_pair, x_kept, rfl, r_patterns, r_pair, r_kept⟩ := RpAll.n3 r
  obtain ⟨f_pair_after, fd_pair_after, m_pair_after, k_pair_after, b_pair_after, G_pair_after⟩ := ok_pair_after (P := P) (w := w) (base := base) T
  have hu := hu_of hr
  have hu64 := hr.units
  have hu65 := hu65_of hr
  refine ⟨_, (pss_cons (ps_for PassesOwn.never rfl (pi_enumK (K := K) rfl (by rfl) (T.free 135 rfl) (pa_cons (pv 0) pa_nil)) (pg_tupK (K := K) (n := 2) rfl rfl (pgs_cons (pg_name (i := 3) sc_first_matrix_into.nd rfl (Or.inl rfl)) (pgs_cons (pg_name (i := 4) sc_first_matrix_into.nd rfl (Or.inl rfl)) pgs_nil))) (pss_one (ps_if (pt_cmpR (op_inDK (K := K) rfl hu65) (pe_call G_pair_after (hr.mono (by decide)) (by rfl) m_pair_after k_pair_after b_pair_after .nil pass0 (pa_cons (pv 4) (pa_cons (pv 1) pa_nil))) (pv 2) (by rfl)) (pss_one (ps_ret (pv 3))) pss_nil))) (pss_one (ps_ret pe_non))), ?_⟩
  refine qd_forE le (ga_cons (gv_var rfl r_patterns) ga_nil) fun a xs B1 H1 a1 hxs rxs => ?_
  refine ⟨fun i σ' H' => (∃ v3 v4, σ' = [some x_patterns, some x_pair, some x_kept, v3, v4]) ∧ Ex H1 H' ∧ ∀ j, j < i → kept.contains (pairAfter (ps.getD j []) z) = false,
    ⟨⟨none, none, rfl⟩, Ex.refl _, fun j hj => absurd hj (Nat.not_lt_zero j)⟩, fun i σ' H' h => a1.le.trans h.2.1, ?_, ?_⟩
  · rintro i x d σ' H' hd rx ⟨⟨v3, v4, rfl⟩, e1, hno⟩ H2 eH
    obtain ⟨hi, rfl⟩ := dM_at [] hd
    have b2 : At B H B1 H2 := (a1.ex e1).ex eH
    refine sd_if (b := kept.contains (pairAfter (ps.getD i []) z)) b2.le (et_test (ev_inP (gv_call (ga_cons (gv_var rfl rx) (ga_cons (gv_var rfl (r_pair.mono a1.base)) ga_nil)) ⟨n, _, z, rfl, rfl, hn, hp.get hi⟩) (gv_var rfl (r_kept.mono a1.base)))) (fun hb H3 e3 => ?_) (fun hb H3 e3 => ?_)
    · have e : firstMatrixInto ps z kept = some i := find_first hi hb hno
      rw [e] at q
      exact qd_ret (K := K) (d := dI i) (b2.le.trans e3) (.int (ev_var rfl)) fun v B' H'' a r => q v B' H'' ((b2.ex e3).trans a) r
    · refine ⟨⟨_, _, rfl⟩, (e1.trans eH).trans e3, fun j hj => ?_⟩
      rcases Nat.lt_succ_iff_lt_or_eq.mp hj with h | h
      · exact hno j h
      · rw [h]
        exact hb
  · rintro σ' H' ⟨⟨v3, v4, rfl⟩, e1, hno⟩
    rw [List.length_map] at hno
    have e : firstMatrixInto ps z kept = none := find_no hno
    rw [e] at q
    exact q _ _ _ (a1.ex e1) .non
theorem ev_notNO {σ : L2.St} {B : Hp} {te : TE} {o : Option Nat} (h : Gv K te σ B (dOptN o)) : Ev (tOp rNotN te (tC .non)) σ B (.bl o.isSome) := by
  cases o with
  | none => exact ev_notN1 h
  | some m => exact ev_notN0I h
def F_lasting_pairs (ds : List PyData) (d : PyData) : Prop := ∃ n ps, ds = [dI n, dTs ps] ∧ d = dPairs (lastingPairs n ps) ∧ Sz n ∧ Pats n ps
theorem sc_lasting_pairs : FnScope ["size", "patterns", "kept", "turn", "fewer", "pair"] ["size", "patterns"] MwH.d_lasting_pairs.scope := ⟨rfl, rfl, rfl, by decide +kernel, rfl, by decide +kernel, by decide +kernel⟩
theorem ok_lasting_pairs (T : Txt K mg) : Has P w K mg base 5 "lasting_pairs" ["size", "patterns"] (spD K F_lasting_pairs) := by
  refine has_def (N := ["size", "patterns", "kept", "turn", "fewer", "pair"]) T 49 rfl rfl rfl rfl rfl sc_lasting_pairs (fun _ _ _ _ _ _ us hl => match us, hl with | [_, _], _ => rfl) (fun ds d h => by obtain ⟨n, ps, rfl, rfl, hn, hp⟩ := h; rfl) fun f cdv A outer s H E hr vs B ds dd Q le r hF q => ?_
  obtain ⟨n, ps, rfl, rfl, hn, hp⟩ := hF
  obtain ⟨x_size, x_patterns, rfl, r_size, r_patterns⟩ := RpAll.n2 r
  obtain ⟨f_all_pairs, fd_all_pairs, m_all_pairs, k_all_pairs, b_all_pairs, G_all_pairs⟩ := ok_all_pairs (P := P) (w := w) (base := base) T
  obtain ⟨f_first_matrix_into, fd_first_matrix_into, m_first_matrix_into, k_first_matrix_into, b_first_matrix_into, G_first_matrix_into⟩ := ok_first_matrix_into (P := P) (w := w) (base := base) T
  refine ⟨_, (pss_cons (ps_set (i := 2) sc_lasting_pairs.nd rfl (Or.inr rfl) (pe_call G_all_pairs (hr.mono (by decide)) (by rfl) m_all_pairs k_all_pairs b_all_pairs .nil pass0 (pa_cons (pv 0) pa_nil))) (pss_cons (ps_for PassesOwn.never rfl (pi_range1 (by rfl) (T.free 133 rfl) (pa_cons (pe_op op_add (pe_callB (call_lenK (K := K) rfl) (by rfl) (T.free 131 rfl) (by decide +kernel) (pa_cons (pv 2) pa_nil)) pe_int) pa_nil)) (pg_name (i := 3) sc_lasting_pairs.nd rfl (Or.inl rfl)) (pss_cons (ps_setLc (i := 4) (own := [("pair", 5)]) rfl sc_lasting_pairs.nd rfl rfl (sw_true rfl rfl rfl (by decide +kernel)) (pi_listK (K := K) rfl (pv 2)) (blkOk_by (own := [("pair", 5)]) (N := ["size", "patterns", "kept", "turn", "fewer", "pair"]) (sc := MwH.d_lasting_pairs.scope) (by decide +kernel)) (fun _ _ _ _ _ => (pg_name (i := 5) sc_lasting_pairs.nd rfl (Or.inl rfl))) (fun _ _ _ _ _ => (pts_one (pt_cmpR op_notN (pe_call G_first_matrix_into (hr.mono (by decide)) (by rfl) m_first_matrix_into k_first_matrix_into b_first_matrix_into .nil pass0 (pa_cons (pv 1) (pa_cons (pv 5) (pa_cons (pv 2) pa_nil)))) pe_non (nomark _)))) (fun _ _ _ _ _ => (pv 5))) (pss_cons (ps_if (pt_cmpR op_eq (pe_callB (call_lenK (K := K) rfl) (by rfl) (T.free 131 rfl) (by decide +kernel) (pa_cons (pv 4) pa_nil)) (pe_callB (call_lenK (K := K) rfl) (by rfl) (T.free 131 rfl) (by decide +kernel) (pa_cons (pv 2) pa_nil)) (nomark _)) (pss_one ps_break) pss_nil) (pss_one (ps_set (i := 2) sc_lasting_pairs.nd rfl (Or.inr rfl) (pv 4)))))) (pss_one (ps_ret (pv 2))))), ?_⟩
  have h49 := all_len hn
  have eL : lastingPairs n ps = lastingLoop ps ((allPairs n).length + 1) (allPairs n) := rfl
  refine qd_asg (d := dPairs (allPairs n)) le (gv_call (ga_cons (gv_var rfl r_size) ga_nil) ⟨n, rfl, rfl, hn⟩) fun v2 B1 H1 a1 r1 => ?_
  generalize allPairs n = al at h49 eL r1
  refine qd_forR (n := al.length + 1) a1.le (ea_cons (ev_add (ev_lenM (f := dPair) (ga_cons (gv_var rfl r1) ga_nil)) (ev_n (a := 1))) ea_nil) (by omega)
    (fun i σ' H' => ∃ Bi kept vk v3 v4, σ' = [some x_size, some x_patterns, some vk, v3, v4, none] ∧ At B H Bi H' ∧ Rp K Bi vk (dPairs kept) ∧ kept.length ≤ 49 ∧ lastingLoop ps (al.length + 1 - i) kept = lastingPairs n ps)
    (fun H2 e2 => ⟨B1, al, v2, none, none, rfl, a1.ex e2, r1, h49, eL.symm⟩) ?_ ?_
  · rintro i σ' H' hi ⟨Bi, kept, vk, v3, v4, rfl, b, rk, hk, hloop⟩
    obtain ⟨f3, ef⟩ : ∃ f3, al.length + 1 - i = f3 + 1 := ⟨al.length - i, by omega⟩
    rw [ef] at hloop
    refine qd_asg (d := dPairs (keptFewer ps kept)) b.le (Gv.is (gv_lcL (fun i => (firstMatrixInto ps (kept.getD i (0, 0)) kept).isSome) (fun i => dPair (kept.getD i (0, 0))) (gv_var rfl rk) (by rw [List.length_map]; omega) fun m z d B6 e6 hd6 rz => ?_) ?_) fun v4' B4 H4 a4 r4 => ?_
    · obtain ⟨hm, rfl⟩ := dM_at (0, 0) hd6
      exact turn_name (fun _ => rfl) (et_test (ev_notNO (gv_call (ga_cons (gv_var rfl (r_patterns.mono (b.base.trans e6))) (ga_cons (gv_var rfl rz) (ga_cons (gv_var rfl (rk.mono e6)) ga_nil))) ⟨n, ps, _, kept, rfl, rfl, hn, hp⟩))) fun _ => gv_var rfl rz
    · rw [List.length_map]
      exact congrArg PyData.list (filter_data (0, 0) (fun z => (firstMatrixInto ps z kept).isSome) kept)
    · have b4 := b.trans a4
      have hle : (keptFewer ps kept).length ≤ kept.length := List.length_filter_le _ _
      refine qd_if (b := decide ((keptFewer ps kept).length = kept.length)) b4.le (et_test (ev_eq (ev_lenM (f := dPair) (ga_cons (gv_var rfl r4) ga_nil)) (ev_lenM (f := dPair) (ga_cons (gv_var rfl (rk.mono a4.base)) ga_nil)))) (fun hb H5 e5 => ?_) (fun hb H5 e5 => ?_)
      · have e : lastingLoop ps (f3 + 1) kept = kept := if_pos (of_decide_eq_true hb)
        rw [← hloop, e] at q
        exact ⟨_, rfl, q _ _ _ (b4.ex e5) (rk.mono a4.base)⟩
      · have e : lastingLoop ps (f3 + 1) kept = lastingLoop ps f3 (keptFewer ps kept) := if_neg (of_decide_eq_false hb)
        rw [e] at hloop
        refine sd_asg (d := dPairs (keptFewer ps kept)) (b4.le.trans e5) (gv_var rfl r4) fun v6 B6 H6 a6 r6 => ?_
        refine ⟨B6, _, v6, _, _, rfl, (b4.ex e5).trans a6, r6, by omega, ?_⟩
        rw [← hloop]
        congr 1
        omega
  · rintro σ' H' ⟨Bi, kept, vk, v3, v4, rfl, b, rk, hk, hloop⟩
    rw [Nat.sub_self] at hloop
    have e : lastingPairs n ps = kept := hloop.symm
    rw [e] at q
    exact qd_ret b.le (gv_var rfl rk) fun v B' H'' a r => q v B' H'' (b.trans a) r
end
end Mw
end
section
set_option Elab.async false
set_option linter.all false
set_option maxRecDepth 100000
set_option maxHeartbeats 4000000
/-! # Walks: the walk apart, the separating words -/
namespace Mw
open PySem PySem.Spec PyProof.Rows L2 Evl
/-! ### plain -/
theorem first_into {ps : List (List Nat)} {z : Nat × Nat} {kept : List (Nat × Nat)} {k : Nat} (h : firstMatrixInto ps z kept = some k) : k < ps.length ∧ pairAfter (ps.getD k []) z ∈ kept := by
  unfold firstMatrixInto at h
  have h1 := List.mem_of_find?_eq_some h
  have h2 := List.find?_some h
  exact ⟨List.mem_range.mp h1, List.contains_iff_mem.mp h2⟩
theorem lasting_fix {ps : List (List Nat)} : ∀ (f : Nat) (kept : List (Nat × Nat)), kept.length < f → ∀ z ∈ lastingLoop ps f kept, ∃ k, firstMatrixInto ps z (lastingLoop ps f kept) = some k
  | 0, _, h => absurd h (Nat.not_lt_zero _)
  | f + 1, kept, h => by
    show ∀ z ∈ (if (keptFewer ps kept).length = kept.length then kept else lastingLoop ps f (keptFewer ps kept)), ∃ k, firstMatrixInto ps z (if (keptFewer ps kept).length = kept.length then kept else lastingLoop ps f (keptFewer ps kept)) = some k
    by_cases c : (keptFewer ps kept).length = kept.length
    · rw [if_pos c]
      intro z hz
      have h2 := List.length_filter_eq_length_iff.mp c z hz
      exact Option.isSome_iff_exists.mp h2
    · rw [if_neg c]
      have h2 : (keptFewer ps kept).length ≤ kept.length := List.length_filter_le _ _
      exact lasting_fix f _ (by omega)
theorem lasting_ok {n : Nat} {ps : List (List Nat)} : ∀ z ∈ lastingPairs n ps, ∃ k, firstMatrixInto ps z (lastingPairs n ps) = some k := lasting_fix _ _ (Nat.lt_succ_self _)
theorem lasting_le {ps : List (List Nat)} : ∀ (f : Nat) (kept : List (Nat × Nat)), (lastingLoop ps f kept).length ≤ kept.length
  | 0, _ => Nat.le_refl _
  | f + 1, kept => by
    show (if (keptFewer ps kept).length = kept.length then kept else lastingLoop ps f (keptFewer ps kept)).length ≤ _
    split
    · exact Nat.le_refl _
    · exact Nat.le_trans (lasting_le f _) (List.length_filter_le _ _)
theorem lasting_len {n : Nat} (hn : Sz n) (ps : List (List Nat)) : (lastingPairs n ps).length ≤ 49 := Nat.le_trans (lasting_le _ _) (all_len hn)
theorem find_flat {β : Type} {n i : Nat} {f : Nat → List β} {p : β → Bool} {x : β} (hi : i < n) (hno : ∀ k, k < i → (f k).find? p = none) (hx : (f i).find? p = some x) : ((List.range n).flatMap f).find? p = some x := by
  obtain ⟨k, rfl⟩ : ∃ k, n = (i + 1) + k := ⟨n - (i + 1), by omega⟩
  rw [List.range_add, List.flatMap_append, flat_range, List.append_assoc, List.find?_append]
  have e : ((List.range i).flatMap f).find? p = none := List.find?_eq_none.mpr fun y hy => by
    obtain ⟨k, hk, hy⟩ := List.mem_flatMap.mp hy
    exact List.find?_eq_none.mp (hno k (List.mem_range.mp hk)) y hy
  rw [e, List.find?_append, hx]
  rfl
theorem find_flat_no {β : Type} {n : Nat} {f : Nat → List β} {p : β → Bool} (hno : ∀ k, k < n → (f k).find? p = none) : ((List.range n).flatMap f).find? p = none := List.find?_eq_none.mpr fun y hy => by
  obtain ⟨k, hk, hy⟩ := List.mem_flatMap.mp hy
  exact List.find?_eq_none.mp (hno k (List.mem_range.mp hk)) y hy
section
variable {P : Program} {w : World} {K : Frg} {mg : Str → Option Value} {base : Heap}
section
variable {σ : L2.St} {B H : Hp} {te tl : TE}
theorem ix_last {ds : List PyData} {d : PyData} (h : ds[ds.length - 1]? = some d) : ∀ vs : List V, vs.length = ds.length → ∃ m : Nat, atI vs (-1 : Int) = vs[m]? ∧ ds[m]? = some d := fun vs hl => by
  have hj := (List.getElem?_eq_some_iff.mp h).1
  refine ⟨ds.length - 1, ?_, h⟩
  have hne : vs ≠ [] := fun z => by
    rw [z] at hl
    rw [← hl] at hj
    exact Nat.not_lt_zero _ hj
  have e := List.dropLast_concat_getLast hne
  conv => lhs; rw [← e]
  rw [atI_last, ← hl, ← List.getLast?_eq_getElem?, List.getLast?_eq_some_getLast hne]
theorem gv_last {ds : List PyData} {d : PyData} (h : Gv K tl σ B (.list ds)) (hd : ds[ds.length - 1]? = some d) : Gv K (tOp (rIxL K) tl (tUn (rU fun i => .int (-i)) (tC (.int 1)))) σ B d :=
  gv_ixL (i := -1) h (ev_un ev_c ru_neg) (ix_last hd)
theorem idxOf_at {l : List (Nat × Nat)} {z : Nat × Nat} (h : z ∈ l) : l.idxOf z < l.length ∧ l[l.idxOf z]? = some z ∧ ∀ m, m < l.idxOf z → ∀ y, l[m]? = some y → y ≠ z := by
  have h1 := List.idxOf_lt_length_iff.mpr h
  refine ⟨h1, ?_, fun m hm y hy e => ?_⟩
  · rw [List.getElem?_eq_getElem h1, List.getElem_idxOf]
  · have h2 := List.not_of_lt_findIdx (p := fun x => x == z) (xs := l) (i := m) hm
    have hml : m < l.length := (List.getElem?_eq_some_iff.mp hy).1
    rw [List.getElem?_eq_getElem hml] at hy
    rw [Option.some.inj hy, e] at h2
    simp at h2
theorem ev_indexP {z : Nat × Nat} {l : List (Nat × Nat)} (hl : Gv K tl σ B (dPairs l)) (hz : Gv K te σ B (dPair z)) (hm : z ∈ l) : Ev (tBM K "list" (rIndexD K) tl (tCons te tNil)) σ B (.int ((l.idxOf z : Nat) : Int)) := fun H le Q q =>
  hl H le _ fun v B1 H1 a1 r1 => by
    obtain ⟨i1, i2, i3⟩ := idxOf_at hm
    have r0 := r1
    obtain ⟨a, xs, rfl, hs, ra⟩ := r0.isLst
    refine ⟨Or.inl ⟨rfl, xs, sq_of (a1.le _ _ hs)⟩, (hz.mono a1.base) H1 a1.le _ fun u B2 H2 a2 r2 => ⟨a, u, dPair z, l.map dPair, l.idxOf z, dPair z, rfl, rfl, Rp.dp K _ _ _ (shp_pairs l).lay ((r1.mono a2.base).mono a2.le), Rp.dp K _ _ _ (shp_pair z).lay (r2.mono a2.le), (shp_pairs l).ok, (shp_pair z).ok, ?_, ?_, fun m z' hm2 hz' => ?_, q H2 (a1.keep.trans a2.keep)⟩⟩
    · rw [List.getElem?_map, i2]
      rfl
    · rw [eqv_pair, decide_eq_true rfl]
    · rw [List.getElem?_map] at hz'
      cases hy : l[m]? with
      | none => rw [hy] at hz'; cases hz'
      | some y =>
        rw [hy] at hz'
        obtain rfl := Option.some.inj hz'
        rw [eqv_pair, decide_eq_false (i3 m hm2 y hy)]
end
structure ApInv (K : Frg) (B H : Hp) (pm pw : Addr) (met : List (Nat × Nat)) (word : List Nat) (Bi H' : Hp) : Prop where
  at_ : At B H Bi H'
  nM : Bi pm = none
  nW : Bi pw = none
  ex : ∃ am aw, H' pm = some (.lst am) ∧ H' pw = some (.lst aw) ∧ RpAll K Bi am (met.map dPair) ∧ RpAll K Bi aw ((zs word).map PyData.int)
theorem ApInv.step {B H : Hp} {pm pw : Addr} {met : List (Nat × Nat)} {word : List Nat} {Bi H' B1 H2 : Hp} (m : ApInv K B H pm pw met word Bi H') (a : At Bi H' B1 H2) : ApInv K B H pm pw met word B1 H2 := by
  obtain ⟨am, aw, h1, h2, r1, r2⟩ := m.ex
  exact ⟨m.at_.trans a, a.off m.nM h1 lst_tup, a.off m.nW h2 lst_tup, am, aw, a.keep _ _ h1, a.keep _ _ h2, r1.mono a.base, r2.mono a.base⟩
theorem ApInv.up {B H : Hp} {pm pw : Addr} {met : List (Nat × Nat)} {word : List Nat} {Bi H' H2 : Hp} (m : ApInv K B H pm pw met word Bi H') (e : Ex H' H2) : ApInv K B H pm pw met word Bi H2 := m.step (.up m.at_.le e)
/-- what is reckoned with the pairs met -/
theorem ApInv.look {te : TE} {σ : L2.St} {B H : Hp} {pm pw : Addr} {met : List (Nat × Nat)} {word : List Nat} {Bi H' : Hp} {d : PyData} (m : ApInv K B H pm pw met word Bi H') (hd : flatD d = true)
    (h : ∀ B2, Ex Bi B2 → Rp K B2 (.ref pm) (dPairs met) → Gv K te σ B2 d) {Q : VK} (q : ∀ v B' H2, At Bi H' B' H2 → ApInv K B H pm pw met word B' H2 → Rp K B' v d → Q v H2) : te σ H' Q := by
  obtain ⟨am, aw, h1, h2, r1, r2⟩ := m.ex
  have e := Ex.new (o := .lst am) m.nM
  exact thaw m.at_.le m.nM h1 lst_tup hd (h _ e (.lst upd_same (r1.mono e))) fun v B' H2 a _ r => q v B' H2 a (m.step a) r
theorem ApInv.test {t : TT} {σ : L2.St} {B H : Hp} {pm pw : Addr} {met : List (Nat × Nat)} {word : List Nat} {Bi H' : Hp} {b : Bool} (m : ApInv K B H pm pw met word Bi H')
    (h : ∀ B2, Ex Bi B2 → Rp K B2 (.ref pm) (dPairs met) → EvT t σ B2 b) : EvT t σ H' b := by
  obtain ⟨am, aw, h1, h2, r1, r2⟩ := m.ex
  have e := Ex.new (o := .lst am) m.nM
  refine (h _ e (.lst upd_same (r1.mono e))).mono fun x u hx => ?_
  by_cases c : x = pm
  · rw [c] at hx ⊢
    rw [upd_same] at hx
    rw [h1]
    exact hx
  · rw [upd_ne c] at hx
    exact m.at_.le x u hx
def dTwo (z : List Nat × List Nat) : PyData := .list [dL z.1, dL z.2]
def F_walk_apart (ds : List PyData) (d : PyData) : Prop := ∃ n ps kept start, ds = [dTs ps, dPairs kept, dPair start] ∧ d = dTwo (walkApart ps kept start) ∧ Sz n ∧ Pats n ps ∧ kept.length ≤ 1000 ∧ start ∈ kept ∧ ∀ z ∈ kept, ∃ k, firstMatrixInto ps z kept = some k
theorem sc_walk_apart : FnScope ["patterns", "kept", "start", "met", "word", "turn", "matrix", "after", "place"] ["patterns", "kept", "start"] MwH.d_walk_apart.scope := ⟨rfl, rfl, rfl, by decide +kernel, rfl, by decide +kernel, by decide +kernel⟩
theorem ok_walk_apart (T : Txt K mg) : Has P w K mg base 5 "walk_apart" ["patterns", "kept", "start"] (spD K F_walk_apart) := by
  refine has_def (N := ["patterns", "kept", "start", "met", "word", "turn", "matrix", "after", "place"]) T 50 rfl rfl rfl rfl rfl sc_walk_apart (fun _ _ _ _ _ _ us hl => match us, hl with | [_, _, _], _ => rfl) (fun ds d h => by obtain ⟨n, ps, kept, start, rfl, rfl, hn, hp, hkl, hst, hkeep⟩ := h; rfl) fun f cdv A outer s H E hr vs B ds dd Q le r hF q => ?_
  obtain ⟨n, ps, kept, start, rfl, rfl, hn, hp, hkl, hst, hkeep⟩ := hF
  obtain ⟨x_patterns, x_kept, x_start, rfl, r_patterns, r_kept, r_start⟩ := RpAll.n3 r
  obtain ⟨f_first_matrix_into, fd_first_matrix_into, m_first_matrix_into, k_first_matrix_into, b_first_matrix_into, G_first_matrix_into⟩ := ok_first_matrix_into (P := P) (w := w) (base := base) T
  obtain ⟨f_pair_after, fd_pair_after, m_pair_after, k_pair_after, b_pair_after, G_pair_after⟩ := ok_pair_after (P := P) (w := w) (base := base) T
  have hu := hu_of hr
  have hu64 := hr.units
  have hu65 := hu65_of hr
  refine ⟨_, (pss_cons (ps_par (i := 3) (j := 4) rfl sc_walk_apart.nd rfl rfl (by decide) rfl rfl (pa_cons (pe_lst (pa_cons (pv 2) pa_nil)) (pa_cons (pe_lst pa_nil) pa_nil)) (by rfl)) (pss_cons (ps_for PassesOwn.never rfl (pi_range1 (by rfl) (T.free 133 rfl) (pa_cons (pe_callB (call_lenK (K := K) rfl) (by rfl) (T.free 131 rfl) (by decide +kernel) (pa_cons (pv 1) pa_nil)) pa_nil)) (pg_name (i := 5) sc_walk_apart.nd rfl (Or.inl rfl)) (pss_cons (ps_set (i := 6) sc_walk_apart.nd rfl (Or.inl rfl) (pe_call G_first_matrix_into (hr.mono (by decide)) (by rfl) m_first_matrix_into k_first_matrix_into b_first_matrix_into .nil pass0 (pa_cons (pv 0) (pa_cons (pe_ix (ix_listK (K := K) rfl) (pv 3) (pe_un un_neg pe_int) (fun _ _ => rfl)) (pa_cons (pv 1) pa_nil))))) (pss_cons (ps_set (i := 7) sc_walk_apart.nd rfl (Or.inl rfl) (pe_call G_pair_after (hr.mono (by decide)) (by rfl) m_pair_after k_pair_after b_pair_after .nil pass0 (pa_cons (pe_ix (ix_listK (K := K) rfl) (pv 0) (pv 6) (fun _ _ => rfl)) (pa_cons (pe_ix (ix_listK (K := K) rfl) (pv 3) (pe_un un_neg pe_int) (fun _ _ => rfl)) pa_nil)))) (pss_cons (ps_expr (pe_bm PySem.F.plainAttrs_list PySem.F.slot_list_append PySem.F.type_list_append mt_append (pv 4) (pa_cons (pv 6) pa_nil))) (pss_cons (ps_if (pt_cmpR (op_inDK (K := K) rfl hu65) (pv 7) (pv 3) (by rfl)) (pss_cons (ps_set (i := 8) sc_walk_apart.nd rfl (Or.inl rfl) (pe_bm PySem.F.plainAttrs_list PySem.F.slot_list_index PySem.F.type_list_index (mt_indexD hu65) (pv 3) (pa_cons (pv 7) pa_nil))) (pss_one (ps_ret (pe_lst (pa_cons (pe_slice (sl_listK (K := K) rfl) (pv 4) po_none (po_some (pv 8))) (pa_cons (pe_slice (sl_listK (K := K) rfl) (pv 4) (po_some (pv 8)) po_none) pa_nil)))))) pss_nil) (pss_one (ps_expr (pe_bm PySem.F.plainAttrs_list PySem.F.slot_list_append PySem.F.type_list_append mt_append (pv 3) (pa_cons (pv 7) pa_nil))))))))) (pss_one (ps_ret (pe_lst (pa_cons (pv 4) (pa_cons (pe_lst pa_nil) pa_nil))))))), ?_⟩
  refine ⟨_, rfl, by show 1 ≤ sizeLine; decide, fun pm hm0 => ⟨Nat.zero_le _, fun pw hw0 => ⟨_, _, rfl, ?_⟩⟩⟩
  have ne : pw ≠ pm := fun z => by
    rw [z, upd_same] at hw0
    cases hw0
  have h0w : H pw = none := by
    rw [upd_ne ne] at hw0
    exact hw0
  have e0 : Ex H (upd (upd H pm (.lst [x_start])) pw (.lst [])) := (Ex.new hm0).trans (Ex.new hw0)
  have m0 : ApInv K B H pm pw [start] [] B (upd (upd H pm (.lst [x_start])) pw (.lst [])) := ⟨.up le e0, fresh_back le hm0, fresh_back le h0w, [x_start], [], by rw [upd_ne ne.symm]; exact upd_same, upd_same, .one r_start, .nil⟩
  refine qd_forR (n := kept.length) m0.at_.le (ea_cons (ev_lenM (f := dPair) (ga_cons (gv_var rfl r_kept) ga_nil)) ea_nil) (by omega)
    (fun i σ' H' => ∃ Bi met word v5 v6 v7, σ' = [some x_patterns, some x_kept, some x_start, some (.ref pm), some (.ref pw), v5, v6, v7, none] ∧ ApInv K B H pm pw met word Bi H' ∧ met.length = i + 1 ∧ word.length = i ∧ (∀ z ∈ met, z ∈ kept) ∧ walkLoop ps kept (kept.length - i) met word = walkApart ps kept start)
    (fun H2 e2 => ⟨B, [start], [], none, none, none, rfl, m0.up e2, rfl, rfl, (fun z hz => by rw [List.mem_singleton.mp hz]; exact hst), rfl⟩) ?_ ?_
  · rintro i σ' H' hi ⟨Bi, met, word, v5, v6, v7, rfl, m, hml, hwl, hmk, hloop⟩
    obtain ⟨f3, ef⟩ : ∃ f3, kept.length - i = f3 + 1 := ⟨kept.length - i - 1, by omega⟩
    rw [ef] at hloop
    obtain ⟨z, hz⟩ : ∃ z, met.getLast? = some z := by
      cases hg : met.getLast? with
      | none =>
        rw [List.getLast?_eq_none_iff] at hg
        rw [hg] at hml
        cases hml
      | some z => exact ⟨z, rfl⟩
    have hzm : z ∈ met := List.mem_of_getLast? hz
    obtain ⟨k, hk⟩ := hkeep z (hmk z hzm)
    obtain ⟨hk1, hk2⟩ := first_into hk
    have hpat := hp.get hk1
    have hzd : (met.map dPair)[(met.map dPair).length - 1]? = some (dPair z) := by
      rw [List.length_map, List.getElem?_map, ← List.getLast?_eq_getElem?, hz]
      rfl
    have eloop : walkLoop ps kept (f3 + 1) met word = if pairAfter (ps.getD k []) z ∈ met then ((word ++ [k]).take (met.idxOf (pairAfter (ps.getD k []) z)), (word ++ [k]).drop (met.idxOf (pairAfter (ps.getD k []) z))) else walkLoop ps kept f3 (met ++ [pairAfter (ps.getD k []) z]) (word ++ [k]) := by
      have e1 : (met.getLast?.getD (0, 0)) = z := by rw [hz]; rfl
      have e2 : (firstMatrixInto ps z kept).getD 0 = k := by rw [hk]; rfl
      show (if pairAfter (ps.getD ((firstMatrixInto ps (met.getLast?.getD (0, 0)) kept).getD 0) []) (met.getLast?.getD (0, 0)) ∈ met then _ else _) = _
      rw [e1, e2]
    rw [eloop] at hloop
    -- matrix
    refine m.look (d := dI k) rfl (fun B2 e2 rm => Gv.is (gv_call (ga_cons (gv_var rfl (r_patterns.mono (m.at_.base.trans e2))) (ga_cons (gv_last (gv_var rfl rm) hzd) (ga_cons (gv_var rfl (r_kept.mono (m.at_.base.trans e2))) ga_nil))) ⟨n, ps, z, kept, rfl, rfl, hn, hp⟩) (by rw [hk]; rfl)) fun vk B4 H4 a4 m4 r4 => ?_
    obtain rfl := r4.isInt
    -- after
    refine m4.look (d := dPair (pairAfter (ps.getD k []) z)) rfl (fun B2 e2 rm => gv_call (ga_cons (gv_at [] (gv_var rfl (r_patterns.mono (m4.at_.base.trans e2))) (ev_var rfl) hk1) (ga_cons (gv_last (gv_var rfl rm) hzd) ga_nil)) ⟨n, _, z, rfl, rfl, hn, hpat⟩) fun va B5 H5 a5 m5 r5 => ?_
    generalize pairAfter (ps.getD k []) z = aft at hk2 hloop r5
    -- word.append(matrix)
    obtain ⟨am, aw, hM, hW, rm, rw⟩ := m5.ex
    refine sd_append (d := dI k) m5.at_ h0w m5.nW hW (by rw [rw.len, zlen]; omega) (fun H' _ => ev_var rfl) (.int (ev_var rfl)) fun v B6 H6 c6 e6 nW6 r6 hW6 off => ?_
    have o6 := off pm _ ne.symm hM
    have m6 : ApInv K B H pm pw met (word ++ [k]) B6 H6 := ⟨c6, o6.2 m5.nM lst_tup, nW6, am, _, o6.1, hW6, rm.mono e6, by
      rw [← dL_app]
      exact (rw.mono e6).append (.one r6)⟩
    have ra6 := r5.mono e6
    refine q_if (b := met.contains aft) (m6.test fun B2 e2 rm => et_test (ev_inP (gv_var rfl (ra6.mono e2)) (gv_var rfl rm))) (fun hb H7 e7 => ?_) (fun hb H7 e7 => ?_)
    · have hin : aft ∈ met := List.contains_iff_mem.mp hb
      rw [if_pos hin] at hloop
      have m7 := m6.up e7
      obtain ⟨am7, aw7, hM7, hW7, rm7, rw7⟩ := m7.ex
      have f1 := m7.at_.freeze m7.nM hm0 hM7
      have nW1 : upd B6 pm (.lst am7) pw = none := by
        rw [upd_ne ne]
        exact m7.nW
      have f2 := f1.freeze nW1 h0w hW7
      have ex1 : Ex B6 (upd B6 pm (.lst am7)) := Ex.new m7.nM
      have ex2 : Ex (upd B6 pm (.lst am7)) (upd (upd B6 pm (.lst am7)) pw (.lst aw7)) := Ex.new nW1
      have rM : Rp K (upd (upd B6 pm (.lst am7)) pw (.lst aw7)) (.ref pm) (dPairs met) := .lst (ex2 _ _ upd_same) (rm7.mono (ex1.trans ex2))
      have rW : Rp K (upd (upd B6 pm (.lst am7)) pw (.lst aw7)) (.ref pw) (dL (word ++ [k])) := .lst upd_same (rw7.mono (ex1.trans ex2))
      have hx := (idxOf_at hin).1
      have hl2 : (word ++ [k]).length = i + 1 := by
        rw [List.length_append, hwl]
        rfl
      refine qd_asg (K := K) (d := dI (met.idxOf aft)) f2.le (.int (ev_indexP (gv_var rfl rM) (gv_var rfl (ra6.mono (ex1.trans ex2))) hin)) fun v8 B8 H8 a8 r8 => ?_
      obtain rfl := r8.isInt
      have rW8 := rW.mono a8.base
      refine qd_ret a8.le (Gv.is (gv_lst (ga_cons (gv_sl (i := 0) (j := met.idxOf aft) (gv_var rfl rW8) eo_none (eo_some (ev_var rfl)) rfl (by rw [zlen]; exact sIx_nat _ _ _ (by omega))) (ga_cons (gv_sl (i := met.idxOf aft) (j := (word ++ [k]).length) (gv_var rfl rW8) (eo_some (ev_var rfl)) eo_none (by rw [zlen]; exact sIx_nat _ _ _ (by omega)) (by rw [zlen]; rfl)) ga_nil)) (by show 2 ≤ 100000; omega)) ?_) fun v B' H'' a r => q v B' H'' ((f2.trans a8).trans a) r
      rw [dL_cut, dL_cut, ← hloop]
      have e9 : ((word ++ [k]).drop (met.idxOf aft)).take ((word ++ [k]).length - met.idxOf aft) = (word ++ [k]).drop (met.idxOf aft) := List.take_of_length_le (by rw [List.length_drop]; exact Nat.le_refl _)
      rw [e9]
      rfl
    · have hin : ¬ aft ∈ met := fun z => by
        rw [List.contains_iff_mem.mpr z] at hb
        cases hb
      rw [if_neg hin] at hloop
      have m7 := m6.up e7
      obtain ⟨am7, aw7, hM7, hW7, rm7, rw7⟩ := m7.ex
      refine sd_append (d := dPair aft) m7.at_ hm0 m7.nM hM7 (by rw [rm7.len, List.length_map]; omega) (fun H' _ => ev_var rfl) (gv_var rfl ra6) fun v B8 H8 c8 e8 nM8 r8 hM8 off => ?_
      have o8 := off pw _ ne hW7
      refine ⟨B8, met ++ [aft], word ++ [k], _, _, _, rfl, ⟨c8, nM8, o8.2 m7.nW lst_tup, _, _, hM8, o8.1, ?_, rw7.mono e8⟩, by rw [List.length_append, hml]; rfl, by rw [List.length_append, hwl]; rfl, fun y hy => ?_, ?_⟩
      · rw [List.map_append]
        exact (rm7.mono e8).append (.one r8)
      · rcases List.mem_append.mp hy with h | h
        · exact hmk y h
        · rw [List.mem_singleton.mp h]
          exact hk2
      · rw [← hloop]
        congr 1
        omega
  · rintro σ' H' ⟨Bi, met, word, v5, v6, v7, rfl, m, hml, hwl, hmk, hloop⟩
    rw [Nat.sub_self] at hloop
    obtain ⟨am, aw, hM, hW, rm, rw⟩ := m.ex
    have f1 := m.at_.freeze m.nW h0w hW
    have e : walkApart ps kept start = (word, []) := hloop.symm
    rw [e] at q
    exact qd_ret (d := dTwo (word, [])) f1.le (gv_lst (ga_cons (gv_var rfl (.lst upd_same (rw.mono (Ex.new m.nW)))) (ga_cons (gv_lst ga_nil (Nat.zero_le _)) ga_nil)) (by show 2 ≤ 100000; omega)) fun v B' H'' a r => q v B' H'' (f1.trans a) r
def dSep : Option (Nat × Nat × List Nat × List Nat) → PyData
  | none => .none
  | some (i, j, p, c) => .list [dI i, dI j, dL p, dL c]
def idxFrom (n i : Nat) : List (Nat × Nat) := (List.range (n - (i + 1))).map fun j => (i, i + 1 + j)
theorem idx_no {n i m : Nat} {kept : List (Nat × Nat)} (hm : m = n - (i + 1)) (h : ∀ b, b < m → kept.contains (2 ^ i, 2 ^ (i + 1 + b)) = false) : (idxFrom n i).find? (fun q => kept.contains (2 ^ q.1, 2 ^ q.2)) = none := List.find?_eq_none.mpr fun y hy => by
  obtain ⟨j, hj, rfl⟩ := List.mem_map.mp hy
  have := h j (by rw [hm]; exact List.mem_range.mp hj)
  show ¬ kept.contains (2 ^ i, 2 ^ (i + 1 + j)) = true
  rw [this]
  decide
theorem idx_first {n i b : Nat} {kept : List (Nat × Nat)} (hb : b < n - (i + 1)) (h : ∀ c, c < b → kept.contains (2 ^ i, 2 ^ (i + 1 + c)) = false) (hx : kept.contains (2 ^ i, 2 ^ (i + 1 + b)) = true) : (idxFrom n i).find? (fun q => kept.contains (2 ^ q.1, 2 ^ q.2)) = some (i, i + 1 + b) := by
  unfold idxFrom
  rw [List.find?_map]
  have e := find_first (p := (fun q : Nat × Nat => kept.contains (2 ^ q.1, 2 ^ q.2)) ∘ fun j => (i, i + 1 + j)) hb hx h
  rw [e]
  rfl
def F_separating_words (ds : List PyData) (d : PyData) : Prop := ∃ n ps, ds = [dI n, dTs ps] ∧ d = dSep (separatingWords n ps) ∧ Sz n ∧ Pats n ps
theorem sc_separating_words : FnScope ["size", "patterns", "kept", "one", "other", "start", "prefix", "cycle"] ["size", "patterns"] MwH.d_separating_words.scope := ⟨rfl, rfl, rfl, by decide +kernel, rfl, by decide +kernel, by decide +kernel⟩
theorem ok_separating_words (T : Txt K mg) : Has P w K mg base 6 "separating_words" ["size", "patterns"] (spD K F_separating_words) := by
  refine has_def (N := ["size", "patterns", "kept", "one", "other", "start", "prefix", "cycle"]) T 51 rfl rfl rfl rfl rfl sc_separating_words (fun _ _ _ _ _ _ us hl => match us, hl with | [_, _], _ => rfl) (fun ds d h => by obtain ⟨n, ps, rfl, rfl, hn, hp⟩ := h; rfl) fun f cdv A outer s H E hr vs B ds dd Q le r hF q => ?_
  obtain ⟨n, ps, rfl, rfl, hn, hp⟩ := hF
  obtain ⟨x_size, x_patterns, rfl, r_size, r_patterns⟩ := RpAll.n2 r
  obtain ⟨f_lasting_pairs, fd_lasting_pairs, m_lasting_pairs, k_lasting_pairs, b_lasting_pairs, G_lasting_pairs⟩ := ok_lasting_pairs (P := P) (w := w) (base := base) T
  obtain ⟨f_walk_apart, fd_walk_apart, m_walk_apart, k_walk_apart, b_walk_apart, G_walk_apart⟩ := ok_walk_apart (P := P) (w := w) (base := base) T
  have hu := hu_of hr
  have hu64 := hr.units
  have hu65 := hu65_of hr
  refine ⟨_, (pss_cons (ps_set (i := 2) sc_separating_words.nd rfl (Or.inl rfl) (pe_call G_lasting_pairs (hr.mono (by decide)) (by rfl) m_lasting_pairs k_lasting_pairs b_lasting_pairs .nil pass0 (pa_cons (pv 0) (pa_cons (pv 1) pa_nil)))) (pss_cons (ps_for PassesOwn.never rfl (pi_range1 (by rfl) (T.free 133 rfl) (pa_cons (pv 0) pa_nil)) (pg_name (i := 3) sc_separating_words.nd rfl (Or.inl rfl)) (pss_one (ps_for PassesOwn.never rfl (pi_range2 (by rfl) (T.free 133 rfl) (pa_cons (pe_op op_add (pv 3) pe_int) (pa_cons (pv 0) pa_nil))) (pg_name (i := 4) sc_separating_words.nd rfl (Or.inl rfl)) (pss_cons (ps_set (i := 5) sc_separating_words.nd rfl (Or.inl rfl) (pe_tup (pa_cons (pe_op op_shl pe_int (pv 3)) (pa_cons (pe_op op_shl pe_int (pv 4)) pa_nil)))) (pss_one (ps_if (pt_cmpR (op_inDK (K := K) rfl hu65) (pv 5) (pv 2) (by rfl)) (pss_cons (ps_asg (pe_call G_walk_apart (hr.mono (by decide)) (by rfl) m_walk_apart k_walk_apart b_walk_apart .nil pass0 (pa_cons (pv 1) (pa_cons (pv 2) (pa_cons (pv 5) pa_nil)))) (pg_unlK (K := K) (n := 2) rfl rfl (pgs_cons (pg_name (i := 6) sc_separating_words.nd rfl (Or.inl rfl)) (pgs_cons (pg_name (i := 7) sc_separating_words.nd rfl (Or.inl rfl)) pgs_nil)))) (pss_one (ps_ret (pe_lst (pa_cons (pv 3) (pa_cons (pv 4) (pa_cons (pv 6) (pa_cons (pv 7) pa_nil)))))))) pss_nil)))))) (pss_one (ps_ret pe_non)))), ?_⟩
  have h3 := hn.le
  have hok := lasting_ok (n := n) (ps := ps)
  have hlen := lasting_len hn ps
  have es : separatingWords n ps = (((List.range n).flatMap (idxFrom n)).find? fun q => (lastingPairs n ps).contains (2 ^ q.1, 2 ^ q.2)).map fun q => (q.1, q.2, walkApart ps (lastingPairs n ps) (2 ^ q.1, 2 ^ q.2)) := rfl
  refine qd_asg (d := dPairs (lastingPairs n ps)) le (gv_call (ga_cons (gv_var rfl r_size) (ga_cons (gv_var rfl r_patterns) ga_nil)) ⟨n, ps, rfl, rfl, hn, hp⟩) fun vk B1 H1 a1 rk => ?_
  generalize lastingPairs n ps = kept at hok hlen es rk
  refine qd_forR (n := n) a1.le (ea_cons (ev_v rfl (r_size.mono a1.base)) ea_nil) (by omega)
    (fun i σ' H' => (∃ v3 v4 v5 v6 v7, σ' = [some x_size, some x_patterns, some vk, v3, v4, v5, v6, v7]) ∧ Ex H1 H' ∧ ∀ a, a < i → (idxFrom n a).find? (fun q => kept.contains (2 ^ q.1, 2 ^ q.2)) = none)
    (fun H2 e2 => ⟨⟨none, none, none, none, none, rfl⟩, e2, fun a ha => absurd ha (Nat.not_lt_zero a)⟩) ?_ ?_
  · rintro i σ' H' hi ⟨⟨v3, v4, v5, v6, v7, rfl⟩, e1, hno⟩
    refine sd_forR2 (lo := i + 1) (hi := n) (a1.le.trans e1) (ea_cons (ev_add (ev_var rfl) (ev_n (a := 1))) (ea_cons (ev_v rfl (r_size.mono a1.base)) ea_nil)) ⟨by omega, by omega⟩
      (fun j σ'' H'' => (∃ w4 w5 w6 w7, σ'' = [some x_size, some x_patterns, some vk, some (.int (i : Int)), w4, w5, w6, w7]) ∧ Ex H1 H'' ∧ ∀ b, b < j → kept.contains (2 ^ i, 2 ^ (i + 1 + b)) = false)
      (fun H2 e2 => ⟨⟨v4, v5, v6, v7, rfl⟩, e1.trans e2, fun b hb => absurd hb (Nat.not_lt_zero b)⟩) ?_ ?_
    · rintro j σ'' H'' hj ⟨⟨w4, w5, w6, w7, rfl⟩, e2, hno2⟩
      have b2 := a1.ex e2
      refine qd_asg (K := K) (d := dPair (2 ^ i, 2 ^ (i + 1 + j))) b2.le (gv_pair (ev_shl1 (by omega) ev_c (ev_var rfl)) (ev_shl1 (by omega) ev_c (ev_var rfl))) fun vs B3 H3 a3 r3 => ?_
      have b3 := b2.trans a3
      refine sd_if (b := kept.contains (2 ^ i, 2 ^ (i + 1 + j))) b3.le (et_test (ev_inP (gv_var rfl r3) (gv_var rfl (rk.mono a3.base)))) (fun hb H4 e4 => ?_) (fun hb H4 e4 => ?_)
      · have b4 := b3.ex e4
        have esw : separatingWords n ps = some (i, i + 1 + j, walkApart ps kept (2 ^ i, 2 ^ (i + 1 + j))) := by
          rw [es, find_flat hi hno (idx_first (by omega) hno2 hb)]
          rfl
        rw [esw] at q
        have hst : (2 ^ i, 2 ^ (i + 1 + j)) ∈ kept := List.contains_iff_mem.mp hb
        refine qd_unl (d1 := dL (walkApart ps kept (2 ^ i, 2 ^ (i + 1 + j))).1) (d2 := dL (walkApart ps kept (2 ^ i, 2 ^ (i + 1 + j))).2) b4.le (gv_call (ga_cons (gv_var rfl (r_patterns.mono b4.base)) (ga_cons (gv_var rfl (rk.mono a3.base)) (ga_cons (gv_var rfl r3) ga_nil))) ⟨n, ps, kept, _, rfl, rfl, hn, hp, by omega, hst, hok⟩) fun u1 u2 B5 H5 a5 r51 r52 => ?_
        exact qd_ret a5.le (gv_lst (ga_int (ev_var rfl) (ga_int (ev_var rfl) (ga_cons (gv_var rfl r51) (ga_cons (gv_var rfl r52) ga_nil)))) (by show 4 ≤ 100000; omega)) fun v B' H'' a r => q v B' H'' ((b4.trans a5).trans a) r
      · refine ⟨⟨_, _, _, _, rfl⟩, (e2.trans a3.keep).trans e4, fun b hb2 => ?_⟩
        rcases Nat.lt_succ_iff_lt_or_eq.mp hb2 with h | h
        · exact hno2 b h
        · rw [h]
          exact hb
    · rintro σ'' H'' ⟨⟨w4, w5, w6, w7, rfl⟩, e2, hno2⟩
      refine ⟨⟨_, _, _, _, _, rfl⟩, e2, fun a ha => ?_⟩
      rcases Nat.lt_succ_iff_lt_or_eq.mp ha with h | h
      · exact hno a h
      · rw [h]
        exact idx_no rfl hno2
  · rintro σ' H' ⟨⟨v3, v4, v5, v6, v7, rfl⟩, e1, hno⟩
    have esw : separatingWords n ps = none := by
      rw [es, find_flat_no hno]
      rfl
    rw [esw] at q
    exact q _ _ _ (a1.ex e1) .non
end
end Mw
end
section
set_option Elab.async false
set_option linter.all false
set_option maxRecDepth 100000
set_option maxHeartbeats 4000000
/-! # Walks: guarantees, and what has no model -/
namespace Mw
open PySem PySem.Spec PyProof.Rows L2 Evl
section
variable {P : Program} {w : World} {K : Frg} {mg : Str → Option Value} {base : Heap}
def F_is_guarantee (ds : List PyData) (d : PyData) : Prop := ∃ k b, ds = [dI k, dI b] ∧ d = .bool (isGuarantee k b)
theorem sc_is_guarantee : FnScope ["kind", "bound"] ["kind", "bound"] MwH.d_is_guarantee.scope := ⟨rfl, rfl, rfl, by decide +kernel, rfl, by decide +kernel, by decide +kernel⟩
theorem ok_is_guarantee (T : Txt K mg) : Has P w K mg base 1 "is_guarantee" ["kind", "bound"] (spD K F_is_guarantee) := by
  refine has_def (N := ["kind", "bound"]) T 52 rfl rfl rfl rfl rfl sc_is_guarantee (fun _ _ _ _ _ _ us hl => match us, hl with | [_, _], _ => rfl) (fun ds d h => by obtain ⟨k, b, rfl, rfl⟩ := h; rfl) fun f cdv A outer s H E hr vs B ds dd Q le r hF q => ?_
  obtain ⟨k, b, rfl, rfl⟩ := hF
  obtain ⟨x_kind, x_bound, rfl, r_kind, r_bound⟩ := RpAll.n2 r
  obtain ⟨t_NO_ZERO, c_NO_ZERO⟩ := T.int 101 (x := "NO_ZERO") (z := (0)) rfl
  obtain ⟨t_BOUNDED, c_BOUNDED⟩ := T.int 102 (x := "BOUNDED") (z := (1)) rfl
  obtain ⟨t_MAX_CLASS, c_MAX_CLASS⟩ := T.int 104 (x := "MAX_CLASS") (z := (2)) rfl
  obtain ⟨t_MAX_MIXING, c_MAX_MIXING⟩ := T.int 105 (x := "MAX_MIXING") (z := (20)) rfl
  obtain ⟨t_MIXED, c_MIXED⟩ := T.int 103 (x := "MIXED") (z := (2)) rfl
  refine ⟨_, (pss_cons (ps_if (pt_cmpR op_eq (pv 0) (pe_glob (v := V.int (0)) (by rfl) c_NO_ZERO ⟨_, rfl⟩) (nomark _)) (pss_one (ps_ret (pe_cmpR op_eq (pv 1) pe_int (nomark _)))) pss_nil) (pss_cons (ps_if (pt_cmpR op_eq (pv 0) (pe_glob (v := V.int (1)) (by rfl) c_BOUNDED ⟨_, rfl⟩) (nomark _)) (pss_one (ps_ret (pe_cmpR op_le (pv 1) (pe_glob (v := V.int (2)) (by rfl) c_MAX_CLASS ⟨_, rfl⟩) (nomark _)))) pss_nil) (pss_one (ps_ret (pe_and (pe_cmpR op_eq (pv 0) (pe_glob (v := V.int (2)) (by rfl) c_MIXED ⟨_, rfl⟩) (nomark _)) (pe_one (pe_cmpR op_le (pv 1) (pe_glob (v := V.int (20)) (by rfl) c_MAX_MIXING ⟨_, rfl⟩) (nomark _)))))))), ?_⟩
  have e : isGuarantee k b = if k = 0 then b == 0 else if k = 1 then decide (b ≤ 2) else k == 2 && decide (b ≤ 20) := rfl
  refine qd_if (b := decide (k = 0)) le (et_test (ev_eq (ev_v rfl r_kind) (ev_n (a := 0)))) (fun hb H1 e1 => ?_) (fun hb H1 e1 => ?_)
  · rw [if_pos (of_decide_eq_true hb)] at e
    rw [e] at q
    exact qd_ret (K := K) (le.trans e1) (Gv.is (.bl (ev_eq (ev_v rfl r_bound) (ev_n (a := 0)))) rfl) fun v B' H' a r => q v B' H' ((At.up le e1).trans a) r
  rw [if_neg (of_decide_eq_false hb)] at e
  refine qd_if (b := decide (k = 1)) (le.trans e1) (et_test (ev_eq (ev_v rfl r_kind) (ev_n (a := 1)))) (fun hb H2 e2 => ?_) (fun hb H2 e2 => ?_)
  · rw [if_pos (of_decide_eq_true hb)] at e
    rw [e] at q
    exact qd_ret (K := K) ((le.trans e1).trans e2) (.bl (ev_le (ev_v rfl r_bound) (ev_n (a := 2)))) fun v B' H' a r => q v B' H' ((At.up le (e1.trans e2)).trans a) r
  rw [if_neg (of_decide_eq_false hb)] at e
  rw [e] at q
  exact qd_ret (K := K) ((le.trans e1).trans e2) (Gv.is (.bl (ev_andV (ev_eq (ev_v rfl r_kind) (ev_n (a := 2))) fun _ => ev_le (ev_v rfl r_bound) (ev_n (a := 20)))) rfl) fun v B' H' a r => q v B' H' ((At.up le (e1.trans e2)).trans a) r
theorem ev_isNW {σ : L2.St} {B : Hp} {te : TE} {o : Option (List Nat)} (h : Gv K te σ B (dWord o)) : Ev (tOp rIsN te (tC .non)) σ B (.bl o.isNone) := by
  cases o with
  | none => exact ev_isN1 h
  | some m => exact ev_isN0 h
theorem pats_len (n : Nat) (ms : List (List Nat)) : (patternsOf n ms).length = ms.length := by simp [patternsOf]
def F_is_satisfied (ds : List PyData) (d : PyData) : Prop := ∃ n ms k b, ds = [dI n, dM ms, dI k, dI b] ∧ d = .bool (isSatisfied n ms k b) ∧ Sz n ∧ Ms n ms ∧ ms.length ≤ 1000
theorem sc_is_satisfied : FnScope ["size", "matrices", "kind", "bound", "patterns", "length"] ["size", "matrices", "kind", "bound"] MwH.d_is_satisfied.scope := ⟨rfl, rfl, rfl, by decide +kernel, rfl, by decide +kernel, by decide +kernel⟩
theorem ok_is_satisfied (T : Txt K mg) : Has P w K mg base 8 "is_satisfied" ["size", "matrices", "kind", "bound"] (spD K F_is_satisfied) := by
  refine has_def (N := ["size", "matrices", "kind", "bound", "patterns", "length"]) T 53 rfl rfl rfl rfl rfl sc_is_satisfied (fun _ _ _ _ _ _ us hl => match us, hl with | [_, _, _, _], _ => rfl) (fun ds d h => by obtain ⟨n, ms, k, b, rfl, rfl, hn, hm, hl⟩ := h; rfl) fun f cdv A outer s H E hr vs B ds dd Q le r hF q => ?_
  obtain ⟨n, ms, k, b, rfl, rfl, hn, hm, hl⟩ := hF
  obtain ⟨x_size, x_matrices, x_kind, x_bound, rfl, r_size, r_matrices, r_kind, r_bound⟩ := RpAll.n4 r
  obtain ⟨f_patterns_of, fd_patterns_of, m_patterns_of, k_patterns_of, b_patterns_of, G_patterns_of⟩ := ok_patterns_of (P := P) (w := w) (base := base) T
  obtain ⟨f_zero_word, fd_zero_word, m_zero_word, k_zero_word, b_zero_word, G_zero_word⟩ := ok_zero_word (P := P) (w := w) (base := base) T
  obtain ⟨f_growth_of, fd_growth_of, m_growth_of, k_growth_of, b_growth_of, G_growth_of⟩ := ok_growth_of (P := P) (w := w) (base := base) T
  obtain ⟨f_are_chances, fd_are_chances, m_are_chances, k_are_chances, b_are_chances, G_are_chances⟩ := ok_are_chances (P := P) (w := w) (base := base) T
  obtain ⟨f_mixing_index, fd_mixing_index, m_mixing_index, k_mixing_index, b_mixing_index, G_mixing_index⟩ := ok_mixing_index (P := P) (w := w) (base := base) T
  obtain ⟨t_NO_ZERO, c_NO_ZERO⟩ := T.int 101 (x := "NO_ZERO") (z := (0)) rfl
  obtain ⟨t_BOUNDED, c_BOUNDED⟩ := T.int 102 (x := "BOUNDED") (z := (1)) rfl
  refine ⟨_, (pss_cons (ps_set (i := 4) sc_is_satisfied.nd rfl (Or.inl rfl) (pe_call G_patterns_of (hr.mono (by decide)) (by rfl) m_patterns_of k_patterns_of b_patterns_of .nil pass0 (pa_cons (pv 0) (pa_cons (pv 1) pa_nil)))) (pss_cons (ps_if (pt_cmpR op_eq (pv 2) (pe_glob (v := V.int (0)) (by rfl) c_NO_ZERO ⟨_, rfl⟩) (nomark _)) (pss_one (ps_ret (pe_cmpR op_isN (pe_call G_zero_word (hr.mono (by decide)) (by rfl) m_zero_word k_zero_word b_zero_word .nil pass0 (pa_cons (pv 4) pa_nil)) pe_non (nomark _)))) pss_nil) (pss_cons (ps_if (pt_cmpR op_eq (pv 2) (pe_glob (v := V.int (1)) (by rfl) c_BOUNDED ⟨_, rfl⟩) (nomark _)) (pss_one (ps_ret (pe_cmpR op_le (pe_ix (ix_listK (K := K) rfl) (pe_call G_growth_of (hr.mono (by decide)) (by rfl) m_growth_of k_growth_of b_growth_of .nil pass0 (pa_cons (pv 0) (pa_cons (pv 1) (pa_cons (pv 4) pa_nil)))) pe_int (fun _ _ => rfl)) (pv 3) (nomark _)))) pss_nil) (pss_cons (ps_if (pt_not (pt_val (pe_call G_are_chances (hr.mono (by decide)) (by rfl) m_are_chances k_are_chances b_are_chances .nil pass0 (pa_cons (pv 0) (pa_cons (pv 1) pa_nil))))) (pss_one (ps_ret pe_bl)) pss_nil) (pss_cons (ps_set (i := 5) sc_is_satisfied.nd rfl (Or.inl rfl) (pe_call G_mixing_index (hr.mono (by decide)) (by rfl) m_mixing_index k_mixing_index b_mixing_index .nil pass0 (pa_cons (pv 0) (pa_cons (pv 4) pa_nil)))) (pss_one (ps_ret (pe_and (pe_cmpR op_notN (pv 5) pe_non (nomark _)) (pe_one (pe_cmpR op_le (pv 5) (pv 3) (nomark _))))))))))), ?_⟩
  have e : isSatisfied n ms k b = if k = 0 then (zeroWord (patternsOf n ms)).isNone else if k = 1 then decide ((growthOf n ms (patternsOf n ms)).1 ≤ b) else if areChances n ms then (match mixingIndex n (patternsOf n ms) with
    | none => false
    | some m => decide (m ≤ b)) else false := rfl
  have hp := Pats.of hn ms
  have hpl : (patternsOf n ms).length ≤ 1000 := by rw [pats_len]; exact hl
  refine qd_asg (d := dTs (patternsOf n ms)) le (gv_call (ga_cons (gv_var rfl r_size) (ga_cons (gv_var rfl r_matrices) ga_nil)) ⟨n, ms, rfl, rfl, hn, hm, hl⟩) fun vp B0 H0 a0 rp => ?_
  generalize patternsOf n ms = ps at e hp hpl rp
  refine qd_if (b := decide (k = 0)) a0.le (et_test (ev_eq (ev_v rfl (r_kind.mono a0.base)) (ev_n (a := 0)))) (fun hb H1 e1 => ?_) (fun hb H1 e1 => ?_)
  · rw [if_pos (of_decide_eq_true hb)] at e
    rw [e] at q
    exact qd_ret (K := K) (a0.le.trans e1) (.bl (ev_isNW (gv_call (ga_cons (gv_var rfl rp) ga_nil) ⟨n, ps, rfl, rfl, hn, hp, hpl⟩))) fun v B' H' a r => q v B' H' ((a0.ex e1).trans a) r
  rw [if_neg (of_decide_eq_false hb)] at e
  have a1 := a0.ex e1
  refine qd_if (b := decide (k = 1)) a1.le (et_test (ev_eq (ev_v rfl (r_kind.mono a0.base)) (ev_n (a := 1)))) (fun hb H2 e2 => ?_) (fun hb H2 e2 => ?_)
  · rw [if_pos (of_decide_eq_true hb)] at e
    rw [e] at q
    exact qd_ret (K := K) (a1.le.trans e2) (.bl (ev_le (ev_at (l := [(growthOf n ms ps).1, (growthOf n ms ps).2]) (gv_call (ga_cons (gv_var rfl (r_size.mono a0.base)) (ga_cons (gv_var rfl (r_matrices.mono a0.base)) (ga_cons (gv_var rfl rp) ga_nil))) ⟨n, ms, ps, rfl, rfl, hn, hm, hp, hpl⟩) (ev_n (a := 0)) (by show 0 < 2; omega)) (ev_v rfl (r_bound.mono a0.base)))) fun v B' H' a r => q v B' H' ((a1.ex e2).trans a) r
  rw [if_neg (of_decide_eq_false hb)] at e
  have a2 := a1.ex e2
  refine qd_if (b := !areChances n ms) a2.le (et_not (et_test (gv_callB (ga_cons (gv_var rfl (r_size.mono a0.base)) (ga_cons (gv_var rfl (r_matrices.mono a0.base)) ga_nil)) ⟨n, ms, rfl, rfl, hn, hm, hl⟩))) (fun hb H3 e3 => ?_) (fun hb H3 e3 => ?_)
  · have hc : areChances n ms = false := by simpa using hb
    rw [hc, if_neg (by decide)] at e
    rw [e] at q
    exact qd_ret (K := K) (a2.le.trans e3) (.bl ev_c) fun v B' H' a r => q v B' H' ((a2.ex e3).trans a) r
  have hc : areChances n ms = true := by simpa using hb
  rw [hc, if_pos rfl] at e
  have a3 := a2.ex e3
  refine qd_asg (d := dOptN (mixingIndex n ps)) a3.le (gv_call (ga_cons (gv_var rfl (r_size.mono a0.base)) (ga_cons (gv_var rfl rp) ga_nil)) ⟨n, ps, rfl, rfl, hn, hp⟩) fun vl B4 H4 a4 r4 => ?_
  have rb := r_bound.mono (a0.base.trans a4.base)
  cases hx : mixingIndex n ps with
  | none =>
    rw [hx] at e r4
    rw [e] at q
    exact qd_ret (K := K) a4.le (Gv.is (.bl (ev_andV (a := false) (b := false) (ev_notN1 (gv_var rfl r4)) fun h => by cases h)) rfl) fun v B' H' a r => q v B' H' ((a3.trans a4).trans a) r
  | some m =>
    rw [hx] at e r4
    rw [e] at q
    exact qd_ret (K := K) a4.le (Gv.is (.bl (ev_andV (a := true) (ev_notN0I (gv_var rfl r4)) fun _ => ev_le (ev_v rfl r4) (ev_v rfl rb))) rfl) fun v B' H' a r => q v B' H' ((a3.trans a4).trans a) r
def F_are_satisfied (ds : List PyData) (d : PyData) : Prop := ∃ n ms gs, ds = [dI n, dM ms, dPairs gs] ∧ d = .bool (areSatisfied n ms gs) ∧ Sz n ∧ Ms n ms ∧ ms.length ≤ 1000 ∧ gs.length ≤ 1000
theorem sc_are_satisfied : FnScope ["size", "matrices", "guarantees", "kind", "bound"] ["size", "matrices", "guarantees"] MwH.d_are_satisfied.scope := ⟨rfl, rfl, rfl, by decide +kernel, rfl, by decide +kernel, by decide +kernel⟩
theorem ok_are_satisfied (T : Txt K mg) : Has P w K mg base 9 "are_satisfied" ["size", "matrices", "guarantees"] (spD K F_are_satisfied) := by
  refine has_def (N := ["size", "matrices", "guarantees", "kind", "bound"]) T 54 rfl rfl rfl rfl rfl sc_are_satisfied (fun _ _ _ _ _ _ us hl => match us, hl with | [_, _, _], _ => rfl) (fun ds d h => by obtain ⟨n, ms, gs, rfl, rfl, hn, hm, hl, hg⟩ := h; rfl) fun f cdv A outer s H E hr vs B ds dd Q le r hF q => ?_
  obtain ⟨n, ms, gs, rfl, rfl, hn, hm, hl, hg⟩ := hF
  obtain ⟨x_size, x_matrices, x_guarantees, rfl, r_size, r_matrices, r_guarantees⟩ := RpAll.n3 r
  obtain ⟨f_is_satisfied, fd_is_satisfied, m_is_satisfied, k_is_satisfied, b_is_satisfied, G_is_satisfied⟩ := ok_is_satisfied (P := P) (w := w) (base := base) T
  refine ⟨_, (pss_one (ps_ret (pe_callB (cr_allK (K := K) rfl rfl) (by rfl) (T.free 138 rfl) (by decide +kernel) (pa_cons (pe_lc (own := [("kind", 3), ("bound", 4)]) rfl sc_are_satisfied.nd (pi_listK (K := K) rfl (pv 2)) (blkOk_by (own := [("kind", 3), ("bound", 4)]) (N := ["size", "matrices", "guarantees", "kind", "bound"]) (sc := MwH.d_are_satisfied.scope) (by decide +kernel)) (fun _ _ _ _ _ => (pg_tupK (K := K) (n := 2) rfl rfl (pgs_cons (pg_name (i := 3) sc_are_satisfied.nd rfl (Or.inl rfl)) (pgs_cons (pg_name (i := 4) sc_are_satisfied.nd rfl (Or.inl rfl)) pgs_nil)))) (fun _ _ _ _ _ => pts_nil) (fun _ _ _ _ _ => (pe_call G_is_satisfied (hr.mono (by decide)) (by rfl) m_is_satisfied k_is_satisfied b_is_satisfied .nil pass0 (pa_cons (pv 0) (pa_cons (pv 1) (pa_cons (pv 3) (pa_cons (pv 4) pa_nil))))))) pa_nil)))), ?_⟩
  refine qd_ret le (Gv.is (.bl (ev_allL (l := gs.map fun g => isSatisfied n ms g.1 g.2) (ga_cons (Gv.is (gv_lcL (fun _ => true) (fun i => .bool (isSatisfied n ms (gs.getD i (0, 0)).1 (gs.getD i (0, 0)).2)) (gv_var rfl r_guarantees) (by rw [List.length_map]; omega) fun i x d B1 e1 hd rx => ?_) ?_) ga_nil))) ?_) q
  · obtain ⟨hi, rfl⟩ := dM_at (0, 0) hd
    exact turn_two rx (fun _ _ => rfl) fun x1 x2 r1 r2 => ⟨et_true, fun _ => gv_call (ga_cons (gv_var rfl (r_size.mono e1)) (ga_cons (gv_var rfl (r_matrices.mono e1)) (ga_cons (gv_var rfl r1) (ga_cons (gv_var rfl r2) ga_nil)))) ⟨n, ms, _, _, rfl, rfl, hn, hm, hl⟩⟩
  · rw [gvn_all, List.length_map, map_bools (fun g : Nat × Nat => isSatisfied n ms g.1 g.2) gs (0, 0)]
  · unfold areSatisfied
    rw [List.all_map]
    rfl
def dZ (l : List Int) : PyData := .list (l.map .int)
theorem dL_dZ (l : List Nat) : dL l = dZ (zs l) := rfl
def F_told_word (ds : List PyData) (d : PyData) : Prop := ∃ o, ds = [dWord o] ∧ d = dZ (toldWord o) ∧ ∀ w, o = some w → w.length ≤ 10000
theorem sc_told_word : FnScope ["word"] ["word"] MwH.d_told_word.scope := ⟨rfl, rfl, rfl, by decide +kernel, rfl, by decide +kernel, by decide +kernel⟩
theorem ok_told_word (T : Txt K mg) : Has P w K mg base 1 "told_word" ["word"] (spD K F_told_word) := by
  refine has_def (N := ["word"]) T 65 rfl rfl rfl rfl rfl sc_told_word (fun _ _ _ _ _ _ us hl => match us, hl with | [_], _ => rfl) (fun ds d h => by obtain ⟨o, rfl, rfl, hl⟩ := h; rfl) fun f cdv A outer s H E hr vs B ds dd Q le r hF q => ?_
  obtain ⟨o, rfl, rfl, hl⟩ := hF
  obtain ⟨x_word, rfl, r_word⟩ := RpAll.n1 r
  obtain ⟨t_IMPOSSIBLE, c_IMPOSSIBLE⟩ := T.int 114 (x := "IMPOSSIBLE") (z := (-33)) rfl
  refine ⟨_, (pss_cons (ps_if (pt_cmpR op_isN (pv 0) pe_non (nomark _)) (pss_one (ps_ret (pe_lst (pa_cons (pe_glob (v := V.int (-33)) (by rfl) c_IMPOSSIBLE ⟨_, rfl⟩) pa_nil)))) pss_nil) (pss_one (ps_ret (pe_op op_cat (pe_lst (pa_cons (pe_callB (call_lenK (K := K) rfl) (by rfl) (T.free 131 rfl) (by decide +kernel) (pa_cons (pv 0) pa_nil)) pa_nil)) (pv 0))))), ?_⟩
  cases ho : o with
  | none =>
    rw [ho] at q r_word
    refine qd_if (b := true) le (et_test (ev_isN1 (gv_var rfl r_word))) (fun hb H1 e1 => ?_) (fun hb => by cases hb)
    exact qd_ret (K := K) (le.trans e1) (gv_lst (ga_int ev_c ga_nil) (by show 1 ≤ 100000; omega)) fun v B' H' a r => q v B' H' ((At.up le e1).trans a) r
  | some wd =>
    rw [ho] at q r_word
    have hw := hl wd ho
    refine qd_if (b := false) le (et_test (ev_isN0 (gv_var rfl r_word))) (fun hb => by cases hb) (fun hb H1 e1 => ?_)
    refine qd_ret (K := K) (le.trans e1) (Gv.is (gv_cat (gv_lst (ga_int (ev_len (l := wd) (ga_cons (gv_var rfl r_word) ga_nil)) ga_nil) (by show 1 ≤ 100000; omega)) (gv_var rfl r_word) (by rw [zlen]; show 1 + _ ≤ _; omega)) ?_) fun v B' H' a r => q v B' H' ((At.up le e1).trans a) r
    rfl
/-- l[:i], l[i:] -/
theorem gv_pre {σ : L2.St} {B : Hp} {te ti : TE} {ds : List PyData} {i : Nat} (hi : i ≤ ds.length) (h : Gv K te σ B (.list ds)) (h1 : Ev ti σ B (.int (i : Int))) : Gv K (tSl (rSlL K) te tNoPart (tPart ti)) σ B (.list (ds.take i)) :=
  Gv.is (gv_sl (i := 0) (j := i) h eo_none (eo_some h1) rfl (sIx_nat _ _ _ hi)) rfl
theorem gv_suf {σ : L2.St} {B : Hp} {te ti : TE} {ds : List PyData} {i : Nat} (hi : i ≤ ds.length) (h : Gv K te σ B (.list ds)) (h1 : Ev ti σ B (.int (i : Int))) : Gv K (tSl (rSlL K) te (tPart ti) tNoPart) σ B (.list (ds.drop i)) :=
  Gv.is (gv_sl (i := i) (j := ds.length) h (eo_some h1) eo_none (sIx_nat _ _ _ hi) rfl) (congrArg PyData.list (List.take_of_length_le (by rw [List.length_drop]; exact Nat.le_refl _)))
def F_with_item (ds : List PyData) (d : PyData) : Prop := ∃ l i x, ds = [.list l, dI i, x] ∧ d = .list (withItem l i x) ∧ i < l.length ∧ l.length ≤ 10000
theorem sc_with_item : FnScope ["items", "place", "item"] ["items", "place", "item"] MwH.d_with_item.scope := ⟨rfl, rfl, rfl, by decide +kernel, rfl, by decide +kernel, by decide +kernel⟩
theorem ok_with_item (T : Txt K mg) : Has P w K mg base 1 "with_item" ["items", "place", "item"] (spD K F_with_item) := by
  refine has_def (N := ["items", "place", "item"]) T 80 rfl rfl rfl rfl rfl sc_with_item (fun _ _ _ _ _ _ us hl => match us, hl with | [_, _, _], _ => rfl) (fun ds d h => by obtain ⟨l, i, x, rfl, rfl, hi, hl⟩ := h; rfl) fun f cdv A outer s H E hr vs B ds dd Q le r hF q => ?_
  obtain ⟨l, i, x, rfl, rfl, hi, hl⟩ := hF
  obtain ⟨x_items, x_place, x_item, rfl, r_items, r_place, r_item⟩ := RpAll.n3 r
  refine ⟨_, (pss_one (ps_ret (pe_op op_cat (pe_op op_cat (pe_slice (sl_listK (K := K) rfl) (pv 0) po_none (po_some (pv 1))) (pe_lst (pa_cons (pv 2) pa_nil))) (pe_slice (sl_listK (K := K) rfl) (pv 0) (po_some (pe_op op_add (pv 1) pe_int)) po_none)))), ?_⟩
  refine qd_ret le (gv_cat (gv_cat (gv_pre (by omega) (gv_var rfl r_items) (ev_v rfl r_place)) (gv_lst (ga_cons (gv_var rfl r_item) ga_nil) (by show 1 ≤ 100000; omega)) ?_) (gv_suf (i := i + 1) (by omega) (gv_var rfl r_items) (ev_add (ev_v rfl r_place) (ev_n (a := 1)))) ?_) q
  · rw [List.length_take]
    show _ + 1 ≤ _
    omega
  · rw [List.length_append, List.length_take, List.length_drop]
    show _ + 1 + _ ≤ _
    omega
def F_without_item (ds : List PyData) (d : PyData) : Prop := ∃ l i, ds = [.list l, dI i] ∧ d = .list (withoutItem l i) ∧ i < l.length ∧ l.length ≤ 10000
theorem sc_without_item : FnScope ["items", "place"] ["items", "place"] MwH.d_without_item.scope := ⟨rfl, rfl, rfl, by decide +kernel, rfl, by decide +kernel, by decide +kernel⟩
theorem ok_without_item (T : Txt K mg) : Has P w K mg base 1 "without_item" ["items", "place"] (spD K F_without_item) := by
  refine has_def (N := ["items", "place"]) T 81 rfl rfl rfl rfl rfl sc_without_item (fun _ _ _ _ _ _ us hl => match us, hl with | [_, _], _ => rfl) (fun ds d h => by obtain ⟨l, i, rfl, rfl, hi, hl⟩ := h; rfl) fun f cdv A outer s H E hr vs B ds dd Q le r hF q => ?_
  obtain ⟨l, i, rfl, rfl, hi, hl⟩ := hF
  obtain ⟨x_items, x_place, rfl, r_items, r_place⟩ := RpAll.n2 r
  refine ⟨_, (pss_one (ps_ret (pe_op op_cat (pe_slice (sl_listK (K := K) rfl) (pv 0) po_none (po_some (pv 1))) (pe_slice (sl_listK (K := K) rfl) (pv 0) (po_some (pe_op op_add (pv 1) pe_int)) po_none)))), ?_⟩
  refine qd_ret le (gv_cat (gv_pre (by omega) (gv_var rfl r_items) (ev_v rfl r_place)) (gv_suf (i := i + 1) (by omega) (gv_var rfl r_items) (ev_add (ev_v rfl r_place) (ev_n (a := 1)))) ?_) q
  rw [List.length_take, List.length_drop]
  omega
def F_are_entries (ds : List PyData) (d : PyData) : Prop := ∃ n l, ds = [dI n, dL l] ∧ d = .bool (areEntries n l) ∧ Sz n ∧ l.length ≤ 10000
theorem sc_are_entries : FnScope ["size", "items", "entry"] ["size", "items"] MwH.d_are_entries.scope := ⟨rfl, rfl, rfl, by decide +kernel, rfl, by decide +kernel, by decide +kernel⟩
theorem ok_are_entries (T : Txt K mg) : Has P w K mg base 1 "are_entries" ["size", "items"] (spD K F_are_entries) := by
  refine has_def (N := ["size", "items", "entry"]) T 83 rfl rfl rfl rfl rfl sc_are_entries (fun _ _ _ _ _ _ us hl => match us, hl with | [_, _], _ => rfl) (fun ds d h => by obtain ⟨n, l, rfl, rfl, hn, hl⟩ := h; rfl) fun f cdv A outer s H E hr vs B ds dd Q le r hF q => ?_
  obtain ⟨n, l, rfl, rfl, hn, hl⟩ := hF
  obtain ⟨x_size, x_items, rfl, r_size, r_items⟩ := RpAll.n2 r
  obtain ⟨t_MAX_ENTRY, c_MAX_ENTRY⟩ := T.int 116 (x := "MAX_ENTRY") (z := (9)) rfl
  refine ⟨_, (pss_one (ps_ret (pe_and (pe_cmpR op_eq (pe_callB (call_lenK (K := K) rfl) (by rfl) (T.free 131 rfl) (by decide +kernel) (pa_cons (pv 1) pa_nil)) (pe_op op_mul (pv 0) (pv 0)) (nomark _)) (pe_one (pe_callB (cr_allK (K := K) rfl rfl) (by rfl) (T.free 138 rfl) (by decide +kernel) (pa_cons (pe_lc (own := [("entry", 2)]) rfl sc_are_entries.nd (pi_listK (K := K) rfl (pv 1)) (blkOk_by (own := [("entry", 2)]) (N := ["size", "items", "entry"]) (sc := MwH.d_are_entries.scope) (by decide +kernel)) (fun _ _ _ _ _ => (pg_name (i := 2) sc_are_entries.nd rfl (Or.inl rfl))) (fun _ _ _ _ _ => pts_nil) (fun _ _ _ _ _ => (pe_cmpR op_le (pv 2) (pe_glob (v := V.int (9)) (by rfl) c_MAX_ENTRY ⟨_, rfl⟩) (nomark _)))) pa_nil)))))), ?_⟩
  have h3 := hn.le
  refine qd_ret le (Gv.is (.bl (ev_andV (ev_eq (ev_len (l := l) (ga_cons (gv_var rfl r_items) ga_nil)) (ev_mul (a := n) (b := n) (.inl (by omega)) (ev_v rfl r_size) (ev_v rfl r_size))) fun _ => ev_allL (l := l.map fun e => decide (e ≤ 9)) (ga_cons (Gv.is (gv_lcL (fun _ => true) (fun i => .bool (decide (l.getD i 0 ≤ 9))) (gv_var rfl r_items) (by rw [zlen]; omega) fun i x d B1 e1 hd rx => turn_name (fun _ => rfl) et_true fun _ => ?_) ?_) ga_nil))) ?_) q
  · obtain ⟨hi, rfl⟩ := dL_at hd
    exact .bl (ev_le (ev_v rfl rx) (ev_n (a := 9)))
  · rw [gvn_all, zlen, map_bools (fun e => decide (e ≤ 9)) l 0]
  · unfold areEntries
    rw [List.all_map]
    rfl
end
end Mw
end
section
set_option Elab.async false
set_option linter.all false
set_option maxRecDepth 100000
set_option maxHeartbeats 4000000
/-! # The model and the desk: instances, what changes and what stands -/
namespace Mw
open PySem PySem.Spec PyProof.Rows L2 Evl
open MwH (fn fa)
/-- instances may change, nothing else -/
structure AtI (B0 H0 B H : Hp) : Prop where
  base : Still B0 B
  le : Ex B H
  keep : Still H0 H
  dom : ∀ a, H0 a ≠ none → H a ≠ none
  fr : ∀ a o, B a = some o → B0 a = some o ∨ H0 a = none ∨ (∃ xs, o = .tup xs) ∨ ∃ C dx fs, o = .ins C dx fs
section
variable {K : Frg} {B0 H0 B H B1 H1 B2 H2 : Hp} {p : Addr} {o : HO}
theorem Still.trans (a : Still B0 B) (b : Still B B1) : Still B0 B1 := fun x u e h => b x u (a x u e h) h
theorem Still.refl (B : Hp) : Still B B := fun x u e h => e
theorem At.toI (a : At B0 H0 B H) : AtI B0 H0 B H := ⟨.of a.base, a.le, .of a.keep, fun x h => by
  cases c : H0 x with
  | none => exact absurd c h
  | some u =>
    rw [a.keep x u c]
    exact (fun z => by cases z), fun x u e => by
  rcases a.fr x u e with q | q | q
  · exact .inl q
  · exact .inr (.inl q)
  · exact .inr (.inr (.inl q))⟩
theorem AtI.refl (h : Ex B H) : AtI B H B H := (At.refl h).toI
theorem AtI.trans (a : AtI B0 H0 B H) (b : AtI B H B1 H1) : AtI B0 H0 B1 H1 := ⟨a.base.trans b.base, b.le, a.keep.trans b.keep, fun x h => b.dom x (a.dom x h), fun x u e => by
  rcases b.fr x u e with q | q | q
  · exact a.fr x u q
  · refine .inr (.inl ?_)
    cases c : H0 x with
    | none => rfl
    | some v => exact absurd q (a.dom x (by rw [c]; exact fun z => by cases z))
  · exact .inr (.inr q)⟩
theorem AtI.at (a : AtI B0 H0 B H) (b : At B H B1 H1) : AtI B0 H0 B1 H1 := a.trans b.toI
/-- what stood beside the base (no tuple, no instance) stands beside it still -/
theorem AtI.off (a : AtI B H B1 H1) (hB : B p = none) (hH : H p = some o) (ht : ∀ xs, o ≠ .tup xs) (hi : ∀ C dx fs, o ≠ .ins C dx fs) : B1 p = none := by
  cases q : B1 p with
  | none => rfl
  | some u =>
    have e1 := a.le p u q
    have e2 := a.keep p o hH hi
    rw [e1] at e2
    obtain rfl := Option.some.inj e2
    rcases a.fr p u q with z | z | ⟨xs, z⟩ | ⟨C, dx, fs, z⟩
    · rw [hB] at z
      cases z
    · rw [hH] at z
      cases z
    · exact absurd z (ht xs)
    · exact absurd z (hi _ _ _)
theorem lst_ins {xs : List V} : ∀ C dx fs, HO.lst xs ≠ .ins C dx fs := fun _ _ _ q => by cases q
/-- an instance of the base is changed -/
theorem AtI.put {C C' dx dx' : Addr} {fs fs' : List (Str × V)} (a : AtI B0 H0 B H) (hB : B p = some (.ins C dx fs)) : AtI B0 H0 (upd B p (.ins C' dx' fs')) (upd H p (.ins C' dx' fs')) := ⟨fun x u e h => by
    have e2 := a.base x u e h
    by_cases c : x = p
    · rw [c, hB] at e2
      exact absurd (Option.some.inj e2).symm (h _ _ _)
    · rw [upd_ne c]
      exact e2, fun x u e => by
    by_cases c : x = p
    · subst c
      rw [upd_same] at e ⊢
      exact e
    · rw [upd_ne c] at e ⊢
      exact a.le x u e, fun x u e h => by
    have e2 := a.keep x u e h
    by_cases c : x = p
    · rw [c, a.le p _ hB] at e2
      exact absurd (Option.some.inj e2).symm (h _ _ _)
    · rw [upd_ne c]
      exact e2, fun x h => by
    by_cases c : x = p
    · subst c
      rw [upd_same]
      exact fun z => by cases z
    · rw [upd_ne c]
      exact a.dom x h, fun x u e => by
    by_cases c : x = p
    · subst c
      rw [upd_same] at e
      exact .inr (.inr (.inr ⟨_, _, _, (Option.some.inj e).symm⟩))
    · rw [upd_ne c] at e
      exact a.fr x u e⟩
theorem still_put {C C' dx dx' : Addr} {fs fs' : List (Str × V)} (hB : B p = some (.ins C dx fs)) : Still B (upd B p (.ins C' dx' fs')) := fun x u e h => by
  by_cases c : x = p
  · rw [c, hB] at e
    exact absurd (Option.some.inj e).symm (h _ _ _)
  · rw [upd_ne c]
    exact e
end
/-- one instance may change, nothing else -/
structure AtP (p : Addr) (B0 H0 B H : Hp) : Prop where
  i : AtI B0 H0 B H
  but : ∀ x u, x ≠ p → B0 x = some u → B x = some u
section
variable {B0 H0 B H B1 H1 : Hp} {p : Addr}
theorem AtP.le (a : AtP p B0 H0 B H) : Ex B H := a.i.le
theorem AtP.base (a : AtP p B0 H0 B H) : Still B0 B := a.i.base
theorem At.toP (a : At B0 H0 B H) : AtP p B0 H0 B H := ⟨a.toI, fun x u _ e => a.base x u e⟩
theorem AtP.refl (h : Ex B H) : AtP p B H B H := (At.refl h).toP
theorem AtP.trans (a : AtP p B0 H0 B H) (b : AtP p B H B1 H1) : AtP p B0 H0 B1 H1 := ⟨a.i.trans b.i, fun x u n e => b.but x u n (a.but x u n e)⟩
theorem AtP.at (a : AtP p B0 H0 B H) (b : At B H B1 H1) : AtP p B0 H0 B1 H1 := a.trans b.toP
theorem AtP.put {C C' dx dx' : Addr} {fs fs' : List (Str × V)} (a : AtP p B0 H0 B H) (hB : B p = some (.ins C dx fs)) : AtP p B0 H0 (upd B p (.ins C' dx' fs')) (upd H p (.ins C' dx' fs')) := ⟨a.i.put hB, fun x u n e => by
  rw [upd_ne n]
  exact a.but x u n e⟩
end
/-! ### the model -/
def CM (K : Frg) : Addr := He.ga K "Model"
def CD (K : Frg) : Addr := He.ga K "Desk"
def dStep (s : Nat × Nat × Nat) : PyData := .tuple [dI s.1, dI s.2.1, dI s.2.2]
def dSteps (l : List (Nat × Nat × Nat)) : PyData := .list (l.map dStep)
def dPast (p : Past) : PyData := .tuple [dM p.matrices, dPairs p.guarantees, dI p.position, dSteps p.steps]
def dHist (l : List Past) : PyData := .list (l.map dPast)
def mfs (n : Nat) (vm vg : V) (p : Nat) (vs vh : V) : List (Str × V) := [("size", .int (n : Int)), ("matrices", vm), ("guarantees", vg), ("position", .int (p : Int)), ("steps", vs), ("history", vh)]
structure MdAt (K : Frg) (B : Hp) (a : Addr) (m : Model) (dx : Addr) (vm vg vs vh : V) : Prop where
  ins : B a = some (.ins (CM K) dx (mfs m.size vm vg m.now.position vs vh))
  rm : Rp K B vm (dM m.now.matrices)
  rg : Rp K B vg (dPairs m.now.guarantees)
  rs : Rp K B vs (dSteps m.now.steps)
  rh : Rp K B vh (dHist m.history)
/-- what lies at a is the model -/
def MdIn (K : Frg) (B : Hp) (a : Addr) (m : Model) : Prop := ∃ dx vm vg vs vh, MdAt K B a m dx vm vg vs vh
section
variable {K : Frg} {mg : Str → Option Value} {B B1 H : Hp} {a : Addr} {m : Model} {σ : L2.St} {i : Nat}
theorem MdIn.mono (e : Ex B B1) (h : MdIn K B a m) : MdIn K B1 a m := by
  obtain ⟨dx, vm, vg, vs, vh, h⟩ := h
  exact ⟨dx, vm, vg, vs, vh, e _ _ h.ins, h.rm.mono e, h.rg.mono e, h.rs.mono e, h.rh.mono e⟩
theorem Txt.cls (T : Txt K mg) (i : Nat) {x : Str} (h : fa[i]? = some (.cls x)) : Cls K (He.ga K x) := He.cls_ok (T.fact i h)
theorem Txt.noat (T : Txt K mg) (i : Nat) {x f : Str} (h : fa[i]? = some (.noat x f)) : NoAttr K (He.ga K x) f := He.noat_ok (T.fact i h)
theorem Txt.meth (T : Txt K mg) (i : Nat) {x m : Str} (h : fa[i]? = some (.meth x m)) : Meth K (He.ga K x) m (He.ma K (He.ga K x) m) := He.meth_ok (T.fact i h)
theorem Txt.mkr (T : Txt K mg) (i : Nat) {x : Str} (h : fa[i]? = some (.mkr x)) : Mk K (He.ga K x) (He.ma K (He.ga K x) "__init__") := He.mkr_ok (T.fact i h)
theorem gv_fld {C dx : Addr} {fs : List (Str × V)} {f : Str} {v : V} {d : PyData} (c : Cls K C) (n : NoAttr K C f) (hs : σ[i]? = some (some (.ref a))) (hB : B a = some (.ins C dx fs)) (l : fs.lookup f = some v) (r : Rp K B v d) : Gv K (tFld K (tVar i) f) σ B d := fun H le Q q =>
  ⟨.ref a, hs, a, C, dx, fs, v, rfl, le _ _ hB, c, n, l, q v B H (.refl le) r⟩
end
theorem pe_fldK {X : Cx} {K : Frg} {e : Expr} {f : Str} {pos : Pos} {ta : TE} (h : X.K = K) (he : PE X e ta) (hb : attributeBase e f X.env (eval e X.env) = eval e X.env) : PE X (.Attribute e f pos) (tFld K ta f) := by
  subst h
  exact pe_fld he hb
theorem ps_fldK {X : Cx} {K : Frg} {o value : Expr} {f : Str} {pos pos' : Pos} {ta tv : TE} (h : X.K = K) (ha : PE X o ta) (hv : PE X value tv) (hs : swapsWith value (some (.Attribute o f pos')) pos.line X.env = pure false) : PS X (.Assign [.Attribute o f pos'] value pos) (sFld K ta tv f) := by
  subst h
  exact ps_fld ha hv hs
/-- the target o.f -/
def gFld (K : Frg) (to : TE) (f : Str) : TG := fun v σ H Q => to σ H fun x H1 => ∃ a C dx fs, x = .ref a ∧ H1 a = some (.ins C dx fs) ∧ Cls K C ∧ NoAttr K C f ∧ fs.length < 1000 ∧ Q σ (upd H1 a (.ins C dx (putF f v fs)))
theorem pg_fld {X : Cx} {K : Frg} {o : Expr} {f : Str} {pos : Pos} {to : TE} (h : X.K = K) (ho : PE X o to) : PG X (.Attribute o f pos) (gFld K to f) := by
  subst h
  refine ⟨fun pins s σ H v u Q I r h => ?_⟩
  rw [assign_Attribute]
  refine wpAny_bind (wpAny_holding (thn (ho.run pins s σ H _ I h) fun ov s1 ⟨x, H1, I1, r1, a, C, dx, fs, ex, ea, c, n, l, q⟩ => ?_))
  subst ex
  obtain rfl : ov = Value.ref a := r1
  refine wpAny_bind (wpAny_standAt (wpAny_bind (wpAny_holding (setattr_ok I1 ea c n l r fun s3 I3 => ?_))))
  exact wpAny_release ⟨σ, _, I3, q⟩
/-! ### promises -/
/-- a promise that reads a model -/
def spQ (K : Frg) (F : Model → List PyData → PyData → Prop) : Sp := fun vs H Q _ => ∃ B a m ws ds d, vs = .ref a :: ws ∧ Ex B H ∧ MdIn K B a m ∧ RpAll K B ws ds ∧ F m ds d ∧ ∀ v B' H', At B H B' H' → Rp K B' v d → Q v H'
/-- a promise that may change it -/
def spC (K : Frg) (F : Model → List PyData → Model → PyData → Prop) : Sp := fun vs H Q _ => ∃ B a m ws ds m' d, vs = .ref a :: ws ∧ Ex B H ∧ MdIn K B a m ∧ RpAll K B ws ds ∧ F m ds m' d ∧ ∀ v B' H', AtP a B H B' H' → MdIn K B' a m' → Rp K B' v d → Q v H'
section
variable {P : Program} {w : World} {K : Frg} {mg : Str → Option Value} {base : Heap}
theorem has_sp (T : Txt K mg) {x : Str} {d : He.DefD} {N ps : List Str} {k : Nat} {sp : Sp} (i : Nat) (h1 : fn[i]? = some d) (h2 : fa[i]? = some (.glo x)) (ha : d.at_ = (x, none)) (hd : d.dfl = []) (hk : d.kwd = []) (S : FnScope N ps d.scope)
    (hb : ∀ (kV doc pm : Value) (an : Option Addr) (cdv ct : Value) (us : List Value), us.length = ps.length → bindArgs (PySem.W.fnOf d.name d.qual d.params d.body d.scope .none kV doc pm an cdv ct) ⟨us, []⟩ = pure (ps.zip us))
    (hlen : ∀ vs H Q E, sp vs H Q E → vs.length = ps.length)
    (hbody : ∀ (f : Addr) (cdv : Value) (A : Around) (outer : List Env) (s : Shared) (H : Hp) (E : XK), Room k (A.deeper (envOfC d.qual d.scope s.heap.objs.size f cdv)) → ∀ (vs : List V) (Q : VK), sp vs H Q E →
      ∃ t, PSs (cxOf CX0 P w K mg base N d.qual d.scope f cdv A outer s H E).nox d.body t ∧ t { nx := fun _ H' => Q .non H', rt := Q } (start N vs) H) : Has P w K mg base (k + 1) x ps sp := by
  obtain ⟨f, fd, gm, FF⟩ := T.def_ i h1 h2 ha hd hk
  refine ⟨f, fd, gm, FF.kp, FF.bindsN hb, FF.ok S hlen fun cdv A outer s H vs Q E hr h => ?_⟩
  obtain ⟨t, h3, h4⟩ := hbody f cdv A outer s H E hr vs Q h
  exact ⟨t, PSs.nox h3, h4⟩
/-- a method keeps its promise -/
def HasM (P : Program) (w : World) (K : Frg) (mg : Str → Option Value) (base : Heap) (k : Nat) (C m : Str) (ps : List Str) (sp : Sp) : Prop :=
  ∃ fd, Binds K fd ps [] ∧ FnOk P w K mg base CX0 k (He.ma K (He.ga K C) m) fd ps sp
theorem has_meth (T : Txt K mg) {C x : Str} {d : He.DefD} {N ps : List Str} {k : Nat} {sp : Sp} (i : Nat) (h1 : fn[i]? = some d) (ha : d.at_ = (C, some x)) (hd : d.dfl = []) (hk : d.kwd = []) (S : FnScope N ps d.scope)
    (hb : ∀ (kV doc pm : Value) (an : Option Addr) (cdv ct : Value) (us : List Value), us.length = ps.length → bindArgs (PySem.W.fnOf d.name d.qual d.params d.body d.scope .none kV doc pm an cdv ct) ⟨us, []⟩ = pure (ps.zip us))
    (hlen : ∀ vs H Q E, sp vs H Q E → vs.length = ps.length)
    (hbody : ∀ (f : Addr) (cdv : Value) (A : Around) (outer : List Env) (s : Shared) (H : Hp) (E : XK), Room k (A.deeper (envOfC d.qual d.scope s.heap.objs.size f cdv)) → ∀ (vs : List V) (Q : VK), sp vs H Q E →
      ∃ t, PSs (cxOf CX0 P w K mg base N d.qual d.scope f cdv A outer s H E).nox d.body t ∧ t { nx := fun _ H' => Q .non H', rt := Q } (start N vs) H) : HasM P w K mg base (k + 1) C x ps sp := by
  obtain ⟨fd, FF⟩ := T.says.1.def_ i h1
  have e1 : d.dvs K = [] := by
    unfold He.DefD.dvs
    rw [hd]
    rfl
  have e2 : d.kws K = [] := by
    unfold He.DefD.kws
    rw [hk]
    rfl
  have e3 : He.fAd K d.at_ = He.ma K (He.ga K C) x := by
    rw [ha]
    rfl
  rw [e1, e2, e3] at FF
  refine ⟨fd, FF.bindsN hb, FF.ok S hlen fun cdv A outer s H vs Q E hr h => ?_⟩
  obtain ⟨t, h3, h4⟩ := hbody _ cdv A outer s H E hr vs Q h
  exact ⟨t, PSs.nox h3, h4⟩
section
variable {σ : L2.St} {B H : Hp} {a : Addr} {m : Model} {i : Nat}
theorem ev_size (T : Txt K mg) (h : MdIn K B a m) (hs : σ[i]? = some (some (.ref a))) : Ev (tFld K (tVar i) "size") σ B (.int (m.size : Int)) := by
  obtain ⟨dx, vm, vg, vs, vh, h⟩ := h
  exact (gv_fld (T.cls 141 rfl) (T.noat 143 rfl) hs h.ins rfl (.int _)).toInt
theorem ev_pos (T : Txt K mg) (h : MdIn K B a m) (hs : σ[i]? = some (some (.ref a))) : Ev (tFld K (tVar i) "position") σ B (.int (m.now.position : Int)) := by
  obtain ⟨dx, vm, vg, vs, vh, h⟩ := h
  exact (gv_fld (T.cls 141 rfl) (T.noat 146 rfl) hs h.ins rfl (.int _)).toInt
theorem gv_mats (T : Txt K mg) (h : MdIn K B a m) (hs : σ[i]? = some (some (.ref a))) : Gv K (tFld K (tVar i) "matrices") σ B (dM m.now.matrices) := by
  obtain ⟨dx, vm, vg, vs, vh, h⟩ := h
  exact gv_fld (T.cls 141 rfl) (T.noat 144 rfl) hs h.ins rfl h.rm
theorem gv_gs (T : Txt K mg) (h : MdIn K B a m) (hs : σ[i]? = some (some (.ref a))) : Gv K (tFld K (tVar i) "guarantees") σ B (dPairs m.now.guarantees) := by
  obtain ⟨dx, vm, vg, vs, vh, h⟩ := h
  exact gv_fld (T.cls 141 rfl) (T.noat 145 rfl) hs h.ins rfl h.rg
theorem gv_steps (T : Txt K mg) (h : MdIn K B a m) (hs : σ[i]? = some (some (.ref a))) : Gv K (tFld K (tVar i) "steps") σ B (dSteps m.now.steps) := by
  obtain ⟨dx, vm, vg, vs, vh, h⟩ := h
  exact gv_fld (T.cls 141 rfl) (T.noat 147 rfl) hs h.ins rfl h.rs
theorem gv_hist (T : Txt K mg) (h : MdIn K B a m) (hs : σ[i]? = some (some (.ref a))) : Gv K (tFld K (tVar i) "history") σ B (dHist m.history) := by
  obtain ⟨dx, vm, vg, vs, vh, h⟩ := h
  exact gv_fld (T.cls 141 rfl) (T.noat 148 rfl) hs h.ins rfl h.rh
/-- a call of a def that reads the model in a slot -/
theorem gv_callQ {F : Model → List PyData → PyData → Prop} {E : XK} {ta : TA} {ds : List PyData} {d : PyData} (hm : MdIn K B a m) (hs : σ[i]? = some (some (.ref a))) (h : GA K ta σ B ds) (hF : F m ds d) : Gv K (tCall (spQ K F) [] E (tCons (tVar i) ta)) σ B d := fun H le Q q =>
  ⟨.ref a, hs, h H le _ fun vs B1 H1 a1 r1 => by
    show spQ K F (V.ref a :: vs ++ []) H1 Q E
    rw [List.append_nil]
    exact ⟨B1, a, m, vs, ds, d, rfl, a1.le, hm.mono a1.base, r1, hF, fun v B2 H2 a2 r2 => q v B2 H2 (a1.trans a2) r2⟩⟩
theorem gv_callQB {F : Model → List PyData → PyData → Prop} {E : XK} {ta : TA} {ds : List PyData} {b : Bool} (hm : MdIn K B a m) (hs : σ[i]? = some (some (.ref a))) (h : GA K ta σ B ds) (hF : F m ds (.bool b)) : Ev (tCall (spQ K F) [] E (tCons (tVar i) ta)) σ B (.bl b) := (gv_callQ hm hs h hF).toBl
end
end
/-! ### what the program keeps of a model -/
structure GoodP (n : Nat) (p : Past) : Prop where
  ms : Ms n p.matrices
  ml : p.matrices.length ≤ 3
  gl : p.guarantees.length ≤ 3
  pos : p.position < n
  sl : p.steps.length ≤ 12
structure Good (m : Model) : Prop where
  sz : Sz m.size
  now : GoodP m.size m.now
  past : ∀ p ∈ m.history, GoodP m.size p
  hl : m.history.length ≤ 10
/-- numbers of a call with k numbers, its list -/
structure Asked (k : Nat) (nums items : List Nat) : Prop where
  len : nums.length = k
  lt : ∀ x ∈ nums, x < 2 ^ 32
  il : items.length ≤ 60
  it : ∀ x ∈ items, x < 2 ^ 16
/-- a query by a call's numbers and list -/
def QF (k : Nat) (f : Model → List Nat → List Nat → List Int) (m : Model) (ds : List PyData) (d : PyData) : Prop := ∃ nums items, ds = [dL nums, dL items] ∧ d = dZ (f m nums items) ∧ Good m ∧ Asked k nums items
/-- a deed -/
def CF (k : Nat) (f : Model → List Nat → List Nat → Told) (m : Model) (ds : List PyData) (m' : Model) (d : PyData) : Prop := ∃ nums items, ds = [dL nums, dL items] ∧ m' = (f m nums items).1 ∧ d = dZ (f m nums items).2 ∧ Good m ∧ Asked k nums items
/-- a query is a deed -/
theorem QF.deed {K : Frg} {k : Nat} {f : Model → List Nat → List Nat → List Int} {vs : List V} {H : Hp} {Q : VK} {E : XK} (h : spC K (CF k fun m a b => (m, f m a b)) vs H Q E) : spQ K (QF k f) vs H Q E := by
  obtain ⟨B, a, m, ws, ds, m', d, e, le, md, r, ⟨nums, items, e1, e2, e3, hg, hk⟩, q⟩ := h
  subst e2 e3
  exact ⟨B, a, _, ws, ds, _, e, le, md, r, ⟨nums, items, e1, rfl, hg, hk⟩, fun v B' H' at_ r' => q v B' H' at_.toP (md.mono at_.base) r'⟩
end Mw
end
section
set_option Elab.async false
set_option linter.all false
set_option maxRecDepth 100000
set_option maxHeartbeats 4000000
/-! # Walks: queries, the first half -/
namespace Mw
open PySem PySem.Spec PyProof.Rows L2 Evl
section
variable {P : Program} {w : World} {K : Frg} {mg : Str → Option Value} {base : Heap}
section
variable {σ : L2.St} {B0 H0 B H : Hp} {te : TE} {t : TT} {tz : TS} {D : Ends} {d : PyData}
/-- return e, the last -/
theorem rq (a : At B0 H0 B H) (q : ∀ v B' H', At B0 H0 B' H' → Rp K B' v d → D.rt v H') (h : Gv K te σ B d) : tRet te D σ H := qd_ret a.le h fun v B' H' a2 r => q v B' H' (a.trans a2) r
/-- if t: return e; the rest -/
theorem if_ret {b : Bool} (a : At B0 H0 B H) (q : ∀ v B' H', At B0 H0 B' H' → Rp K B' v d → D.rt v H') (ht : EvT t σ B b) (h1 : b = true → Gv K te σ B d) (k : b = false → ∀ H1, At B0 H0 B H1 → tz D σ H1) : tSeq (tIfS t (tRet te) tNext) tz D σ H :=
  qd_if a.le ht (fun hb H1 e => rq (D := { D with nx := tz D }) (a.ex e) q (h1 hb)) fun hb H1 e => k hb H1 (a.ex e)
theorem gv_one {z : Int} : Gv K (tLst (tCons (tC (.int z)) tNil)) σ B (dZ [z]) := gv_lst (ga_int ev_c ga_nil) (by show 1 ≤ 100000; omega)
theorem gv_oneE {z : Int} (h : Ev te σ B (.int z)) : Gv K (tLst (tCons te tNil)) σ B (dZ [z]) := gv_lst (ga_int h ga_nil) (by show 1 ≤ 100000; omega)
theorem gv_zero : Gv K (tLst tNil) σ B (dZ []) := gv_lst ga_nil (Nat.zero_le _)
theorem shp_dZ (l : List Int) : Shp 2 (dZ l) := .lst fun d hd => by
  obtain ⟨i, _, rfl⟩ := List.mem_map.mp hd
  exact .int i
theorem ev_num {l : List Nat} {i : Nat} (h : Gv K te σ B (dL l)) (hi : i < l.length) : Ev (tOp (rIxL K) te (tC (.int (i : Int)))) σ B (.int ((l.getD i 0 : Nat) : Int)) := ev_at h ev_n hi
end
theorem Asked.at {k : Nat} {nums items : List Nat} (h : Asked k nums items) {i : Nat} (hi : i < k) : i < nums.length := by
  rw [h.len]
  exact hi
theorem hasWord_lt {m : Model} {wd : List Nat} (h : hasWord m wd = true) : ∀ k ∈ wd, k < m.now.matrices.length := fun k hk => of_decide_eq_true (List.all_eq_true.mp h k hk)
theorem pair_ok {m : Model} {i j most : Nat} {wd : List Nat} (h : pairRefusal m i j wd most = []) : i < m.size ∧ j < m.size ∧ hasWord m wd = true ∧ wd.length ≤ most := by
  unfold pairRefusal at h
  split at h
  · cases h
  · rename_i c
    split at h
    · cases h
    · rename_i c2
      refine ⟨?_, ?_, ?_, by omega⟩
      · exact Nat.lt_of_not_le fun z => c (.inl z)
      · exact Nat.lt_of_not_le fun z => c (.inr (.inl z))
      · cases hw : hasWord m wd with
        | true => rfl
        | false => exact absurd (.inr (.inr hw)) c
def F_has_word (m : Model) (ds : List PyData) (d : PyData) : Prop := ∃ wd, ds = [dL wd] ∧ d = .bool (hasWord m wd) ∧ wd.length ≤ 10000
theorem sc_has_word : FnScope ["model", "word", "matrix"] ["model", "word"] MwH.d_has_word.scope := ⟨rfl, rfl, rfl, by decide +kernel, rfl, by decide +kernel, by decide +kernel⟩
theorem ok_has_word (T : Txt K mg) : Has P w K mg base 1 "has_word" ["model", "word"] (spQ K F_has_word) := by
  refine has_sp (N := ["model", "word", "matrix"]) T 55 rfl rfl rfl rfl rfl sc_has_word (fun _ _ _ _ _ _ us hl => match us, hl with | [_, _], _ => rfl) (fun vs H Q E h => by obtain ⟨B, a, m, ws, ds, d, rfl, _, _, r, hF, _⟩ := h; obtain ⟨wd, rfl, rfl, hl⟩ := hF; exact congrArg (· + 1) r.len) fun f cdv A outer s H E hr vs Q hq => ?_
  obtain ⟨B, am, m, ws, ds, dd, rfl, le, md, r, hF, q⟩ := hq
  obtain ⟨wd, rfl, rfl, hl⟩ := hF
  try dsimp only at q
  obtain ⟨x_word, rfl, r_word⟩ := RpAll.n1 r
  refine ⟨_, (pss_one (ps_ret (pe_callB (cr_allK (K := K) rfl rfl) (by rfl) (T.free 138 rfl) (by decide +kernel) (pa_cons (pe_lc (own := [("matrix", 2)]) rfl sc_has_word.nd (pi_listK (K := K) rfl (pv 1)) (blkOk_by (own := [("matrix", 2)]) (N := ["model", "word", "matrix"]) (sc := MwH.d_has_word.scope) (by decide +kernel)) (fun _ _ _ _ _ => (pg_name (i := 2) sc_has_word.nd rfl (Or.inl rfl))) (fun _ _ _ _ _ => pts_nil) (fun _ _ _ _ _ => (pe_cmpR op_lt (pv 2) (pe_callB (call_lenK (K := K) rfl) (by rfl) (T.free 131 rfl) (by decide +kernel) (pa_cons (pe_fldK (K := K) rfl (pv 0) rfl) pa_nil)) (nomark _)))) pa_nil)))), ?_⟩
  refine rq (.refl le) q (Gv.is (.bl (ev_allL (l := wd.map fun k => decide (k < m.now.matrices.length)) (ga_cons (Gv.is (gv_lcL (fun _ => true) (fun i => .bool (decide (wd.getD i 0 < m.now.matrices.length))) (gv_var rfl r_word) (by rw [zlen]; omega) fun i x d B1 e1 hd rx => turn_name (fun _ => rfl) et_true fun _ => ?_) ?_) ga_nil))) ?_)
  · obtain ⟨hi, rfl⟩ := dL_at hd
    exact .bl (ev_lt (ev_v rfl rx) (ev_lenM (f := dL) (ga_cons (gv_mats T (md.mono e1) rfl) ga_nil)))
  · rw [gvn_all, zlen, map_bools (fun k => decide (k < m.now.matrices.length)) wd 0]
  · unfold hasWord
    rw [List.all_map]
    rfl
def F_pair_refusal (m : Model) (ds : List PyData) (d : PyData) : Prop := ∃ i j wd most, ds = [dI i, dI j, dL wd, dI most] ∧ d = dZ (pairRefusal m i j wd most) ∧ wd.length ≤ 10000
theorem sc_pair_refusal : FnScope ["model", "one", "other", "word", "most"] ["model", "one", "other", "word", "most"] MwH.d_pair_refusal.scope := ⟨rfl, rfl, rfl, by decide +kernel, rfl, by decide +kernel, by decide +kernel⟩
theorem ok_pair_refusal (T : Txt K mg) : Has P w K mg base 2 "pair_refusal" ["model", "one", "other", "word", "most"] (spQ K F_pair_refusal) := by
  refine has_sp (N := ["model", "one", "other", "word", "most"]) T 56 rfl rfl rfl rfl rfl sc_pair_refusal (fun _ _ _ _ _ _ us hl => match us, hl with | [_, _, _, _, _], _ => rfl) (fun vs H Q E h => by obtain ⟨B, a, m, ws, ds, d, rfl, _, _, r, hF, _⟩ := h; obtain ⟨i, j, wd, most, rfl, rfl, hl⟩ := hF; exact congrArg (· + 1) r.len) fun f cdv A outer s H E hr vs Q hq => ?_
  obtain ⟨B, am, m, ws, ds, dd, rfl, le, md, r, hF, q⟩ := hq
  obtain ⟨i, j, wd, most, rfl, rfl, hl⟩ := hF
  try dsimp only at q
  obtain ⟨x_one, x_other, x_word, x_most, rfl, r_one, r_other, r_word, r_most⟩ := RpAll.n4 r
  obtain ⟨f_has_word, fd_has_word, m_has_word, k_has_word, b_has_word, G_has_word⟩ := ok_has_word (P := P) (w := w) (base := base) T
  obtain ⟨t_NOTHING_queries, c_NOTHING_queries⟩ := T.int 112 (x := "NOTHING_queries") (z := (-2)) rfl
  obtain ⟨t_OUT_OF_RANGE_queries, c_OUT_OF_RANGE_queries⟩ := T.int 113 (x := "OUT_OF_RANGE_queries") (z := (-22)) rfl
  refine ⟨_, (pss_cons (ps_if (PW.pt (pw_or (pt_cmpR op_ge (pv 1) (pe_fldK (K := K) rfl (pv 0) rfl) (nomark _)) (pw_or (pt_cmpR op_ge (pv 2) (pe_fldK (K := K) rfl (pv 0) rfl) (nomark _)) (pw_or1 (pt_not (pt_val (pe_call G_has_word (hr.mono (by decide)) (by rfl) m_has_word k_has_word b_has_word .nil pass0 (pa_cons (pv 0) (pa_cons (pv 3) pa_nil))))))))) (pss_one (ps_ret (pe_lst (pa_cons (pe_glob (v := V.int (-2)) (by rfl) c_NOTHING_queries ⟨_, rfl⟩) pa_nil)))) pss_nil) (pss_one (ps_ret (pe_ifExp (pt_cmpR op_gt (pe_callB (call_lenK (K := K) rfl) (by rfl) (T.free 131 rfl) (by decide +kernel) (pa_cons (pv 3) pa_nil)) (pv 4) (nomark _)) (pe_lst (pa_cons (pe_glob (v := V.int (-22)) (by rfl) c_OUT_OF_RANGE_queries ⟨_, rfl⟩) pa_nil)) (pe_lst pa_nil))))), ?_⟩
  have e : pairRefusal m i j wd most = if m.size ≤ i ∨ m.size ≤ j ∨ hasWord m wd = false then [-2] else if most < wd.length then [-22] else [] := rfl
  refine if_ret (b := decide (m.size ≤ i) || (decide (m.size ≤ j) || !hasWord m wd)) (.refl le) q (et_or (et_test (ev_ge (ev_v rfl r_one) (ev_size T md rfl))) fun _ => et_or (et_test (ev_ge (ev_v rfl r_other) (ev_size T md rfl))) fun _ => et_not (et_test (gv_callQB md rfl (ga_cons (gv_var rfl r_word) ga_nil) ⟨wd, rfl, rfl, hl⟩))) (fun hb => ?_) fun hb H1 a1 => ?_
  · have hc : m.size ≤ i ∨ m.size ≤ j ∨ hasWord m wd = false := by simpa using hb
    rw [if_pos hc] at e
    rw [e]
    exact gv_one
  · have hc : ¬ (m.size ≤ i ∨ m.size ≤ j ∨ hasWord m wd = false) := by
      intro z
      have : (decide (m.size ≤ i) || (decide (m.size ≤ j) || !hasWord m wd)) = true := by simpa using z
      rw [this] at hb
      cases hb
    rw [if_neg hc] at e
    refine rq a1 q (gv_if (b := decide (most < wd.length)) (et_test (ev_gt (ev_len (ga_cons (gv_var rfl r_word) ga_nil)) (ev_v rfl r_most))) (fun hd => ?_) fun hd => ?_)
    · rw [if_pos (of_decide_eq_true hd)] at e
      rw [e]
      exact gv_one
    · rw [if_neg (of_decide_eq_false hd)] at e
      rw [e]
      exact gv_zero
theorem mats_le {m : Model} (hg : Good m) : m.now.matrices.length ≤ 1000 := Nat.le_trans hg.now.ml (by omega)
theorem sc_get_matrix : FnScope ["model", "numbers", "items", "entries"] ["model", "numbers", "items"] MwH.d_get_matrix.scope := ⟨rfl, rfl, rfl, by decide +kernel, rfl, by decide +kernel, by decide +kernel⟩
theorem ok_get_matrix (T : Txt K mg) : Has P w K mg base 1 "get_matrix" ["model", "numbers", "items"] (spQ K (QF 1 fun m a _ => getMatrix m (a.getD 0 0))) := by
  refine has_sp (N := ["model", "numbers", "items", "entries"]) T 57 rfl rfl rfl rfl rfl sc_get_matrix (fun _ _ _ _ _ _ us hl => match us, hl with | [_, _, _], _ => rfl) (fun vs H Q E h => by obtain ⟨B, a, m, ws, ds, d, rfl, _, _, r, hF, _⟩ := h; obtain ⟨nums, items, rfl, rfl, hg, hk⟩ := hF; exact congrArg (· + 1) r.len) fun f cdv A outer s H E hr vs Q hq => ?_
  obtain ⟨B, am, m, ws, ds, dd, rfl, le, md, r, hF, q⟩ := hq
  obtain ⟨nums, items, rfl, rfl, hg, hk⟩ := hF
  try dsimp only at q
  obtain ⟨x_numbers, x_items, rfl, r_numbers, r_items⟩ := RpAll.n2 r
  obtain ⟨t_NOTHING_queries, c_NOTHING_queries⟩ := T.int 112 (x := "NOTHING_queries") (z := (-2)) rfl
  refine ⟨_, (pss_cons (ps_if (pt_cmpR op_ge (pe_ix (ix_listK (K := K) rfl) (pv 1) pe_int (fun _ _ => rfl)) (pe_callB (call_lenK (K := K) rfl) (by rfl) (T.free 131 rfl) (by decide +kernel) (pa_cons (pe_fldK (K := K) rfl (pv 0) rfl) pa_nil)) (nomark _)) (pss_one (ps_ret (pe_lst (pa_cons (pe_glob (v := V.int (-2)) (by rfl) c_NOTHING_queries ⟨_, rfl⟩) pa_nil)))) pss_nil) (pss_cons (ps_set (i := 3) sc_get_matrix.nd rfl (Or.inl rfl) (pe_ix (ix_listK (K := K) rfl) (pe_fldK (K := K) rfl (pv 0) rfl) (pe_ix (ix_listK (K := K) rfl) (pv 1) pe_int (fun _ _ => rfl)) (fun _ _ => rfl))) (pss_one (ps_ret (pe_op op_cat (pe_lst (pa_cons (pe_callB (call_lenK (K := K) rfl) (by rfl) (T.free 131 rfl) (by decide +kernel) (pa_cons (pv 3) pa_nil)) pa_nil)) (pv 3)))))), ?_⟩
  have e : getMatrix m (nums.getD 0 0) = if m.now.matrices.length ≤ nums.getD 0 0 then [-2] else ((m.now.matrices.getD (nums.getD 0 0) []).length : Int) :: zs (m.now.matrices.getD (nums.getD 0 0) []) := rfl
  refine if_ret (b := decide (m.now.matrices.length ≤ nums.getD 0 0)) (.refl le) q (et_test (ev_ge (ev_num (i := 0) (gv_var rfl r_numbers) (hk.at (by omega))) (ev_lenM (f := dL) (ga_cons (gv_mats T md rfl) ga_nil)))) (fun hb => ?_) fun hb H1 a1 => ?_
  · rw [if_pos (of_decide_eq_true hb)] at e
    rw [e]
    exact gv_one
  · have hlt := of_decide_eq_false hb
    rw [if_neg hlt] at e
    refine qd_asg (d := dL (m.now.matrices.getD (nums.getD 0 0) [])) a1.le (gv_at [] (gv_mats T md rfl) (ev_num (i := 0) (gv_var rfl r_numbers) (hk.at (by omega))) (by omega)) fun v2 B2 H2 a2 r2 => ?_
    have hml := (hg.now.ms.get (k := nums.getD 0 0) (by omega)).len
    have h3 := hg.sz.le
    have h9 : m.size * m.size ≤ 9 := Nat.mul_le_mul h3 h3
    rw [e] at q
    exact rq (a1.trans a2) q (Gv.is (gv_cat (gv_oneE (ev_len (ga_cons (gv_var rfl r2) ga_nil))) (gv_var rfl r2) (by rw [zlen]; show 1 + _ ≤ _; omega)) rfl)
theorem sc_list_guarantees : FnScope ["model", "numbers", "items", "found", "kind", "bound"] ["model", "numbers", "items"] MwH.d_list_guarantees.scope := ⟨rfl, rfl, rfl, by decide +kernel, rfl, by decide +kernel, by decide +kernel⟩
theorem ok_list_guarantees (T : Txt K mg) : Has P w K mg base 1 "list_guarantees" ["model", "numbers", "items"] (spQ K (QF 0 fun m _ _ => listGuarantees m)) := by
  refine has_sp (N := ["model", "numbers", "items", "found", "kind", "bound"]) T 58 rfl rfl rfl rfl rfl sc_list_guarantees (fun _ _ _ _ _ _ us hl => match us, hl with | [_, _, _], _ => rfl) (fun vs H Q E h => by obtain ⟨B, a, m, ws, ds, d, rfl, _, _, r, hF, _⟩ := h; obtain ⟨nums, items, rfl, rfl, hg, hk⟩ := hF; exact congrArg (· + 1) r.len) fun f cdv A outer s H E hr vs Q hq => ?_
  obtain ⟨B, am, m, ws, ds, dd, rfl, le, md, r, hF, q⟩ := hq
  obtain ⟨nums, items, rfl, rfl, hg, hk⟩ := hF
  try dsimp only at q
  obtain ⟨x_numbers, x_items, rfl, r_numbers, r_items⟩ := RpAll.n2 r
  refine ⟨_, (pss_cons (ps_set (i := 3) sc_list_guarantees.nd rfl (Or.inl rfl) (pe_lst (pa_cons (pe_callB (call_lenK (K := K) rfl) (by rfl) (T.free 131 rfl) (by decide +kernel) (pa_cons (pe_fldK (K := K) rfl (pv 0) rfl) pa_nil)) pa_nil))) (pss_cons (ps_for PassesOwn.never rfl (pi_listK (K := K) rfl (pe_fldK (K := K) rfl (pv 0) rfl)) (pg_tupK (K := K) (n := 2) rfl rfl (pgs_cons (pg_name (i := 4) sc_list_guarantees.nd rfl (Or.inl rfl)) (pgs_cons (pg_name (i := 5) sc_list_guarantees.nd rfl (Or.inl rfl)) pgs_nil))) (pss_one (ps_expr (pe_bm PySem.F.plainAttrs_list PySem.F.slot_list_extend PySem.F.type_list_extend mt_extend (pv 3) (pa_cons (pe_lst (pa_cons (pv 4) (pa_cons (pv 5) pa_nil))) pa_nil))))) (pss_one (ps_ret (pv 3))))), ?_⟩
  have hgl := hg.now.gl
  refine qd_newL (xs := [.int (m.now.guarantees.length : Int)]) le (fun H1 e Q q => ?_) fun p H0 hp0 hpB e0 hpl => ?_
  · exact (ev_lenM (f := dPair) (ga_cons (gv_gs T md rfl) ga_nil)) H1 e _ fun H2 e2 => ⟨by show 1 ≤ sizeLine; decide, fun p hp => q p _ (fresh_back e2 hp) (e2.trans (Ex.new hp)) upd_same⟩
  have a0 : At B H B H0 := .up le e0
  refine qd_forL a0.le (gv_gs T md rfl) fun a xs B1 H1 a1 hxs rxs => ?_
  have b1 := a0.trans a1
  refine ⟨fun i σ' H' => ∃ Bi acc v4 v5, σ' = [some (.ref am), some x_numbers, some x_items, some (.ref p), v4, v5] ∧ At B H Bi H' ∧ Ex B1 Bi ∧ Bi p = none ∧ H' p = some (.lst acc) ∧ RpAll K Bi acc (((m.now.guarantees.length : Int) :: zs ((m.now.guarantees.take i).flatMap fun g => [g.1, g.2])).map .int),
    ⟨B1, _, none, none, rfl, b1, Ex.refl _, a1.off hpB hpl lst_tup, a1.keep p _ hpl, .one (.int _)⟩, fun i σ' H' ⟨Bi, _, _, _, _, b, e, _⟩ => e.trans b.le, ?_, ?_⟩
  · rintro i x d σ' H' hx hd rx ⟨Bi, acc, v4, v5, rfl, b, e2, hBp, hp, racc⟩
    obtain ⟨hi, rfl⟩ := dM_at (0, 0) hd
    refine g_two b.le (rx.mono e2) fun x1 x2 rx1 rx2 => ?_
    refine sd_extend (es := [dI (m.now.guarantees.getD i (0, 0)).1, dI (m.now.guarantees.getD i (0, 0)).2]) b hp0 hBp hp ?_ (fun H' _ => ev_var rfl) (gv_lst (ga_cons (gv_var rfl rx1) (ga_cons (gv_var rfl rx2) ga_nil)) (by show 2 ≤ 100000; omega)) fun ys B' H5 c5 e7 hB' rys hp' off => ?_
    · have h1 := racc.len
      have h2 := flat_len (l := m.now.guarantees.take i) (f := fun g : Nat × Nat => [g.1, g.2]) (b := 2) fun x _ => Nat.le_refl _
      rw [List.length_map, List.length_cons] at h1
      unfold zs at h1
      rw [List.length_map] at h1
      rw [List.length_take] at h2
      show acc.length + 2 ≤ 100000
      omega
    · refine ⟨B', _, _, _, rfl, c5, e2.trans e7, hB', hp', ?_⟩
      rw [flat_take (0, 0) hi]
      unfold zs at racc ⊢
      rw [List.map_append, ← List.cons_append, List.map_append]
      exact (racc.mono e7).append rys
  · rintro σ' H' ⟨Bi, acc, v4, v5, rfl, b, e2, hBp, hp, racc⟩
    rw [List.length_map, List.take_length] at racc
    exact sd_ret rfl b hp0 hBp hp racc q
theorem sc_answer_is_satisfied : FnScope ["model", "numbers", "items", "kind", "bound"] ["model", "numbers", "items"] MwH.d_answer_is_satisfied.scope := ⟨rfl, rfl, rfl, by decide +kernel, rfl, by decide +kernel, by decide +kernel⟩
theorem ok_answer_is_satisfied (T : Txt K mg) : Has P w K mg base 9 "answer_is_satisfied" ["model", "numbers", "items"] (spQ K (QF 2 fun m a _ => answerIsSatisfied m (a.getD 0 0) (a.getD 1 0))) := by
  refine has_sp (N := ["model", "numbers", "items", "kind", "bound"]) T 59 rfl rfl rfl rfl rfl sc_answer_is_satisfied (fun _ _ _ _ _ _ us hl => match us, hl with | [_, _, _], _ => rfl) (fun vs H Q E h => by obtain ⟨B, a, m, ws, ds, d, rfl, _, _, r, hF, _⟩ := h; obtain ⟨nums, items, rfl, rfl, hg, hk⟩ := hF; exact congrArg (· + 1) r.len) fun f cdv A outer s H E hr vs Q hq => ?_
  obtain ⟨B, am, m, ws, ds, dd, rfl, le, md, r, hF, q⟩ := hq
  obtain ⟨nums, items, rfl, rfl, hg, hk⟩ := hF
  try dsimp only at q
  obtain ⟨x_numbers, x_items, rfl, r_numbers, r_items⟩ := RpAll.n2 r
  obtain ⟨f_is_guarantee, fd_is_guarantee, m_is_guarantee, k_is_guarantee, b_is_guarantee, G_is_guarantee⟩ := ok_is_guarantee (P := P) (w := w) (base := base) T
  obtain ⟨f_is_satisfied, fd_is_satisfied, m_is_satisfied, k_is_satisfied, b_is_satisfied, G_is_satisfied⟩ := ok_is_satisfied (P := P) (w := w) (base := base) T
  obtain ⟨t_OUT_OF_RANGE_queries, c_OUT_OF_RANGE_queries⟩ := T.int 113 (x := "OUT_OF_RANGE_queries") (z := (-22)) rfl
  refine ⟨_, (pss_cons (ps_par (i := 3) (j := 4) rfl sc_answer_is_satisfied.nd rfl rfl (by decide) rfl rfl (pa_cons (pe_ix (ix_listK (K := K) rfl) (pv 1) pe_int (fun _ _ => rfl)) (pa_cons (pe_ix (ix_listK (K := K) rfl) (pv 1) pe_int (fun _ _ => rfl)) pa_nil)) (by rfl)) (pss_cons (ps_if (pt_not (pt_val (pe_call G_is_guarantee (hr.mono (by decide)) (by rfl) m_is_guarantee k_is_guarantee b_is_guarantee .nil pass0 (pa_cons (pv 3) (pa_cons (pv 4) pa_nil))))) (pss_one (ps_ret (pe_lst (pa_cons (pe_glob (v := V.int (-22)) (by rfl) c_OUT_OF_RANGE_queries ⟨_, rfl⟩) pa_nil)))) pss_nil) (pss_one (ps_ret (pe_lst (pa_cons (pe_callTy call_int1 (by rfl) (T.free 134 rfl) (by decide +kernel) (pa_cons (pe_call G_is_satisfied (hr.mono (by decide)) (by rfl) m_is_satisfied k_is_satisfied b_is_satisfied .nil pass0 (pa_cons (pe_fldK (K := K) rfl (pv 0) rfl) (pa_cons (pe_fldK (K := K) rfl (pv 0) rfl) (pa_cons (pv 3) (pa_cons (pv 4) pa_nil))))) pa_nil)) pa_nil)))))), ?_⟩
  have e : answerIsSatisfied m (nums.getD 0 0) (nums.getD 1 0) = if isGuarantee (nums.getD 0 0) (nums.getD 1 0) = false then [-22] else [if isSatisfied m.size m.now.matrices (nums.getD 0 0) (nums.getD 1 0) then 1 else 0] := rfl
  have n0 := ev_num (K := K) (i := 0) (gv_var (i := 1) (σ := [some (.ref am), some x_numbers, some x_items, none, none]) rfl r_numbers) (hk.at (by omega))
  have n1 := ev_num (K := K) (i := 1) (gv_var (i := 1) (σ := [some (.ref am), some x_numbers, some x_items, none, none]) rfl r_numbers) (hk.at (by omega))
  refine qd_par (K := K) (d1 := dI (nums.getD 0 0)) (d2 := dI (nums.getD 1 0)) le (ga_int n0 (ga_int n1 ga_nil)) fun v1 v2 B1 H1 a1 r1 r2 => ?_
  generalize nums.getD 0 0 = x at e q r1
  generalize nums.getD 1 0 = y at e q r2
  have md1 := md.mono a1.base
  refine if_ret (b := !isGuarantee x y) a1 q (et_not (et_test (gv_callB (ga_cons (gv_var rfl r1) (ga_cons (gv_var rfl r2) ga_nil)) ⟨x, y, rfl, rfl⟩))) (fun hb => ?_) fun hb H2 a2 => ?_
  · have hc : isGuarantee x y = false := by simpa using hb
    rw [if_pos hc] at e
    rw [e]
    exact gv_one
  · have hc : isGuarantee x y = true := by simpa using hb
    rw [hc, if_neg (by decide)] at e
    rw [e] at q
    exact rq a2 q (gv_oneE (ev_intB (ea_cons (gv_callB (ga_int (ev_size T md1 rfl) (ga_cons (gv_mats T md1 rfl) (ga_cons (gv_var rfl r1) (ga_cons (gv_var rfl r2) ga_nil)))) ⟨_, _, x, y, rfl, rfl, hg.sz, hg.now.ms, mats_le hg⟩) ea_nil)))
theorem gv_pats (T : Txt K mg) {σ : L2.St} {B : Hp} {am : Addr} {m : Model} {E : XK} {i : Nat} (hg : Good m) (md : MdIn K B am m) (hs : σ[i]? = some (some (.ref am))) :
    Gv K (tCall (spD K F_patterns_of) [] E (tCons (tFld K (tVar i) "size") (tCons (tFld K (tVar i) "matrices") tNil))) σ B (dTs (patternsOf m.size m.now.matrices)) :=
  gv_call (ga_int (ev_size T md hs) (ga_cons (gv_mats T md hs) ga_nil)) ⟨_, _, rfl, rfl, hg.sz, hg.now.ms, mats_le hg⟩
theorem pats_le {m : Model} (hg : Good m) : (patternsOf m.size m.now.matrices).length ≤ 1000 := by
  rw [pats_len]
  exact mats_le hg
theorem sc_is_reachable : FnScope ["model", "numbers", "items", "one", "other", "refusal"] ["model", "numbers", "items"] MwH.d_is_reachable.scope := ⟨rfl, rfl, rfl, by decide +kernel, rfl, by decide +kernel, by decide +kernel⟩
theorem ok_is_reachable (T : Txt K mg) : Has P w K mg base 4 "is_reachable" ["model", "numbers", "items"] (spQ K (QF 2 fun m a b => isReachable m (a.getD 0 0) (a.getD 1 0) b)) := by
  refine has_sp (N := ["model", "numbers", "items", "one", "other", "refusal"]) T 60 rfl rfl rfl rfl rfl sc_is_reachable (fun _ _ _ _ _ _ us hl => match us, hl with | [_, _, _], _ => rfl) (fun vs H Q E h => by obtain ⟨B, a, m, ws, ds, d, rfl, _, _, r, hF, _⟩ := h; obtain ⟨nums, items, rfl, rfl, hg, hk⟩ := hF; exact congrArg (· + 1) r.len) fun f cdv A outer s H E hr vs Q hq => ?_
  obtain ⟨B, am, m, ws, ds, dd, rfl, le, md, r, hF, q⟩ := hq
  obtain ⟨nums, items, rfl, rfl, hg, hk⟩ := hF
  try dsimp only at q
  obtain ⟨x_numbers, x_items, rfl, r_numbers, r_items⟩ := RpAll.n2 r
  obtain ⟨f_pair_refusal, fd_pair_refusal, m_pair_refusal, k_pair_refusal, b_pair_refusal, G_pair_refusal⟩ := ok_pair_refusal (P := P) (w := w) (base := base) T
  obtain ⟨f_has_index, fd_has_index, m_has_index, k_has_index, b_has_index, G_has_index⟩ := ok_has_index (P := P) (w := w) (base := base) T
  obtain ⟨f_set_after, fd_set_after, m_set_after, k_set_after, b_set_after, G_set_after⟩ := ok_set_after (P := P) (w := w) (base := base) T
  obtain ⟨f_patterns_of, fd_patterns_of, m_patterns_of, k_patterns_of, b_patterns_of, G_patterns_of⟩ := ok_patterns_of (P := P) (w := w) (base := base) T
  obtain ⟨t_MAX_WORD, c_MAX_WORD⟩ := T.int 107 (x := "MAX_WORD") (z := (40)) rfl
  have hu := hu_of hr
  have hu64 := hr.units
  have hu65 := hu65_of hr
  refine ⟨_, (pss_cons (ps_par (i := 3) (j := 4) rfl sc_is_reachable.nd rfl rfl (by decide) rfl rfl (pa_cons (pe_ix (ix_listK (K := K) rfl) (pv 1) pe_int (fun _ _ => rfl)) (pa_cons (pe_ix (ix_listK (K := K) rfl) (pv 1) pe_int (fun _ _ => rfl)) pa_nil)) (by rfl)) (pss_cons (ps_set (i := 5) sc_is_reachable.nd rfl (Or.inl rfl) (pe_call G_pair_refusal (hr.mono (by decide)) (by rfl) m_pair_refusal k_pair_refusal b_pair_refusal .nil pass0 (pa_cons (pv 0) (pa_cons (pv 3) (pa_cons (pv 4) (pa_cons (pv 2) (pa_cons (pe_glob (v := V.int (40)) (by rfl) c_MAX_WORD ⟨_, rfl⟩) pa_nil))))))) (pss_cons (ps_if (pt_cmpR (op_neDK (K := K) rfl hu64) (pv 5) (pe_lst pa_nil) (nomark _)) (pss_one (ps_ret (pv 5))) pss_nil) (pss_one (ps_ret (pe_lst (pa_cons (pe_callTy call_int1 (by rfl) (T.free 134 rfl) (by decide +kernel) (pa_cons (pe_call G_has_index (hr.mono (by decide)) (by rfl) m_has_index k_has_index b_has_index .nil pass0 (pa_cons (pe_call G_set_after (hr.mono (by decide)) (by rfl) m_set_after k_set_after b_set_after .nil pass0 (pa_cons (pe_call G_patterns_of (hr.mono (by decide)) (by rfl) m_patterns_of k_patterns_of b_patterns_of .nil pass0 (pa_cons (pe_fldK (K := K) rfl (pv 0) rfl) (pa_cons (pe_fldK (K := K) rfl (pv 0) rfl) pa_nil))) (pa_cons (pe_op op_shl pe_int (pv 3)) (pa_cons (pv 2) pa_nil)))) (pa_cons (pv 4) pa_nil))) pa_nil)) pa_nil))))))), ?_⟩
  have e : isReachable m (nums.getD 0 0) (nums.getD 1 0) items = if pairRefusal m (nums.getD 0 0) (nums.getD 1 0) items 40 ≠ [] then pairRefusal m (nums.getD 0 0) (nums.getD 1 0) items 40 else [if hasIndex (setAfter (patternsOf m.size m.now.matrices) (2 ^ (nums.getD 0 0)) items) (nums.getD 1 0) then 1 else 0] := rfl
  have n0 := ev_num (K := K) (i := 0) (gv_var (i := 1) (σ := [some (.ref am), some x_numbers, some x_items, none, none, none]) rfl r_numbers) (hk.at (by omega))
  have n1 := ev_num (K := K) (i := 1) (gv_var (i := 1) (σ := [some (.ref am), some x_numbers, some x_items, none, none, none]) rfl r_numbers) (hk.at (by omega))
  have hil := hk.il
  refine qd_par (K := K) (d1 := dI (nums.getD 0 0)) (d2 := dI (nums.getD 1 0)) le (ga_int n0 (ga_int n1 ga_nil)) fun v1 v2 B1 H1 a1 r1 r2 => ?_
  generalize nums.getD 0 0 = x at e q r1
  generalize nums.getD 1 0 = y at e q r2
  refine qd_asg (d := dZ (pairRefusal m x y items 40)) a1.le (gv_callQ (md.mono a1.base) rfl (ga_cons (gv_var rfl r1) (ga_cons (gv_var rfl r2) (ga_cons (gv_var rfl (r_items.mono a1.base)) (ga_int (ev_n (a := 40)) ga_nil)))) ⟨x, y, items, 40, rfl, rfl, by omega⟩) fun v3 B3 H3 a3 r3 => ?_
  have md3 := md.mono (a1.base.trans a3.base)
  refine if_ret (b := !((pairRefusal m x y items 40).map PyData.int).isEmpty) (a1.trans a3) q (et_test (ev_neE (gv_var rfl r3) (shp_dZ _).ok)) (fun hb => ?_) fun hb H4 a4 => ?_
  · have hne : pairRefusal m x y items 40 ≠ [] := fun z => by
      rw [z] at hb
      cases hb
    rw [if_pos hne] at e
    rw [e]
    exact gv_var rfl r3
  · have hnil : pairRefusal m x y items 40 = [] := by simpa using hb
    rw [if_neg (fun z => z hnil)] at e
    obtain ⟨hx, hy, hw, hl⟩ := pair_ok hnil
    have h3 := hg.sz.le
    rw [e] at q
    exact rq a4 q (gv_oneE (ev_intB (ea_cons (gv_callB (ga_cons (gv_call (ga_cons (gv_pats T hg md3 rfl) (ga_int (ev_shl1 (by omega) ev_c (ev_v rfl (r1.mono a3.base))) (ga_cons (gv_var rfl (r_items.mono (a1.base.trans a3.base))) ga_nil))) ⟨m.size, _, 2 ^ x, items, rfl, rfl, hg.sz, Pats.of hg.sz _, fun k hk => by rw [pats_len]; exact hasWord_lt hw k hk⟩) (ga_cons (gv_var rfl (r2.mono a3.base)) ga_nil)) ⟨_, y, rfl, rfl⟩) ea_nil)))
theorem sc_count_paths : FnScope ["model", "numbers", "items", "one", "other", "refusal"] ["model", "numbers", "items"] MwH.d_count_paths.scope := ⟨rfl, rfl, rfl, by decide +kernel, rfl, by decide +kernel, by decide +kernel⟩
theorem ok_count_paths (T : Txt K mg) : Has P w K mg base 4 "count_paths" ["model", "numbers", "items"] (spQ K (QF 2 fun m a b => countPaths m (a.getD 0 0) (a.getD 1 0) b)) := by
  refine has_sp (N := ["model", "numbers", "items", "one", "other", "refusal"]) T 61 rfl rfl rfl rfl rfl sc_count_paths (fun _ _ _ _ _ _ us hl => match us, hl with | [_, _, _], _ => rfl) (fun vs H Q E h => by obtain ⟨B, a, m, ws, ds, d, rfl, _, _, r, hF, _⟩ := h; obtain ⟨nums, items, rfl, rfl, hg, hk⟩ := hF; exact congrArg (· + 1) r.len) fun f cdv A outer s H E hr vs Q hq => ?_
  obtain ⟨B, am, m, ws, ds, dd, rfl, le, md, r, hF, q⟩ := hq
  obtain ⟨nums, items, rfl, rfl, hg, hk⟩ := hF
  try dsimp only at q
  obtain ⟨x_numbers, x_items, rfl, r_numbers, r_items⟩ := RpAll.n2 r
  obtain ⟨f_pair_refusal, fd_pair_refusal, m_pair_refusal, k_pair_refusal, b_pair_refusal, G_pair_refusal⟩ := ok_pair_refusal (P := P) (w := w) (base := base) T
  obtain ⟨f_product_of_word, fd_product_of_word, m_product_of_word, k_product_of_word, b_product_of_word, G_product_of_word⟩ := ok_product_of_word (P := P) (w := w) (base := base) T
  obtain ⟨t_MAX_WORD, c_MAX_WORD⟩ := T.int 107 (x := "MAX_WORD") (z := (40)) rfl
  have hu := hu_of hr
  have hu64 := hr.units
  have hu65 := hu65_of hr
  refine ⟨_, (pss_cons (ps_par (i := 3) (j := 4) rfl sc_count_paths.nd rfl rfl (by decide) rfl rfl (pa_cons (pe_ix (ix_listK (K := K) rfl) (pv 1) pe_int (fun _ _ => rfl)) (pa_cons (pe_ix (ix_listK (K := K) rfl) (pv 1) pe_int (fun _ _ => rfl)) pa_nil)) (by rfl)) (pss_cons (ps_set (i := 5) sc_count_paths.nd rfl (Or.inl rfl) (pe_call G_pair_refusal (hr.mono (by decide)) (by rfl) m_pair_refusal k_pair_refusal b_pair_refusal .nil pass0 (pa_cons (pv 0) (pa_cons (pv 3) (pa_cons (pv 4) (pa_cons (pv 2) (pa_cons (pe_glob (v := V.int (40)) (by rfl) c_MAX_WORD ⟨_, rfl⟩) pa_nil))))))) (pss_cons (ps_if (pt_cmpR (op_neDK (K := K) rfl hu64) (pv 5) (pe_lst pa_nil) (nomark _)) (pss_one (ps_ret (pv 5))) pss_nil) (pss_one (ps_ret (pe_lst (pa_cons (pe_ix (ix_listK (K := K) rfl) (pe_call G_product_of_word (hr.mono (by decide)) (by rfl) m_product_of_word k_product_of_word b_product_of_word .nil pass0 (pa_cons (pe_fldK (K := K) rfl (pv 0) rfl) (pa_cons (pe_fldK (K := K) rfl (pv 0) rfl) (pa_cons (pv 2) pa_nil)))) (pe_op op_add (pe_op op_mul (pv 3) (pe_fldK (K := K) rfl (pv 0) rfl)) (pv 4)) (fun _ _ => rfl)) pa_nil))))))), ?_⟩
  have e : countPaths m (nums.getD 0 0) (nums.getD 1 0) items = if pairRefusal m (nums.getD 0 0) (nums.getD 1 0) items 40 ≠ [] then pairRefusal m (nums.getD 0 0) (nums.getD 1 0) items 40 else [(((productOfWord m.size m.now.matrices items).getD ((nums.getD 0 0) * m.size + (nums.getD 1 0)) 0 : Nat) : Int)] := rfl
  have n0 := ev_num (K := K) (i := 0) (gv_var (i := 1) (σ := [some (.ref am), some x_numbers, some x_items, none, none, none]) rfl r_numbers) (hk.at (by omega))
  have n1 := ev_num (K := K) (i := 1) (gv_var (i := 1) (σ := [some (.ref am), some x_numbers, some x_items, none, none, none]) rfl r_numbers) (hk.at (by omega))
  have hil := hk.il
  refine qd_par (K := K) (d1 := dI (nums.getD 0 0)) (d2 := dI (nums.getD 1 0)) le (ga_int n0 (ga_int n1 ga_nil)) fun v1 v2 B1 H1 a1 r1 r2 => ?_
  generalize nums.getD 0 0 = x at e q r1
  generalize nums.getD 1 0 = y at e q r2
  refine qd_asg (d := dZ (pairRefusal m x y items 40)) a1.le (gv_callQ (md.mono a1.base) rfl (ga_cons (gv_var rfl r1) (ga_cons (gv_var rfl r2) (ga_cons (gv_var rfl (r_items.mono a1.base)) (ga_int (ev_n (a := 40)) ga_nil)))) ⟨x, y, items, 40, rfl, rfl, by omega⟩) fun v3 B3 H3 a3 r3 => ?_
  have md3 := md.mono (a1.base.trans a3.base)
  refine if_ret (b := !((pairRefusal m x y items 40).map PyData.int).isEmpty) (a1.trans a3) q (et_test (ev_neE (gv_var rfl r3) (shp_dZ _).ok)) (fun hb => ?_) fun hb H4 a4 => ?_
  · have hne : pairRefusal m x y items 40 ≠ [] := fun z => by
      rw [z] at hb
      cases hb
    rw [if_pos hne] at e
    rw [e]
    exact gv_var rfl r3
  · have hnil : pairRefusal m x y items 40 = [] := by simpa using hb
    rw [if_neg (fun z => z hnil)] at e
    obtain ⟨hx, hy, hw, hl⟩ := pair_ok hnil
    have h3 := hg.sz.le
    have hlt := idx_lt hx hy
    rw [e] at q
    exact rq a4 q (gv_oneE (ev_at (gv_call (ga_int (ev_size T md3 rfl) (ga_cons (gv_mats T md3 rfl) (ga_cons (gv_var rfl (r_items.mono (a1.base.trans a3.base))) ga_nil))) ⟨_, _, items, rfl, rfl, hg.sz, hg.now.ms, hasWord_lt hw⟩) (ev_add (ev_mul (.inr (by omega)) (ev_v rfl (r1.mono a3.base)) (ev_size T md3 rfl)) (ev_v rfl (r2.mono a3.base))) (by rw [word_len']; exact hlt)))
theorem sc_path_probability : FnScope ["model", "numbers", "items", "one", "other", "refusal", "found", "below"] ["model", "numbers", "items"] MwH.d_path_probability.scope := ⟨rfl, rfl, rfl, by decide +kernel, rfl, by decide +kernel, by decide +kernel⟩
theorem ok_path_probability (T : Txt K mg) : Has P w K mg base 5 "path_probability" ["model", "numbers", "items"] (spQ K (QF 2 fun m a b => pathProbability m (a.getD 0 0) (a.getD 1 0) b)) := by
  refine has_sp (N := ["model", "numbers", "items", "one", "other", "refusal", "found", "below"]) T 62 rfl rfl rfl rfl rfl sc_path_probability (fun _ _ _ _ _ _ us hl => match us, hl with | [_, _, _], _ => rfl) (fun vs H Q E h => by obtain ⟨B, a, m, ws, ds, d, rfl, _, _, r, hF, _⟩ := h; obtain ⟨nums, items, rfl, rfl, hg, hk⟩ := hF; exact congrArg (· + 1) r.len) fun f cdv A outer s H E hr vs Q hq => ?_
  obtain ⟨B, am, m, ws, ds, dd, rfl, le, md, r, hF, q⟩ := hq
  obtain ⟨nums, items, rfl, rfl, hg, hk⟩ := hF
  try dsimp only at q
  obtain ⟨x_numbers, x_items, rfl, r_numbers, r_items⟩ := RpAll.n2 r
  obtain ⟨f_pair_refusal, fd_pair_refusal, m_pair_refusal, k_pair_refusal, b_pair_refusal, G_pair_refusal⟩ := ok_pair_refusal (P := P) (w := w) (base := base) T
  obtain ⟨f_are_chances, fd_are_chances, m_are_chances, k_are_chances, b_are_chances, G_are_chances⟩ := ok_are_chances (P := P) (w := w) (base := base) T
  obtain ⟨f_chances_of_word, fd_chances_of_word, m_chances_of_word, k_chances_of_word, b_chances_of_word, G_chances_of_word⟩ := ok_chances_of_word (P := P) (w := w) (base := base) T
  obtain ⟨f_lowest_terms, fd_lowest_terms, m_lowest_terms, k_lowest_terms, b_lowest_terms, G_lowest_terms⟩ := ok_lowest_terms (P := P) (w := w) (base := base) T
  obtain ⟨t_MAX_CHANCE_WORD, c_MAX_CHANCE_WORD⟩ := T.int 108 (x := "MAX_CHANCE_WORD") (z := (8)) rfl
  obtain ⟨t_IMPOSSIBLE, c_IMPOSSIBLE⟩ := T.int 114 (x := "IMPOSSIBLE") (z := (-33)) rfl
  have hu := hu_of hr
  have hu64 := hr.units
  have hu65 := hu65_of hr
  refine ⟨_, (pss_cons (ps_par (i := 3) (j := 4) rfl sc_path_probability.nd rfl rfl (by decide) rfl rfl (pa_cons (pe_ix (ix_listK (K := K) rfl) (pv 1) pe_int (fun _ _ => rfl)) (pa_cons (pe_ix (ix_listK (K := K) rfl) (pv 1) pe_int (fun _ _ => rfl)) pa_nil)) (by rfl)) (pss_cons (ps_set (i := 5) sc_path_probability.nd rfl (Or.inl rfl) (pe_call G_pair_refusal (hr.mono (by decide)) (by rfl) m_pair_refusal k_pair_refusal b_pair_refusal .nil pass0 (pa_cons (pv 0) (pa_cons (pv 3) (pa_cons (pv 4) (pa_cons (pv 2) (pa_cons (pe_glob (v := V.int (8)) (by rfl) c_MAX_CHANCE_WORD ⟨_, rfl⟩) pa_nil))))))) (pss_cons (ps_if (pt_cmpR (op_neDK (K := K) rfl hu64) (pv 5) (pe_lst pa_nil) (nomark _)) (pss_one (ps_ret (pv 5))) pss_nil) (pss_cons (ps_if (pt_not (pt_val (pe_call G_are_chances (hr.mono (by decide)) (by rfl) m_are_chances k_are_chances b_are_chances .nil pass0 (pa_cons (pe_fldK (K := K) rfl (pv 0) rfl) (pa_cons (pe_fldK (K := K) rfl (pv 0) rfl) pa_nil))))) (pss_one (ps_ret (pe_lst (pa_cons (pe_glob (v := V.int (-33)) (by rfl) c_IMPOSSIBLE ⟨_, rfl⟩) pa_nil)))) pss_nil) (pss_cons (ps_asg (pe_call G_chances_of_word (hr.mono (by decide)) (by rfl) m_chances_of_word k_chances_of_word b_chances_of_word .nil pass0 (pa_cons (pe_fldK (K := K) rfl (pv 0) rfl) (pa_cons (pe_fldK (K := K) rfl (pv 0) rfl) (pa_cons (pv 2) pa_nil)))) (pg_unlK (K := K) (n := 2) rfl rfl (pgs_cons (pg_name (i := 6) sc_path_probability.nd rfl (Or.inl rfl)) (pgs_cons (pg_name (i := 7) sc_path_probability.nd rfl (Or.inl rfl)) pgs_nil)))) (pss_one (ps_ret (pe_op op_cat (pe_lst (pa_cons pe_int pa_nil)) (pe_call G_lowest_terms (hr.mono (by decide)) (by rfl) m_lowest_terms k_lowest_terms b_lowest_terms .nil pass0 (pa_cons (pe_ix (ix_listK (K := K) rfl) (pv 6) (pe_op op_add (pe_op op_mul (pv 3) (pe_fldK (K := K) rfl (pv 0) rfl)) (pv 4)) (fun _ _ => rfl)) (pa_cons (pv 7) pa_nil))))))))))), ?_⟩
  have e : pathProbability m (nums.getD 0 0) (nums.getD 1 0) items = if pairRefusal m (nums.getD 0 0) (nums.getD 1 0) items 8 ≠ [] then pairRefusal m (nums.getD 0 0) (nums.getD 1 0) items 8 else if areChances m.size m.now.matrices = false then [-33]
    else 0 :: zs (lowest ((chancesOfWord m.size m.now.matrices items).1.getD ((nums.getD 0 0) * m.size + (nums.getD 1 0)) 0) (chancesOfWord m.size m.now.matrices items).2) := rfl
  have n0 := ev_num (K := K) (i := 0) (gv_var (i := 1) (σ := [some (.ref am), some x_numbers, some x_items, none, none, none, none, none]) rfl r_numbers) (hk.at (by omega))
  have n1 := ev_num (K := K) (i := 1) (gv_var (i := 1) (σ := [some (.ref am), some x_numbers, some x_items, none, none, none, none, none]) rfl r_numbers) (hk.at (by omega))
  have hil := hk.il
  refine qd_par (K := K) (d1 := dI (nums.getD 0 0)) (d2 := dI (nums.getD 1 0)) le (ga_int n0 (ga_int n1 ga_nil)) fun v1 v2 B1 H1 a1 r1 r2 => ?_
  generalize nums.getD 0 0 = x at e q r1
  generalize nums.getD 1 0 = y at e q r2
  refine qd_asg (d := dZ (pairRefusal m x y items 8)) a1.le (gv_callQ (md.mono a1.base) rfl (ga_cons (gv_var rfl r1) (ga_cons (gv_var rfl r2) (ga_cons (gv_var rfl (r_items.mono a1.base)) (ga_int (ev_n (a := 8)) ga_nil)))) ⟨x, y, items, 8, rfl, rfl, by omega⟩) fun v3 B3 H3 a3 r3 => ?_
  have md3 := md.mono (a1.base.trans a3.base)
  refine if_ret (b := !((pairRefusal m x y items 8).map PyData.int).isEmpty) (a1.trans a3) q (et_test (ev_neE (gv_var rfl r3) (shp_dZ _).ok)) (fun hb => ?_) fun hb H4 a4 => ?_
  · have hne : pairRefusal m x y items 8 ≠ [] := fun z => by
      rw [z] at hb
      cases hb
    rw [if_pos hne] at e
    rw [e]
    exact gv_var rfl r3
  · have hnil : pairRefusal m x y items 8 = [] := by simpa using hb
    rw [if_neg (fun z => z hnil)] at e
    obtain ⟨hx, hy, hw, hl⟩ := pair_ok hnil
    have hwl := hasWord_lt hw
    have h3 := hg.sz.le
    have hlt := idx_lt hx hy
    refine if_ret (b := !areChances m.size m.now.matrices) a4 q (et_not (et_test (gv_callB (ga_int (ev_size T md3 rfl) (ga_cons (gv_mats T md3 rfl) ga_nil)) ⟨_, _, rfl, rfl, hg.sz, hg.now.ms, mats_le hg⟩))) (fun hb => ?_) fun hb H5 a5 => ?_
    · have hc : areChances m.size m.now.matrices = false := by simpa using hb
      rw [if_pos hc] at e
      rw [e]
      exact gv_one
    · have hc : areChances m.size m.now.matrices = true := by simpa using hb
      rw [hc, if_neg (by decide)] at e
      rw [e] at q
      refine qd_unl (d1 := dL (chancesOfWord m.size m.now.matrices items).1) (d2 := dI (chancesOfWord m.size m.now.matrices items).2) a5.le (gv_call (ga_int (ev_size T md3 rfl) (ga_cons (gv_mats T md3 rfl) (ga_cons (gv_var rfl (r_items.mono (a1.base.trans a3.base))) ga_nil))) ⟨_, _, items, rfl, rfl, hg.sz, hg.now.ms, hwl, hc⟩) fun u1 u2 B6 H6 a6 r61 r62 => ?_
      have hcl := chances_len hg.sz hg.now.ms hwl
      have e6 := a3.base.trans a6.base
      exact rq (a5.trans a6) q (Gv.is (gv_cat (gv_oneE (z := 0) ev_c) (gv_call (ga_int (ev_at (gv_var rfl r61) (ev_add (ev_mul (.inr (by omega)) (ev_v rfl (r1.mono e6)) (ev_size T (md3.mono a6.base) rfl)) (ev_v rfl (r2.mono e6))) (by rw [hcl]; exact hlt)) (ga_cons (gv_var rfl r62) ga_nil)) ⟨_, _, rfl, rfl, chances_pos hc (identity m.size, 1) Nat.zero_lt_one hwl, chances_den hg.sz hg.now.ms hwl hl⟩) (by show 1 + 2 ≤ 100000; omega)) rfl)
end
end Mw
end
section
set_option Elab.async false
set_option linter.all false
set_option maxRecDepth 100000
set_option maxHeartbeats 4000000
/-! # Walks: queries, the second half -/
namespace Mw
open PySem PySem.Spec PyProof.Rows L2 Evl
/-! ### lengths -/
theorem wordBack_len (rows : List Row) : ∀ (f : Nat) (p : Int), (wordBack rows f p).length ≤ f
  | 0, _ => Nat.le_refl _
  | f + 1, p => by
    show (if 0 ≤ p then (rows.getD p.toNat ([], -1, 0)).2.2 :: wordBack rows f (rows.getD p.toNat ([], -1, 0)).2.1 else []).length ≤ f + 1
    split
    · exact Nat.succ_le_succ (wordBack_len rows f _)
    · exact Nat.zero_le _
theorem found_len {n : Nat} {ps : List (List Nat)} (hn : Sz n) (hp : Pats n ps) {g : Nat → Bool} {wd : List Nat} (h : ((List.range (metPatterns ps).length).find? g).map (wordOf (metPatterns ps)) = some wd) : wd.length ≤ 10000 := by
  cases hf : (List.range (metPatterns ps).length).find? g with
  | none => rw [hf] at h; cases h
  | some i =>
    rw [hf] at h
    have e : wordOf (metPatterns ps) i = wd := Option.some.inj h
    have hi := List.mem_range.mp (List.mem_of_find?_eq_some hf)
    have hs := met_short hn hp
    rw [← e]
    unfold wordOf
    rw [List.length_reverse]
    have := wordBack_len (metPatterns ps) (i + 1) (i : Int)
    omega
theorem best_len {n : Nat} {ms : List (List Nat)} (h3 : ms.length ≤ 3) {len : Nat} {b : Nat × List Nat} (h : greatestTotal n ms len = some b) : b.2.length = len := by
  have hr := (wordRows_ok (n := n) h3 len).2
  have key := foldl_inv (f := better) (I := fun o => ∀ b, o = some b → b.2.length = len) (l := wordRows n ms len) (b := none) (fun b hb => by cases hb) fun o r ho hm b hb => by
    unfold better at hb
    split at hb
    · obtain rfl := Option.some.inj hb
      exact (hr r hm).1
    · rename_i c
      split at hb
      · obtain rfl := Option.some.inj hb
        exact (hr r hm).1
      · obtain rfl := Option.some.inj hb
        exact ho _ rfl
  exact key b h
theorem walk_len {ps : List (List Nat)} {kept : List (Nat × Nat)} : ∀ (f : Nat) (met : List (Nat × Nat)) (word : List Nat), (walkLoop ps kept f met word).1.length ≤ word.length + f ∧ (walkLoop ps kept f met word).2.length ≤ word.length + f
  | 0, _, word => ⟨Nat.le_refl _, Nat.zero_le _⟩
  | f + 1, met, word => by
    unfold walkLoop
    dsimp only
    split
    · refine ⟨?_, ?_⟩
      · rw [List.length_take, List.length_append]
        show min _ (_ + 1) ≤ _
        omega
      · rw [List.length_drop, List.length_append]
        show (_ + 1) - _ ≤ _
        omega
    · have h := walk_len (ps := ps) (kept := kept) f (met ++ [pairAfter (ps.getD ((firstMatrixInto ps (met.getLast?.getD (0, 0)) kept).getD 0) []) (met.getLast?.getD (0, 0))]) (word ++ [(firstMatrixInto ps (met.getLast?.getD (0, 0)) kept).getD 0])
      rw [List.length_append] at h
      exact ⟨Nat.le_trans h.1 (by show _ + 1 + f ≤ _; omega), Nat.le_trans h.2 (by show _ + 1 + f ≤ _; omega)⟩
theorem sep_len {n : Nat} {ps : List (List Nat)} (hn : Sz n) {i j : Nat} {p c : List Nat} (h : separatingWords n ps = some (i, j, p, c)) : p.length ≤ 49 ∧ c.length ≤ 49 := by
  unfold separatingWords at h
  cases hf : (indexPairs n).find? fun q => (lastingPairs n ps).contains (2 ^ q.1, 2 ^ q.2) with
  | none => rw [hf] at h; cases h
  | some z =>
    rw [hf] at h
    injection (Option.some.inj h) with h1 h2
    injection h2 with h2 h3
    have hl := walk_len (ps := ps) (kept := lastingPairs n ps) (lastingPairs n ps).length [(2 ^ z.1, 2 ^ z.2)] []
    have h49 := lasting_len hn ps
    have e : walkApart ps (lastingPairs n ps) (2 ^ z.1, 2 ^ z.2) = (p, c) := h3
    unfold walkApart at e
    rw [e] at hl
    simp only [List.length_nil] at hl
    exact ⟨by omega, by omega⟩
section
variable {P : Program} {w : World} {K : Frg} {mg : Str → Option Value} {base : Heap}
section
variable {σ : L2.St} {B H : Hp} {te : TE} {tz : TS} {D : Ends}
theorem qd_three {i j l : Nat} {d1 d2 d3 : PyData} (le : Ex B H) (h : Gv K te σ B (.tuple [d1, d2, d3])) (k : ∀ v1 v2 v3 B' H', At B H B' H' → Rp K B' v1 d1 → Rp K B' v2 d2 → Rp K B' v3 d3 → tz D (((σ.set i (some v1)).set j (some v2)).set l (some v3)) H') :
    tSeq (tAsg te (gTup K 3 (gCons (gName i) (gCons (gName j) (gCons (gName l) gNil))))) tz D σ H := h H le _ fun v B1 H1 a1 r1 => by
  obtain ⟨a, xs, rfl, ha, ra⟩ := r1.isTup
  obtain ⟨x, y, z, rfl, rx, ry, rz⟩ := ra.n3
  exact ⟨a, _, rfl, st_of (a1.le _ _ ha), rfl, _, _, rfl, _, _, rfl, _, _, rfl, rfl, k x y z B1 _ a1 rx ry rz⟩
theorem qd_unl4 {i j l o : Nat} {d1 d2 d3 d4 : PyData} (le : Ex B H) (h : Gv K te σ B (.list [d1, d2, d3, d4])) (k : ∀ v1 v2 v3 v4 B' H', At B H B' H' → Rp K B' v1 d1 → Rp K B' v2 d2 → Rp K B' v3 d3 → Rp K B' v4 d4 → tz D ((((σ.set i (some v1)).set j (some v2)).set l (some v3)).set o (some v4)) H') :
    tSeq (tAsg te (gUnl K 4 (gCons (gName i) (gCons (gName j) (gCons (gName l) (gCons (gName o) gNil)))))) tz D σ H := h H le _ fun v B1 H1 a1 r1 => by
  obtain ⟨a, xs, rfl, ha, ra⟩ := r1.isLst
  obtain ⟨x, y, z, u, rfl, rx, ry, rz, ru⟩ := ra.n4
  exact ⟨a, _, rfl, sq_of (a1.le _ _ ha), rfl, _, _, rfl, _, _, rfl, _, _, rfl, _, _, rfl, rfl, k x y z u B1 _ a1 rx ry rz ru⟩
end
theorem sc_reachable_set : FnScope ["model", "numbers", "items"] ["model", "numbers", "items"] MwH.d_reachable_set.scope := ⟨rfl, rfl, rfl, by decide +kernel, rfl, by decide +kernel, by decide +kernel⟩
theorem ok_reachable_set (T : Txt K mg) : Has P w K mg base 4 "reachable_set" ["model", "numbers", "items"] (spQ K (QF 1 fun m a b => reachableSet m (a.getD 0 0) b)) := by
  refine has_sp (N := ["model", "numbers", "items"]) T 63 rfl rfl rfl rfl rfl sc_reachable_set (fun _ _ _ _ _ _ us hl => match us, hl with | [_, _, _], _ => rfl) (fun vs H Q E h => by obtain ⟨B, a, m, ws, ds, d, rfl, _, _, r, hF, _⟩ := h; obtain ⟨nums, items, rfl, rfl, hg, hk⟩ := hF; exact congrArg (· + 1) r.len) fun f cdv A outer s H E hr vs Q hq => ?_
  obtain ⟨B, am, m, ws, ds, dd, rfl, le, md, r, hF, q⟩ := hq
  obtain ⟨nums, items, rfl, rfl, hg, hk⟩ := hF
  try dsimp only at q
  obtain ⟨x_numbers, x_items, rfl, r_numbers, r_items⟩ := RpAll.n2 r
  obtain ⟨f_has_word, fd_has_word, m_has_word, k_has_word, b_has_word, G_has_word⟩ := ok_has_word (P := P) (w := w) (base := base) T
  obtain ⟨f_set_after, fd_set_after, m_set_after, k_set_after, b_set_after, G_set_after⟩ := ok_set_after (P := P) (w := w) (base := base) T
  obtain ⟨f_patterns_of, fd_patterns_of, m_patterns_of, k_patterns_of, b_patterns_of, G_patterns_of⟩ := ok_patterns_of (P := P) (w := w) (base := base) T
  obtain ⟨t_NOTHING_queries, c_NOTHING_queries⟩ := T.int 112 (x := "NOTHING_queries") (z := (-2)) rfl
  obtain ⟨t_MAX_WORD, c_MAX_WORD⟩ := T.int 107 (x := "MAX_WORD") (z := (40)) rfl
  obtain ⟨t_OUT_OF_RANGE_queries, c_OUT_OF_RANGE_queries⟩ := T.int 113 (x := "OUT_OF_RANGE_queries") (z := (-22)) rfl
  refine ⟨_, (pss_cons (ps_if (pt_not (pt_val (pe_call G_has_word (hr.mono (by decide)) (by rfl) m_has_word k_has_word b_has_word .nil pass0 (pa_cons (pv 0) (pa_cons (pv 2) pa_nil))))) (pss_one (ps_ret (pe_lst (pa_cons (pe_glob (v := V.int (-2)) (by rfl) c_NOTHING_queries ⟨_, rfl⟩) pa_nil)))) pss_nil) (pss_cons (ps_if (PW.pt (pw_or (pt_cmpR op_ge (pe_ix (ix_listK (K := K) rfl) (pv 1) pe_int (fun _ _ => rfl)) (pe_op op_shl pe_int (pe_fldK (K := K) rfl (pv 0) rfl)) (nomark _)) (pw_or1 (pt_cmpR op_gt (pe_callB (call_lenK (K := K) rfl) (by rfl) (T.free 131 rfl) (by decide +kernel) (pa_cons (pv 2) pa_nil)) (pe_glob (v := V.int (40)) (by rfl) c_MAX_WORD ⟨_, rfl⟩) (nomark _))))) (pss_one (ps_ret (pe_lst (pa_cons (pe_glob (v := V.int (-22)) (by rfl) c_OUT_OF_RANGE_queries ⟨_, rfl⟩) pa_nil)))) pss_nil) (pss_one (ps_ret (pe_lst (pa_cons (pe_call G_set_after (hr.mono (by decide)) (by rfl) m_set_after k_set_after b_set_after .nil pass0 (pa_cons (pe_call G_patterns_of (hr.mono (by decide)) (by rfl) m_patterns_of k_patterns_of b_patterns_of .nil pass0 (pa_cons (pe_fldK (K := K) rfl (pv 0) rfl) (pa_cons (pe_fldK (K := K) rfl (pv 0) rfl) pa_nil))) (pa_cons (pe_ix (ix_listK (K := K) rfl) (pv 1) pe_int (fun _ _ => rfl)) (pa_cons (pv 2) pa_nil)))) pa_nil)))))), ?_⟩
  have e : reachableSet m (nums.getD 0 0) items = if hasWord m items = false then [-2] else if 2 ^ m.size ≤ nums.getD 0 0 ∨ 40 < items.length then [-22] else [((setAfter (patternsOf m.size m.now.matrices) (nums.getD 0 0) items : Nat) : Int)] := rfl
  have n0 := fun (B1 : Hp) (e1 : Ex B B1) => ev_num (K := K) (i := 0) (gv_var (i := 1) (σ := [some (.ref am), some x_numbers, some x_items]) rfl (r_numbers.mono e1)) (hk.at (by omega))
  have hil := hk.il
  have h3 := hg.sz.le
  refine if_ret (b := !hasWord m items) (.refl le) q (et_not (et_test (gv_callQB md rfl (ga_cons (gv_var rfl r_items) ga_nil) ⟨items, rfl, rfl, by omega⟩))) (fun hb => ?_) fun hb H1 a1 => ?_
  · have hc : hasWord m items = false := by simpa using hb
    rw [if_pos hc] at e
    rw [e]
    exact gv_one
  · have hw : hasWord m items = true := by simpa using hb
    rw [hw, if_neg (by decide)] at e
    refine if_ret (b := decide (2 ^ m.size ≤ nums.getD 0 0) || decide (40 < items.length)) a1 q (et_or (et_test (ev_ge (n0 B (Ex.refl _)) (ev_shl1 (by omega) ev_c (ev_size T md rfl)))) fun _ => et_test (ev_gt (ev_len (ga_cons (gv_var rfl r_items) ga_nil)) (ev_n (a := 40)))) (fun hb => ?_) fun hb H2 a2 => ?_
    · have hc : 2 ^ m.size ≤ nums.getD 0 0 ∨ 40 < items.length := by simpa using hb
      rw [if_pos hc] at e
      rw [e]
      exact gv_one
    · have hc : ¬ (2 ^ m.size ≤ nums.getD 0 0 ∨ 40 < items.length) := fun z => by
        have : (decide (2 ^ m.size ≤ nums.getD 0 0) || decide (40 < items.length)) = true := by simpa using z
        rw [this] at hb
        cases hb
      rw [if_neg hc] at e
      rw [e] at q
      exact rq a2 q (gv_oneE (gv_callI (ga_cons (gv_pats T hg md rfl) (ga_int (n0 B (Ex.refl _)) (ga_cons (gv_var rfl r_items) ga_nil))) ⟨m.size, _, _, items, rfl, rfl, hg.sz, Pats.of hg.sz _, fun k hk => by rw [pats_len]; exact hasWord_lt hw k hk⟩))
theorem sc_count_patterns : FnScope ["model", "numbers", "items"] ["model", "numbers", "items"] MwH.d_count_patterns.scope := ⟨rfl, rfl, rfl, by decide +kernel, rfl, by decide +kernel, by decide +kernel⟩
theorem ok_count_patterns (T : Txt K mg) : Has P w K mg base 5 "count_patterns" ["model", "numbers", "items"] (spQ K (QF 0 fun m _ _ => countPatterns m)) := by
  refine has_sp (N := ["model", "numbers", "items"]) T 64 rfl rfl rfl rfl rfl sc_count_patterns (fun _ _ _ _ _ _ us hl => match us, hl with | [_, _, _], _ => rfl) (fun vs H Q E h => by obtain ⟨B, a, m, ws, ds, d, rfl, _, _, r, hF, _⟩ := h; obtain ⟨nums, items, rfl, rfl, hg, hk⟩ := hF; exact congrArg (· + 1) r.len) fun f cdv A outer s H E hr vs Q hq => ?_
  obtain ⟨B, am, m, ws, ds, dd, rfl, le, md, r, hF, q⟩ := hq
  obtain ⟨nums, items, rfl, rfl, hg, hk⟩ := hF
  try dsimp only at q
  obtain ⟨x_numbers, x_items, rfl, r_numbers, r_items⟩ := RpAll.n2 r
  obtain ⟨f_met_patterns, fd_met_patterns, m_met_patterns, k_met_patterns, b_met_patterns, G_met_patterns⟩ := ok_met_patterns (P := P) (w := w) (base := base) T
  obtain ⟨f_patterns_of, fd_patterns_of, m_patterns_of, k_patterns_of, b_patterns_of, G_patterns_of⟩ := ok_patterns_of (P := P) (w := w) (base := base) T
  refine ⟨_, (pss_one (ps_ret (pe_lst (pa_cons (pe_callB (call_lenK (K := K) rfl) (by rfl) (T.free 131 rfl) (by decide +kernel) (pa_cons (pe_call G_met_patterns (hr.mono (by decide)) (by rfl) m_met_patterns k_met_patterns b_met_patterns .nil pass0 (pa_cons (pe_call G_patterns_of (hr.mono (by decide)) (by rfl) m_patterns_of k_patterns_of b_patterns_of .nil pass0 (pa_cons (pe_fldK (K := K) rfl (pv 0) rfl) (pa_cons (pe_fldK (K := K) rfl (pv 0) rfl) pa_nil))) pa_nil)) pa_nil)) pa_nil)))), ?_⟩
  exact rq (.refl le) q (gv_oneE (ev_lenL (ga_cons (Gv.is (gv_call (ga_cons (gv_pats T hg md rfl) ga_nil) ⟨m.size, _, rfl, rfl, hg.sz, Pats.of hg.sz _, pats_le hg⟩) rfl) ga_nil)) |>.is (by unfold countPatterns; rw [List.length_map]))
theorem sc_answer_zero_word : FnScope ["model", "numbers", "items"] ["model", "numbers", "items"] MwH.d_answer_zero_word.scope := ⟨rfl, rfl, rfl, by decide +kernel, rfl, by decide +kernel, by decide +kernel⟩
theorem ok_answer_zero_word (T : Txt K mg) : Has P w K mg base 6 "answer_zero_word" ["model", "numbers", "items"] (spQ K (QF 0 fun m _ _ => answerZeroWord m)) := by
  refine has_sp (N := ["model", "numbers", "items"]) T 66 rfl rfl rfl rfl rfl sc_answer_zero_word (fun _ _ _ _ _ _ us hl => match us, hl with | [_, _, _], _ => rfl) (fun vs H Q E h => by obtain ⟨B, a, m, ws, ds, d, rfl, _, _, r, hF, _⟩ := h; obtain ⟨nums, items, rfl, rfl, hg, hk⟩ := hF; exact congrArg (· + 1) r.len) fun f cdv A outer s H E hr vs Q hq => ?_
  obtain ⟨B, am, m, ws, ds, dd, rfl, le, md, r, hF, q⟩ := hq
  obtain ⟨nums, items, rfl, rfl, hg, hk⟩ := hF
  try dsimp only at q
  obtain ⟨x_numbers, x_items, rfl, r_numbers, r_items⟩ := RpAll.n2 r
  obtain ⟨f_told_word, fd_told_word, m_told_word, k_told_word, b_told_word, G_told_word⟩ := ok_told_word (P := P) (w := w) (base := base) T
  obtain ⟨f_zero_word, fd_zero_word, m_zero_word, k_zero_word, b_zero_word, G_zero_word⟩ := ok_zero_word (P := P) (w := w) (base := base) T
  obtain ⟨f_patterns_of, fd_patterns_of, m_patterns_of, k_patterns_of, b_patterns_of, G_patterns_of⟩ := ok_patterns_of (P := P) (w := w) (base := base) T
  refine ⟨_, (pss_one (ps_ret (pe_call G_told_word (hr.mono (by decide)) (by rfl) m_told_word k_told_word b_told_word .nil pass0 (pa_cons (pe_call G_zero_word (hr.mono (by decide)) (by rfl) m_zero_word k_zero_word b_zero_word .nil pass0 (pa_cons (pe_call G_patterns_of (hr.mono (by decide)) (by rfl) m_patterns_of k_patterns_of b_patterns_of .nil pass0 (pa_cons (pe_fldK (K := K) rfl (pv 0) rfl) (pa_cons (pe_fldK (K := K) rfl (pv 0) rfl) pa_nil))) pa_nil)) pa_nil)))), ?_⟩
  exact rq (.refl le) q (gv_call (ga_cons (gv_call (ga_cons (gv_pats T hg md rfl) ga_nil) ⟨m.size, _, rfl, rfl, hg.sz, Pats.of hg.sz _, pats_le hg⟩) ga_nil) ⟨_, rfl, rfl, fun wd hw => found_len hg.sz (Pats.of hg.sz _) hw⟩)
theorem sc_answer_positive_column_word : FnScope ["model", "numbers", "items"] ["model", "numbers", "items"] MwH.d_answer_positive_column_word.scope := ⟨rfl, rfl, rfl, by decide +kernel, rfl, by decide +kernel, by decide +kernel⟩
theorem ok_answer_positive_column_word (T : Txt K mg) : Has P w K mg base 6 "answer_positive_column_word" ["model", "numbers", "items"] (spQ K (QF 0 fun m _ _ => answerPositiveColumnWord m)) := by
  refine has_sp (N := ["model", "numbers", "items"]) T 67 rfl rfl rfl rfl rfl sc_answer_positive_column_word (fun _ _ _ _ _ _ us hl => match us, hl with | [_, _, _], _ => rfl) (fun vs H Q E h => by obtain ⟨B, a, m, ws, ds, d, rfl, _, _, r, hF, _⟩ := h; obtain ⟨nums, items, rfl, rfl, hg, hk⟩ := hF; exact congrArg (· + 1) r.len) fun f cdv A outer s H E hr vs Q hq => ?_
  obtain ⟨B, am, m, ws, ds, dd, rfl, le, md, r, hF, q⟩ := hq
  obtain ⟨nums, items, rfl, rfl, hg, hk⟩ := hF
  try dsimp only at q
  obtain ⟨x_numbers, x_items, rfl, r_numbers, r_items⟩ := RpAll.n2 r
  obtain ⟨f_told_word, fd_told_word, m_told_word, k_told_word, b_told_word, G_told_word⟩ := ok_told_word (P := P) (w := w) (base := base) T
  obtain ⟨f_positive_column_word, fd_positive_column_word, m_positive_column_word, k_positive_column_word, b_positive_column_word, G_positive_column_word⟩ := ok_positive_column_word (P := P) (w := w) (base := base) T
  obtain ⟨f_patterns_of, fd_patterns_of, m_patterns_of, k_patterns_of, b_patterns_of, G_patterns_of⟩ := ok_patterns_of (P := P) (w := w) (base := base) T
  refine ⟨_, (pss_one (ps_ret (pe_call G_told_word (hr.mono (by decide)) (by rfl) m_told_word k_told_word b_told_word .nil pass0 (pa_cons (pe_call G_positive_column_word (hr.mono (by decide)) (by rfl) m_positive_column_word k_positive_column_word b_positive_column_word .nil pass0 (pa_cons (pe_fldK (K := K) rfl (pv 0) rfl) (pa_cons (pe_call G_patterns_of (hr.mono (by decide)) (by rfl) m_patterns_of k_patterns_of b_patterns_of .nil pass0 (pa_cons (pe_fldK (K := K) rfl (pv 0) rfl) (pa_cons (pe_fldK (K := K) rfl (pv 0) rfl) pa_nil))) pa_nil))) pa_nil)))), ?_⟩
  exact rq (.refl le) q (gv_call (ga_cons (gv_call (ga_int (ev_size T md rfl) (ga_cons (gv_pats T hg md rfl) ga_nil)) ⟨m.size, _, rfl, rfl, hg.sz, Pats.of hg.sz _, pats_le hg⟩) ga_nil) ⟨_, rfl, rfl, fun wd hw => found_len hg.sz (Pats.of hg.sz _) hw⟩)
theorem sc_growth : FnScope ["model", "numbers", "items"] ["model", "numbers", "items"] MwH.d_growth.scope := ⟨rfl, rfl, rfl, by decide +kernel, rfl, by decide +kernel, by decide +kernel⟩
theorem ok_growth (T : Txt K mg) : Has P w K mg base 8 "growth" ["model", "numbers", "items"] (spQ K (QF 0 fun m _ _ => growth m)) := by
  refine has_sp (N := ["model", "numbers", "items"]) T 68 rfl rfl rfl rfl rfl sc_growth (fun _ _ _ _ _ _ us hl => match us, hl with | [_, _, _], _ => rfl) (fun vs H Q E h => by obtain ⟨B, a, m, ws, ds, d, rfl, _, _, r, hF, _⟩ := h; obtain ⟨nums, items, rfl, rfl, hg, hk⟩ := hF; exact congrArg (· + 1) r.len) fun f cdv A outer s H E hr vs Q hq => ?_
  obtain ⟨B, am, m, ws, ds, dd, rfl, le, md, r, hF, q⟩ := hq
  obtain ⟨nums, items, rfl, rfl, hg, hk⟩ := hF
  try dsimp only at q
  obtain ⟨x_numbers, x_items, rfl, r_numbers, r_items⟩ := RpAll.n2 r
  obtain ⟨f_growth_of, fd_growth_of, m_growth_of, k_growth_of, b_growth_of, G_growth_of⟩ := ok_growth_of (P := P) (w := w) (base := base) T
  obtain ⟨f_patterns_of, fd_patterns_of, m_patterns_of, k_patterns_of, b_patterns_of, G_patterns_of⟩ := ok_patterns_of (P := P) (w := w) (base := base) T
  refine ⟨_, (pss_one (ps_ret (pe_call G_growth_of (hr.mono (by decide)) (by rfl) m_growth_of k_growth_of b_growth_of .nil pass0 (pa_cons (pe_fldK (K := K) rfl (pv 0) rfl) (pa_cons (pe_fldK (K := K) rfl (pv 0) rfl) (pa_cons (pe_call G_patterns_of (hr.mono (by decide)) (by rfl) m_patterns_of k_patterns_of b_patterns_of .nil pass0 (pa_cons (pe_fldK (K := K) rfl (pv 0) rfl) (pa_cons (pe_fldK (K := K) rfl (pv 0) rfl) pa_nil))) pa_nil)))))), ?_⟩
  exact rq (.refl le) q (Gv.is (gv_call (ga_int (ev_size T md rfl) (ga_cons (gv_mats T md rfl) (ga_cons (gv_pats T hg md rfl) ga_nil))) ⟨m.size, _, _, rfl, rfl, hg.sz, hg.now.ms, Pats.of hg.sz _, pats_le hg⟩) rfl)
theorem sc_max_paths : FnScope ["model", "numbers", "items", "best"] ["model", "numbers", "items"] MwH.d_max_paths.scope := ⟨rfl, rfl, rfl, by decide +kernel, rfl, by decide +kernel, by decide +kernel⟩
theorem ok_max_paths (T : Txt K mg) : Has P w K mg base 5 "max_paths" ["model", "numbers", "items"] (spQ K (QF 1 fun m a _ => maxPaths m (a.getD 0 0))) := by
  refine has_sp (N := ["model", "numbers", "items", "best"]) T 69 rfl rfl rfl rfl rfl sc_max_paths (fun _ _ _ _ _ _ us hl => match us, hl with | [_, _, _], _ => rfl) (fun vs H Q E h => by obtain ⟨B, a, m, ws, ds, d, rfl, _, _, r, hF, _⟩ := h; obtain ⟨nums, items, rfl, rfl, hg, hk⟩ := hF; exact congrArg (· + 1) r.len) fun f cdv A outer s H E hr vs Q hq => ?_
  obtain ⟨B, am, m, ws, ds, dd, rfl, le, md, r, hF, q⟩ := hq
  obtain ⟨nums, items, rfl, rfl, hg, hk⟩ := hF
  try dsimp only at q
  obtain ⟨x_numbers, x_items, rfl, r_numbers, r_items⟩ := RpAll.n2 r
  obtain ⟨f_greatest_total, fd_greatest_total, m_greatest_total, k_greatest_total, b_greatest_total, G_greatest_total⟩ := ok_greatest_total (P := P) (w := w) (base := base) T
  obtain ⟨t_MAX_LENGTH, c_MAX_LENGTH⟩ := T.int 109 (x := "MAX_LENGTH") (z := (4)) rfl
  obtain ⟨t_OUT_OF_RANGE_queries, c_OUT_OF_RANGE_queries⟩ := T.int 113 (x := "OUT_OF_RANGE_queries") (z := (-22)) rfl
  refine ⟨_, (pss_cons (ps_if (pt_cmpR op_gt (pe_ix (ix_listK (K := K) rfl) (pv 1) pe_int (fun _ _ => rfl)) (pe_glob (v := V.int (4)) (by rfl) c_MAX_LENGTH ⟨_, rfl⟩) (nomark _)) (pss_one (ps_ret (pe_lst (pa_cons (pe_glob (v := V.int (-22)) (by rfl) c_OUT_OF_RANGE_queries ⟨_, rfl⟩) pa_nil)))) pss_nil) (pss_cons (ps_set (i := 3) sc_max_paths.nd rfl (Or.inl rfl) (pe_call G_greatest_total (hr.mono (by decide)) (by rfl) m_greatest_total k_greatest_total b_greatest_total .nil pass0 (pa_cons (pe_fldK (K := K) rfl (pv 0) rfl) (pa_cons (pe_fldK (K := K) rfl (pv 0) rfl) (pa_cons (pe_ix (ix_listK (K := K) rfl) (pv 1) pe_int (fun _ _ => rfl)) pa_nil))))) (pss_cons (ps_if (pt_cmpR op_isN (pv 3) pe_non (nomark _)) (pss_one (ps_ret (pe_lst (pa_cons pe_int pa_nil)))) pss_nil) (pss_one (ps_ret (pe_op op_cat (pe_lst (pa_cons (pe_ix (ix_listK (K := K) rfl) (pv 3) pe_int (fun _ _ => rfl)) pa_nil)) (pe_ix (ix_listK (K := K) rfl) (pv 3) pe_int (fun _ _ => rfl)))))))), ?_⟩
  have e : maxPaths m (nums.getD 0 0) = if 4 < nums.getD 0 0 then [-22] else match greatestTotal m.size m.now.matrices (nums.getD 0 0) with
    | none => [0]
    | some b => (b.1 : Int) :: zs b.2 := rfl
  have n0 := ev_num (K := K) (i := 0) (gv_var (i := 1) (σ := [some (.ref am), some x_numbers, some x_items, none]) rfl r_numbers) (hk.at (by omega))
  refine if_ret (b := decide (4 < nums.getD 0 0)) (.refl le) q (et_test (ev_gt n0 (ev_n (a := 4)))) (fun hb => ?_) fun hb H1 a1 => ?_
  · rw [if_pos (of_decide_eq_true hb)] at e
    rw [e]
    exact gv_one
  · have h4 := of_decide_eq_false hb
    rw [if_neg h4] at e
    generalize nums.getD 0 0 = x at e q n0 h4
    refine qd_asg (d := dBest (greatestTotal m.size m.now.matrices x)) a1.le (gv_call (ga_int (ev_size T md rfl) (ga_cons (gv_mats T md rfl) (ga_int n0 ga_nil))) ⟨_, _, x, rfl, rfl, hg.sz, hg.now.ms, hg.now.ml, by omega⟩) fun v2 B2 H2 a2 r2 => ?_
    cases hb2 : greatestTotal m.size m.now.matrices x with
    | none =>
      rw [hb2] at e r2
      refine if_ret (b := true) (a1.trans a2) q (et_test (ev_isN1 (gv_var rfl r2))) (fun _ => ?_) fun hb => by cases hb
      rw [e]
      exact gv_one
    | some b =>
      have hbl := best_len hg.now.ml hb2
      rw [hb2] at e r2
      refine if_ret (b := false) (a1.trans a2) q (et_test (ev_isN0 (gv_var rfl r2))) (fun hb => by cases hb) fun _ H3 a3 => ?_
      rw [e] at q
      refine rq a3 q (Gv.is (gv_cat (gv_oneE (gv_ixL (ds := [dI b.1, dL b.2]) (d := dI b.1) (gv_var rfl r2) (ev_n (a := 0)) (ix_nat (j := 0) rfl)).toInt) (gv_ixL (ds := [dI b.1, dL b.2]) (d := dL b.2) (gv_var rfl r2) (ev_n (a := 1)) (ix_nat (j := 1) rfl)) ?_) rfl)
      rw [zlen]
      show 1 + _ ≤ _
      omega
theorem sc_ergodicity_coefficient : FnScope ["model", "numbers", "items"] ["model", "numbers", "items"] MwH.d_ergodicity_coefficient.scope := ⟨rfl, rfl, rfl, by decide +kernel, rfl, by decide +kernel, by decide +kernel⟩
theorem ok_ergodicity_coefficient (T : Txt K mg) : Has P w K mg base 6 "ergodicity_coefficient" ["model", "numbers", "items"] (spQ K (QF 0 fun m _ b => ergodicity m b)) := by
  refine has_sp (N := ["model", "numbers", "items"]) T 70 rfl rfl rfl rfl rfl sc_ergodicity_coefficient (fun _ _ _ _ _ _ us hl => match us, hl with | [_, _, _], _ => rfl) (fun vs H Q E h => by obtain ⟨B, a, m, ws, ds, d, rfl, _, _, r, hF, _⟩ := h; obtain ⟨nums, items, rfl, rfl, hg, hk⟩ := hF; exact congrArg (· + 1) r.len) fun f cdv A outer s H E hr vs Q hq => ?_
  obtain ⟨B, am, m, ws, ds, dd, rfl, le, md, r, hF, q⟩ := hq
  obtain ⟨nums, items, rfl, rfl, hg, hk⟩ := hF
  try dsimp only at q
  obtain ⟨x_numbers, x_items, rfl, r_numbers, r_items⟩ := RpAll.n2 r
  obtain ⟨f_has_word, fd_has_word, m_has_word, k_has_word, b_has_word, G_has_word⟩ := ok_has_word (P := P) (w := w) (base := base) T
  obtain ⟨f_are_chances, fd_are_chances, m_are_chances, k_are_chances, b_are_chances, G_are_chances⟩ := ok_are_chances (P := P) (w := w) (base := base) T
  obtain ⟨f_coefficient_of, fd_coefficient_of, m_coefficient_of, k_coefficient_of, b_coefficient_of, G_coefficient_of⟩ := ok_coefficient_of (P := P) (w := w) (base := base) T
  obtain ⟨t_NOTHING_queries, c_NOTHING_queries⟩ := T.int 112 (x := "NOTHING_queries") (z := (-2)) rfl
  obtain ⟨t_MAX_CHANCE_WORD, c_MAX_CHANCE_WORD⟩ := T.int 108 (x := "MAX_CHANCE_WORD") (z := (8)) rfl
  obtain ⟨t_OUT_OF_RANGE_queries, c_OUT_OF_RANGE_queries⟩ := T.int 113 (x := "OUT_OF_RANGE_queries") (z := (-22)) rfl
  obtain ⟨t_IMPOSSIBLE, c_IMPOSSIBLE⟩ := T.int 114 (x := "IMPOSSIBLE") (z := (-33)) rfl
  refine ⟨_, (pss_cons (ps_if (pt_not (pt_val (pe_call G_has_word (hr.mono (by decide)) (by rfl) m_has_word k_has_word b_has_word .nil pass0 (pa_cons (pv 0) (pa_cons (pv 2) pa_nil))))) (pss_one (ps_ret (pe_lst (pa_cons (pe_glob (v := V.int (-2)) (by rfl) c_NOTHING_queries ⟨_, rfl⟩) pa_nil)))) pss_nil) (pss_cons (ps_if (pt_cmpR op_gt (pe_callB (call_lenK (K := K) rfl) (by rfl) (T.free 131 rfl) (by decide +kernel) (pa_cons (pv 2) pa_nil)) (pe_glob (v := V.int (8)) (by rfl) c_MAX_CHANCE_WORD ⟨_, rfl⟩) (nomark _)) (pss_one (ps_ret (pe_lst (pa_cons (pe_glob (v := V.int (-22)) (by rfl) c_OUT_OF_RANGE_queries ⟨_, rfl⟩) pa_nil)))) pss_nil) (pss_cons (ps_if (pt_not (pt_val (pe_call G_are_chances (hr.mono (by decide)) (by rfl) m_are_chances k_are_chances b_are_chances .nil pass0 (pa_cons (pe_fldK (K := K) rfl (pv 0) rfl) (pa_cons (pe_fldK (K := K) rfl (pv 0) rfl) pa_nil))))) (pss_one (ps_ret (pe_lst (pa_cons (pe_glob (v := V.int (-33)) (by rfl) c_IMPOSSIBLE ⟨_, rfl⟩) pa_nil)))) pss_nil) (pss_one (ps_ret (pe_op op_cat (pe_lst (pa_cons pe_int pa_nil)) (pe_call G_coefficient_of (hr.mono (by decide)) (by rfl) m_coefficient_of k_coefficient_of b_coefficient_of .nil pass0 (pa_cons (pe_fldK (K := K) rfl (pv 0) rfl) (pa_cons (pe_fldK (K := K) rfl (pv 0) rfl) (pa_cons (pv 2) pa_nil)))))))))), ?_⟩
  have e : ergodicity m items = if hasWord m items = false then [-2] else if 8 < items.length then [-22] else if areChances m.size m.now.matrices = false then [-33] else 0 :: zs (coefficient m.size m.now.matrices items) := rfl
  have hil := hk.il
  refine if_ret (b := !hasWord m items) (.refl le) q (et_not (et_test (gv_callQB md rfl (ga_cons (gv_var rfl r_items) ga_nil) ⟨items, rfl, rfl, by omega⟩))) (fun hb => ?_) fun hb H1 a1 => ?_
  · have hc : hasWord m items = false := by simpa using hb
    rw [if_pos hc] at e
    rw [e]
    exact gv_one
  have hw : hasWord m items = true := by simpa using hb
  have hwl := hasWord_lt hw
  rw [hw, if_neg (by decide)] at e
  refine if_ret (b := decide (8 < items.length)) a1 q (et_test (ev_gt (ev_len (ga_cons (gv_var rfl r_items) ga_nil)) (ev_n (a := 8)))) (fun hb => ?_) fun hb H2 a2 => ?_
  · rw [if_pos (of_decide_eq_true hb)] at e
    rw [e]
    exact gv_one
  have h8 := of_decide_eq_false hb
  rw [if_neg h8] at e
  refine if_ret (b := !areChances m.size m.now.matrices) a2 q (et_not (et_test (gv_callB (ga_int (ev_size T md rfl) (ga_cons (gv_mats T md rfl) ga_nil)) ⟨_, _, rfl, rfl, hg.sz, hg.now.ms, mats_le hg⟩))) (fun hb => ?_) fun hb H3 a3 => ?_
  · have hc : areChances m.size m.now.matrices = false := by simpa using hb
    rw [if_pos hc] at e
    rw [e]
    exact gv_one
  · have hc : areChances m.size m.now.matrices = true := by simpa using hb
    rw [hc, if_neg (by decide)] at e
    rw [e] at q
    exact rq a3 q (Gv.is (gv_cat (gv_oneE (z := 0) ev_c) (gv_call (ga_int (ev_size T md rfl) (ga_cons (gv_mats T md rfl) (ga_cons (gv_var rfl r_items) ga_nil))) ⟨_, _, items, rfl, rfl, hg.sz, hg.now.ms, hwl, hc, by omega⟩) (by show 1 + 2 ≤ 100000; omega)) rfl)
theorem sc_answer_mixing_index : FnScope ["model", "numbers", "items", "length"] ["model", "numbers", "items"] MwH.d_answer_mixing_index.scope := ⟨rfl, rfl, rfl, by decide +kernel, rfl, by decide +kernel, by decide +kernel⟩
theorem ok_answer_mixing_index (T : Txt K mg) : Has P w K mg base 6 "answer_mixing_index" ["model", "numbers", "items"] (spQ K (QF 0 fun m _ _ => answerMixingIndex m)) := by
  refine has_sp (N := ["model", "numbers", "items", "length"]) T 71 rfl rfl rfl rfl rfl sc_answer_mixing_index (fun _ _ _ _ _ _ us hl => match us, hl with | [_, _, _], _ => rfl) (fun vs H Q E h => by obtain ⟨B, a, m, ws, ds, d, rfl, _, _, r, hF, _⟩ := h; obtain ⟨nums, items, rfl, rfl, hg, hk⟩ := hF; exact congrArg (· + 1) r.len) fun f cdv A outer s H E hr vs Q hq => ?_
  obtain ⟨B, am, m, ws, ds, dd, rfl, le, md, r, hF, q⟩ := hq
  obtain ⟨nums, items, rfl, rfl, hg, hk⟩ := hF
  try dsimp only at q
  obtain ⟨x_numbers, x_items, rfl, r_numbers, r_items⟩ := RpAll.n2 r
  obtain ⟨f_are_chances, fd_are_chances, m_are_chances, k_are_chances, b_are_chances, G_are_chances⟩ := ok_are_chances (P := P) (w := w) (base := base) T
  obtain ⟨f_mixing_index, fd_mixing_index, m_mixing_index, k_mixing_index, b_mixing_index, G_mixing_index⟩ := ok_mixing_index (P := P) (w := w) (base := base) T
  obtain ⟨f_patterns_of, fd_patterns_of, m_patterns_of, k_patterns_of, b_patterns_of, G_patterns_of⟩ := ok_patterns_of (P := P) (w := w) (base := base) T
  obtain ⟨t_IMPOSSIBLE, c_IMPOSSIBLE⟩ := T.int 114 (x := "IMPOSSIBLE") (z := (-33)) rfl
  obtain ⟨t_NO_MIXING, c_NO_MIXING⟩ := T.int 115 (x := "NO_MIXING") (z := (-34)) rfl
  refine ⟨_, (pss_cons (ps_if (pt_not (pt_val (pe_call G_are_chances (hr.mono (by decide)) (by rfl) m_are_chances k_are_chances b_are_chances .nil pass0 (pa_cons (pe_fldK (K := K) rfl (pv 0) rfl) (pa_cons (pe_fldK (K := K) rfl (pv 0) rfl) pa_nil))))) (pss_one (ps_ret (pe_lst (pa_cons (pe_glob (v := V.int (-33)) (by rfl) c_IMPOSSIBLE ⟨_, rfl⟩) pa_nil)))) pss_nil) (pss_cons (ps_set (i := 3) sc_answer_mixing_index.nd rfl (Or.inl rfl) (pe_call G_mixing_index (hr.mono (by decide)) (by rfl) m_mixing_index k_mixing_index b_mixing_index .nil pass0 (pa_cons (pe_fldK (K := K) rfl (pv 0) rfl) (pa_cons (pe_call G_patterns_of (hr.mono (by decide)) (by rfl) m_patterns_of k_patterns_of b_patterns_of .nil pass0 (pa_cons (pe_fldK (K := K) rfl (pv 0) rfl) (pa_cons (pe_fldK (K := K) rfl (pv 0) rfl) pa_nil))) pa_nil)))) (pss_one (ps_ret (pe_ifExp (pt_cmpR op_isN (pv 3) pe_non (nomark _)) (pe_lst (pa_cons (pe_glob (v := V.int (-34)) (by rfl) c_NO_MIXING ⟨_, rfl⟩) pa_nil)) (pe_lst (pa_cons (pv 3) pa_nil))))))), ?_⟩
  have e : answerMixingIndex m = if areChances m.size m.now.matrices = false then [-33] else match mixingIndex m.size (patternsOf m.size m.now.matrices) with
    | none => [-34]
    | some k => [(k : Int)] := rfl
  refine if_ret (b := !areChances m.size m.now.matrices) (.refl le) q (et_not (et_test (gv_callB (ga_int (ev_size T md rfl) (ga_cons (gv_mats T md rfl) ga_nil)) ⟨_, _, rfl, rfl, hg.sz, hg.now.ms, mats_le hg⟩))) (fun hb => ?_) fun hb H1 a1 => ?_
  · have hc : areChances m.size m.now.matrices = false := by simpa using hb
    rw [if_pos hc] at e
    rw [e]
    exact gv_one
  · have hc : areChances m.size m.now.matrices = true := by simpa using hb
    rw [hc, if_neg (by decide)] at e
    refine qd_asg (d := dOptN (mixingIndex m.size (patternsOf m.size m.now.matrices))) a1.le (gv_call (ga_int (ev_size T md rfl) (ga_cons (gv_pats T hg md rfl) ga_nil)) ⟨_, _, rfl, rfl, hg.sz, Pats.of hg.sz _⟩) fun v2 B2 H2 a2 r2 => ?_
    cases hx : mixingIndex m.size (patternsOf m.size m.now.matrices) with
    | none =>
      rw [hx] at e r2
      rw [e] at q
      exact rq (a1.trans a2) q (gv_if (b := true) (et_test (ev_isN1 (gv_var rfl r2))) (fun _ => gv_one) fun h => by cases h)
    | some k =>
      rw [hx] at e r2
      rw [e] at q
      exact rq (a1.trans a2) q (gv_if (b := false) (et_test (ev_isN0I (gv_var rfl r2))) (fun h => by cases h) fun _ => gv_oneE (ev_v rfl r2))
/-- the separating words are asked where they exist -/
def QSep (m : Model) (ds : List PyData) (d : PyData) : Prop := QF 0 (fun m _ _ => answerSeparatingWords m) m ds d ∧ (areChances m.size m.now.matrices = true → mixingIndex m.size (patternsOf m.size m.now.matrices) = none → ∃ z, separatingWords m.size (patternsOf m.size m.now.matrices) = some z)
theorem sc_answer_separating_words : FnScope ["model", "numbers", "items", "patterns", "one", "other", "prefix", "cycle"] ["model", "numbers", "items"] MwH.d_answer_separating_words.scope := ⟨rfl, rfl, rfl, by decide +kernel, rfl, by decide +kernel, by decide +kernel⟩
theorem ok_answer_separating_words (T : Txt K mg) : Has P w K mg base 7 "answer_separating_words" ["model", "numbers", "items"] (spQ K QSep) := by
  refine has_sp (N := ["model", "numbers", "items", "patterns", "one", "other", "prefix", "cycle"]) T 72 rfl rfl rfl rfl rfl sc_answer_separating_words (fun _ _ _ _ _ _ us hl => match us, hl with | [_, _, _], _ => rfl) (fun vs H Q E h => by obtain ⟨B, a, m, ws, ds, d, rfl, _, _, r, hF, _⟩ := h; obtain ⟨⟨nums, items, rfl, rfl, hg, hk⟩, hsep⟩ := hF; exact congrArg (· + 1) r.len) fun f cdv A outer s H E hr vs Q hq => ?_
  obtain ⟨B, am, m, ws, ds, dd, rfl, le, md, r, hF, q⟩ := hq
  obtain ⟨⟨nums, items, rfl, rfl, hg, hk⟩, hsep⟩ := hF
  try dsimp only at q
  obtain ⟨x_numbers, x_items, rfl, r_numbers, r_items⟩ := RpAll.n2 r
  obtain ⟨f_are_chances, fd_are_chances, m_are_chances, k_are_chances, b_are_chances, G_are_chances⟩ := ok_are_chances (P := P) (w := w) (base := base) T
  obtain ⟨f_patterns_of, fd_patterns_of, m_patterns_of, k_patterns_of, b_patterns_of, G_patterns_of⟩ := ok_patterns_of (P := P) (w := w) (base := base) T
  obtain ⟨f_mixing_index, fd_mixing_index, m_mixing_index, k_mixing_index, b_mixing_index, G_mixing_index⟩ := ok_mixing_index (P := P) (w := w) (base := base) T
  obtain ⟨f_separating_words, fd_separating_words, m_separating_words, k_separating_words, b_separating_words, G_separating_words⟩ := ok_separating_words (P := P) (w := w) (base := base) T
  obtain ⟨t_IMPOSSIBLE, c_IMPOSSIBLE⟩ := T.int 114 (x := "IMPOSSIBLE") (z := (-33)) rfl
  obtain ⟨t_NO_MIXING, c_NO_MIXING⟩ := T.int 115 (x := "NO_MIXING") (z := (-34)) rfl
  refine ⟨_, (pss_cons (ps_if (pt_not (pt_val (pe_call G_are_chances (hr.mono (by decide)) (by rfl) m_are_chances k_are_chances b_are_chances .nil pass0 (pa_cons (pe_fldK (K := K) rfl (pv 0) rfl) (pa_cons (pe_fldK (K := K) rfl (pv 0) rfl) pa_nil))))) (pss_one (ps_ret (pe_lst (pa_cons (pe_glob (v := V.int (-33)) (by rfl) c_IMPOSSIBLE ⟨_, rfl⟩) pa_nil)))) pss_nil) (pss_cons (ps_set (i := 3) sc_answer_separating_words.nd rfl (Or.inl rfl) (pe_call G_patterns_of (hr.mono (by decide)) (by rfl) m_patterns_of k_patterns_of b_patterns_of .nil pass0 (pa_cons (pe_fldK (K := K) rfl (pv 0) rfl) (pa_cons (pe_fldK (K := K) rfl (pv 0) rfl) pa_nil)))) (pss_cons (ps_if (pt_cmpR op_notN (pe_call G_mixing_index (hr.mono (by decide)) (by rfl) m_mixing_index k_mixing_index b_mixing_index .nil pass0 (pa_cons (pe_fldK (K := K) rfl (pv 0) rfl) (pa_cons (pv 3) pa_nil))) pe_non (nomark _)) (pss_one (ps_ret (pe_lst (pa_cons (pe_glob (v := V.int (-34)) (by rfl) c_NO_MIXING ⟨_, rfl⟩) pa_nil)))) pss_nil) (pss_cons (ps_asg (pe_call G_separating_words (hr.mono (by decide)) (by rfl) m_separating_words k_separating_words b_separating_words .nil pass0 (pa_cons (pe_fldK (K := K) rfl (pv 0) rfl) (pa_cons (pv 3) pa_nil))) (pg_unlK (K := K) (n := 4) rfl rfl (pgs_cons (pg_name (i := 4) sc_answer_separating_words.nd rfl (Or.inl rfl)) (pgs_cons (pg_name (i := 5) sc_answer_separating_words.nd rfl (Or.inl rfl)) (pgs_cons (pg_name (i := 6) sc_answer_separating_words.nd rfl (Or.inl rfl)) (pgs_cons (pg_name (i := 7) sc_answer_separating_words.nd rfl (Or.inl rfl)) pgs_nil)))))) (pss_one (ps_ret (pe_op op_cat (pe_op op_cat (pe_op op_cat (pe_lst (pa_cons (pv 4) (pa_cons (pv 5) (pa_cons (pe_callB (call_lenK (K := K) rfl) (by rfl) (T.free 131 rfl) (by decide +kernel) (pa_cons (pv 6) pa_nil)) pa_nil)))) (pv 6)) (pe_lst (pa_cons (pe_callB (call_lenK (K := K) rfl) (by rfl) (T.free 131 rfl) (by decide +kernel) (pa_cons (pv 7) pa_nil)) pa_nil))) (pv 7)))))))), ?_⟩
  have e : answerSeparatingWords m = if areChances m.size m.now.matrices = false then [-33] else if (mixingIndex m.size (patternsOf m.size m.now.matrices)).isSome then [-34]
    else match separatingWords m.size (patternsOf m.size m.now.matrices) with
    | none => []
    | some (i, j, p, c) => zs (i :: j :: p.length :: p ++ c.length :: c) := rfl
  refine if_ret (b := !areChances m.size m.now.matrices) (.refl le) q (et_not (et_test (gv_callB (ga_int (ev_size T md rfl) (ga_cons (gv_mats T md rfl) ga_nil)) ⟨_, _, rfl, rfl, hg.sz, hg.now.ms, mats_le hg⟩))) (fun hb => ?_) fun hb H1 a1 => ?_
  · have hc : areChances m.size m.now.matrices = false := by simpa using hb
    rw [if_pos hc] at e
    rw [e]
    exact gv_one
  · have hc : areChances m.size m.now.matrices = true := by simpa using hb
    rw [hc, if_neg (by decide)] at e
    have hp := Pats.of hg.sz m.now.matrices
    refine qd_asg (d := dTs (patternsOf m.size m.now.matrices)) a1.le (gv_pats T hg md rfl) fun v2 B2 H2 a2 r2 => ?_
    have md2 := md.mono a2.base
    have hsep2 := hsep hc
    generalize patternsOf m.size m.now.matrices = ps at e r2 hsep2 hp
    refine if_ret (b := (mixingIndex m.size ps).isSome) (a1.trans a2) q (et_test (ev_notNO (gv_call (ga_int (ev_size T md2 rfl) (ga_cons (gv_var rfl r2) ga_nil)) ⟨_, ps, rfl, rfl, hg.sz, hp⟩))) (fun hb => ?_) fun hb H3 a3 => ?_
    · rw [if_pos hb] at e
      rw [e]
      exact gv_one
    · rw [hb, if_neg (by decide)] at e
      have hx : mixingIndex m.size ps = none := by
        cases hx : mixingIndex m.size ps with
        | none => rfl
        | some k => rw [hx] at hb; cases hb
      obtain ⟨⟨i, j, p, c⟩, hz⟩ := hsep2 hx
      obtain ⟨hpl, hcl⟩ := sep_len hg.sz hz
      rw [hz] at e
      rw [e] at q
      refine qd_unl4 (d1 := dI i) (d2 := dI j) (d3 := dL p) (d4 := dL c) a3.le (Gv.is (gv_call (ga_int (ev_size T md2 rfl) (ga_cons (gv_var rfl r2) ga_nil)) ⟨_, ps, rfl, rfl, hg.sz, hp⟩) (by rw [hz]; rfl)) fun v4 v5 v6 v7 B4 H4 a4 r4 r5 r6 r7 => ?_
      refine rq (a3.trans a4) q (Gv.is (gv_cat (gv_cat (gv_cat (gv_lst (ga_cons (gv_var rfl r4) (ga_cons (gv_var rfl r5) (ga_int (ev_len (ga_cons (gv_var rfl r6) ga_nil)) ga_nil))) (by show 3 ≤ 100000; omega)) (gv_var rfl r6) ?_) (gv_oneE (ev_len (ga_cons (gv_var rfl r7) ga_nil))) ?_) (gv_var rfl r7) ?_) ?_)
      · rw [zlen]
        show 3 + _ ≤ _
        omega
      · rw [List.length_append, zlen]
        show 3 + _ + 1 ≤ _
        omega
      · rw [List.length_append, List.length_append, zlen, zlen]
        show 3 + _ + 1 + _ ≤ _
        omega
      · refine congrArg PyData.list ?_
        show _ = (zs (i :: j :: p.length :: p ++ c.length :: c)).map PyData.int
        unfold zs
        simp
theorem sc_get_position : FnScope ["model", "numbers", "items"] ["model", "numbers", "items"] MwH.d_get_position.scope := ⟨rfl, rfl, rfl, by decide +kernel, rfl, by decide +kernel, by decide +kernel⟩
theorem ok_get_position (T : Txt K mg) : Has P w K mg base 1 "get_position" ["model", "numbers", "items"] (spQ K (QF 0 fun m _ _ => getPosition m)) := by
  refine has_sp (N := ["model", "numbers", "items"]) T 73 rfl rfl rfl rfl rfl sc_get_position (fun _ _ _ _ _ _ us hl => match us, hl with | [_, _, _], _ => rfl) (fun vs H Q E h => by obtain ⟨B, a, m, ws, ds, d, rfl, _, _, r, hF, _⟩ := h; obtain ⟨nums, items, rfl, rfl, hg, hk⟩ := hF; exact congrArg (· + 1) r.len) fun f cdv A outer s H E hr vs Q hq => ?_
  obtain ⟨B, am, m, ws, ds, dd, rfl, le, md, r, hF, q⟩ := hq
  obtain ⟨nums, items, rfl, rfl, hg, hk⟩ := hF
  try dsimp only at q
  obtain ⟨x_numbers, x_items, rfl, r_numbers, r_items⟩ := RpAll.n2 r
  refine ⟨_, (pss_one (ps_ret (pe_lst (pa_cons (pe_fldK (K := K) rfl (pv 0) rfl) (pa_cons (pe_callB (call_lenK (K := K) rfl) (by rfl) (T.free 131 rfl) (by decide +kernel) (pa_cons (pe_fldK (K := K) rfl (pv 0) rfl) pa_nil)) pa_nil))))), ?_⟩
  exact rq (.refl le) q (gv_lst (ga_int (ev_pos T md rfl) (ga_int (ev_lenM (f := dStep) (ga_cons (gv_steps T md rfl) ga_nil)) ga_nil)) (by show 2 ≤ 100000; omega))
def F_step_refusal (m : Model) (ds : List PyData) (d : PyData) : Prop := ∃ k c, ds = [dI k, dI c] ∧ d = dZ (stepRefusal m k c)
theorem sc_step_refusal : FnScope ["model", "matrix", "chance"] ["model", "matrix", "chance"] MwH.d_step_refusal.scope := ⟨rfl, rfl, rfl, by decide +kernel, rfl, by decide +kernel, by decide +kernel⟩
theorem ok_step_refusal (T : Txt K mg) : Has P w K mg base 1 "step_refusal" ["model", "matrix", "chance"] (spQ K F_step_refusal) := by
  refine has_sp (N := ["model", "matrix", "chance"]) T 74 rfl rfl rfl rfl rfl sc_step_refusal (fun _ _ _ _ _ _ us hl => match us, hl with | [_, _, _], _ => rfl) (fun vs H Q E h => by obtain ⟨B, a, m, ws, ds, d, rfl, _, _, r, hF, _⟩ := h; obtain ⟨k, c, rfl, rfl⟩ := hF; exact congrArg (· + 1) r.len) fun f cdv A outer s H E hr vs Q hq => ?_
  obtain ⟨B, am, m, ws, ds, dd, rfl, le, md, r, hF, q⟩ := hq
  obtain ⟨k, c, rfl, rfl⟩ := hF
  try dsimp only at q
  obtain ⟨x_matrix, x_chance, rfl, r_matrix, r_chance⟩ := RpAll.n2 r
  obtain ⟨t_NOTHING_queries, c_NOTHING_queries⟩ := T.int 112 (x := "NOTHING_queries") (z := (-2)) rfl
  obtain ⟨t_MAX_RANDOM, c_MAX_RANDOM⟩ := T.int 110 (x := "MAX_RANDOM") (z := (999)) rfl
  obtain ⟨t_OUT_OF_RANGE_queries, c_OUT_OF_RANGE_queries⟩ := T.int 113 (x := "OUT_OF_RANGE_queries") (z := (-22)) rfl
  refine ⟨_, (pss_cons (ps_if (pt_cmpR op_ge (pv 1) (pe_callB (call_lenK (K := K) rfl) (by rfl) (T.free 131 rfl) (by decide +kernel) (pa_cons (pe_fldK (K := K) rfl (pv 0) rfl) pa_nil)) (nomark _)) (pss_one (ps_ret (pe_lst (pa_cons (pe_glob (v := V.int (-2)) (by rfl) c_NOTHING_queries ⟨_, rfl⟩) pa_nil)))) pss_nil) (pss_one (ps_ret (pe_ifExp (pt_cmpR op_gt (pv 2) (pe_glob (v := V.int (999)) (by rfl) c_MAX_RANDOM ⟨_, rfl⟩) (nomark _)) (pe_lst (pa_cons (pe_glob (v := V.int (-22)) (by rfl) c_OUT_OF_RANGE_queries ⟨_, rfl⟩) pa_nil)) (pe_lst pa_nil))))), ?_⟩
  have e : stepRefusal m k c = if m.now.matrices.length ≤ k then [-2] else if 999 < c then [-22] else [] := rfl
  refine if_ret (b := decide (m.now.matrices.length ≤ k)) (.refl le) q (et_test (ev_ge (ev_v rfl r_matrix) (ev_lenM (f := dL) (ga_cons (gv_mats T md rfl) ga_nil)))) (fun hb => ?_) fun hb H1 a1 => ?_
  · rw [if_pos (of_decide_eq_true hb)] at e
    rw [e]
    exact gv_one
  · rw [if_neg (of_decide_eq_false hb)] at e
    refine rq a1 q (gv_if (b := decide (999 < c)) (et_test (ev_gt (ev_v rfl r_chance) (ev_n (a := 999)))) (fun hd => ?_) fun hd => ?_)
    · rw [if_pos (of_decide_eq_true hd)] at e
      rw [e]
      exact gv_one
    · rw [if_neg (of_decide_eq_false hd)] at e
      rw [e]
      exact gv_zero
theorem step_ok {m : Model} {k c : Nat} (h : stepRefusal m k c = []) : k < m.now.matrices.length ∧ c ≤ 999 := by
  unfold stepRefusal at h
  split at h
  · cases h
  · split at h
    · cases h
    · exact ⟨by omega, by omega⟩
def F_is_stuck (m : Model) (ds : List PyData) (d : PyData) : Prop := ∃ k, ds = [dI k] ∧ d = .bool (isStuck m k) ∧ Good m ∧ k < m.now.matrices.length
theorem sc_is_stuck : FnScope ["model", "matrix"] ["model", "matrix"] MwH.d_is_stuck.scope := ⟨rfl, rfl, rfl, by decide +kernel, rfl, by decide +kernel, by decide +kernel⟩
theorem ok_is_stuck (T : Txt K mg) : Has P w K mg base 2 "is_stuck" ["model", "matrix"] (spQ K F_is_stuck) := by
  refine has_sp (N := ["model", "matrix"]) T 75 rfl rfl rfl rfl rfl sc_is_stuck (fun _ _ _ _ _ _ us hl => match us, hl with | [_, _], _ => rfl) (fun vs H Q E h => by obtain ⟨B, a, m, ws, ds, d, rfl, _, _, r, hF, _⟩ := h; obtain ⟨k, rfl, rfl, hg, hk⟩ := hF; exact congrArg (· + 1) r.len) fun f cdv A outer s H E hr vs Q hq => ?_
  obtain ⟨B, am, m, ws, ds, dd, rfl, le, md, r, hF, q⟩ := hq
  obtain ⟨k, rfl, rfl, hg, hk⟩ := hF
  try dsimp only at q
  obtain ⟨x_matrix, rfl, r_matrix⟩ := RpAll.n1 r
  obtain ⟨f_row_sum, fd_row_sum, m_row_sum, k_row_sum, b_row_sum, G_row_sum⟩ := ok_row_sum (P := P) (w := w) (base := base) T
  refine ⟨_, (pss_one (ps_ret (pe_cmpR op_eq (pe_call G_row_sum (hr.mono (by decide)) (by rfl) m_row_sum k_row_sum b_row_sum .nil pass0 (pa_cons (pe_fldK (K := K) rfl (pv 0) rfl) (pa_cons (pe_ix (ix_listK (K := K) rfl) (pe_fldK (K := K) rfl (pv 0) rfl) (pv 1) (fun _ _ => rfl)) (pa_cons (pe_fldK (K := K) rfl (pv 0) rfl) pa_nil)))) pe_int (nomark _)))), ?_⟩
  exact rq (.refl le) q (Gv.is (.bl (ev_eq (gv_callI (ga_int (ev_size T md rfl) (ga_cons (gv_at [] (gv_mats T md rfl) (ev_v rfl r_matrix) hk) (ga_int (ev_pos T md rfl) ga_nil))) ⟨_, _, _, rfl, rfl, hg.sz, hg.now.pos, (hg.now.ms.get hk).len⟩) (ev_n (a := 0)))) rfl)
def F_next_position (m : Model) (ds : List PyData) (d : PyData) : Prop := ∃ k c, ds = [dI k, dI c] ∧ d = dI (nextPosition m k c) ∧ Good m ∧ k < m.now.matrices.length ∧ c ≤ 999
theorem sc_next_position : FnScope ["model", "matrix", "chance", "entries", "begin", "whole", "index"] ["model", "matrix", "chance"] MwH.d_next_position.scope := ⟨rfl, rfl, rfl, by decide +kernel, rfl, by decide +kernel, by decide +kernel⟩
theorem ok_next_position (T : Txt K mg) : Has P w K mg base 2 "next_position" ["model", "matrix", "chance"] (spQ K F_next_position) := by
  refine has_sp (N := ["model", "matrix", "chance", "entries", "begin", "whole", "index"]) T 76 rfl rfl rfl rfl rfl sc_next_position (fun _ _ _ _ _ _ us hl => match us, hl with | [_, _, _], _ => rfl) (fun vs H Q E h => by obtain ⟨B, a, m, ws, ds, d, rfl, _, _, r, hF, _⟩ := h; obtain ⟨k, c, rfl, rfl, hg, hk, hc⟩ := hF; exact congrArg (· + 1) r.len) fun f cdv A outer s H E hr vs Q hq => ?_
  obtain ⟨B, am, m, ws, ds, dd, rfl, le, md, r, hF, q⟩ := hq
  obtain ⟨k, c, rfl, rfl, hg, hk, hc⟩ := hF
  try dsimp only at q
  obtain ⟨x_matrix, x_chance, rfl, r_matrix, r_chance⟩ := RpAll.n2 r
  obtain ⟨f_row_sum, fd_row_sum, m_row_sum, k_row_sum, b_row_sum, G_row_sum⟩ := ok_row_sum (P := P) (w := w) (base := base) T
  obtain ⟨t_THOUSAND, c_THOUSAND⟩ := T.int 111 (x := "THOUSAND") (z := (1000)) rfl
  refine ⟨_, (pss_cons (ps_par (i := 3) (j := 4) rfl sc_next_position.nd rfl rfl (by decide) rfl rfl (pa_cons (pe_ix (ix_listK (K := K) rfl) (pe_fldK (K := K) rfl (pv 0) rfl) (pv 1) (fun _ _ => rfl)) (pa_cons (pe_op op_mul (pe_fldK (K := K) rfl (pv 0) rfl) (pe_fldK (K := K) rfl (pv 0) rfl)) pa_nil)) (by rfl)) (pss_cons (ps_set (i := 5) sc_next_position.nd rfl (Or.inl rfl) (pe_call G_row_sum (hr.mono (by decide)) (by rfl) m_row_sum k_row_sum b_row_sum .nil pass0 (pa_cons (pe_fldK (K := K) rfl (pv 0) rfl) (pa_cons (pv 3) (pa_cons (pe_fldK (K := K) rfl (pv 0) rfl) pa_nil))))) (pss_cons (ps_for PassesOwn.never rfl (pi_range1 (by rfl) (T.free 133 rfl) (pa_cons (pe_fldK (K := K) rfl (pv 0) rfl) pa_nil)) (pg_name (i := 6) sc_next_position.nd rfl (Or.inl rfl)) (pss_one (ps_if (pt_cmpR op_lt (pe_op op_mul (pv 2) (pv 5)) (pe_op op_mul (pe_glob (v := V.int (1000)) (by rfl) c_THOUSAND ⟨_, rfl⟩) (pe_callB (cr_sumK (K := K) rfl rfl) (by rfl) (T.free 132 rfl) (by decide +kernel) (pa_cons (pe_slice (sl_listK (K := K) rfl) (pv 3) (po_some (pv 4)) (po_some (pe_op op_add (pe_op op_add (pv 4) (pv 6)) pe_int))) pa_nil))) (nomark _)) (pss_one (ps_ret (pv 6))) pss_nil))) (pss_one (ps_ret (pe_fldK (K := K) rfl (pv 0) rfl)))))), ?_⟩
  have h3 := hg.sz.le
  have hpos := hg.now.pos
  have hmat := hg.now.ms.get hk
  have hend := row_end hpos
  have e : nextPosition m k c = ((List.range m.size).find? fun i => decide (c * rowSum m.size (m.now.matrices.getD k []) m.now.position < 1000 * (((m.now.matrices.getD k []).drop (m.now.position * m.size)).take (i + 1)).sum)).getD m.now.position := rfl
  refine qd_par (K := K) (d1 := dL (m.now.matrices.getD k [])) (d2 := dI (m.now.position * m.size)) le (ga_cons (gv_at [] (gv_mats T md rfl) (ev_v rfl r_matrix) hk) (ga_int (ev_mul (.inr (by omega)) (ev_pos T md rfl) (ev_size T md rfl)) ga_nil)) fun v1 v2 B1 H1 a1 r1 r2 => ?_
  have md1 := md.mono a1.base
  refine qd_asg (d := dI (rowSum m.size (m.now.matrices.getD k []) m.now.position)) a1.le (gv_call (ga_int (ev_size T md1 rfl) (ga_cons (gv_var rfl r1) (ga_int (ev_pos T md1 rfl) ga_nil))) ⟨_, _, _, rfl, rfl, hg.sz, hpos, hmat.len⟩) fun v3 B3 H3 a3 r3 => ?_
  have b3 := a1.trans a3
  have md3 := md1.mono a3.base
  have hlen := hmat.len
  generalize m.now.matrices.getD k [] = en at e r1 r3 hlen
  generalize hwh : rowSum m.size en m.now.position = whole at e r3
  generalize hbg : m.now.position * m.size = bg at e r2 hend
  refine qd_forR (n := m.size) b3.le (ea_cons (ev_size T md3 rfl) ea_nil) (by omega)
    (fun i σ' H' => (∃ v6, σ' = [some (.ref am), some x_matrix, some x_chance, some v1, some v2, some v3, v6]) ∧ Ex H3 H' ∧ ∀ j, j < i → decide (c * whole < 1000 * ((en.drop bg).take (j + 1)).sum) = false)
    (fun H4 e4 => ⟨⟨none, rfl⟩, e4, fun j hj => absurd hj (Nat.not_lt_zero j)⟩) ?_ ?_
  · rintro i σ' H' hi ⟨⟨v6, rfl⟩, e4, hno⟩
    have b4 := b3.ex e4
    have hi2 : bg + i + 1 ≤ en.length := by rw [hlen]; omega
    refine sd_if (b := decide (c * whole < 1000 * ((en.drop bg).take (i + 1)).sum)) b4.le (et_test (ev_lt (ev_mul (.inl (by omega)) (ev_v rfl (r_chance.mono b3.base)) (ev_v rfl r3)) (ev_mul (a := 1000) (.inl (by omega)) ev_n (ev_sum (l := (en.drop bg).take (i + 1)) (ga_cons (Gv.is (gv_sl (i := bg) (j := bg + i + 1) (gv_var rfl (r1.mono a3.base)) (eo_some (ev_v rfl (r2.mono a3.base))) (eo_some (ev_add (ev_add (ev_v rfl (r2.mono a3.base)) (ev_var rfl)) (ev_n (a := 1)))) (by rw [zlen]; exact sIx_nat _ _ _ (by omega)) (by rw [zlen]; exact sIx_nat _ _ _ hi2)) ?_) ga_nil))))) (fun hb H5 e5 => ?_) (fun hb H5 e5 => ?_)
    · rw [dL_cut, show bg + i + 1 - bg = i + 1 by omega]
      rfl
    · have en2 : nextPosition m k c = i := by
        rw [e, find_first (p := fun i => decide (c * whole < 1000 * ((en.drop bg).take (i + 1)).sum)) hi hb hno]
        rfl
      rw [en2] at q
      exact rq (K := K) (d := dI i) (b4.ex e5) q (.int (ev_var rfl))
    · refine ⟨⟨_, rfl⟩, e4.trans e5, fun j hj => ?_⟩
      rcases Nat.lt_succ_iff_lt_or_eq.mp hj with h | h
      · exact hno j h
      · rw [h]
        exact hb
  · rintro σ' H' ⟨⟨v6, rfl⟩, e4, hno⟩
    have en2 : nextPosition m k c = m.now.position := by
      rw [e, find_no (p := fun i => decide (c * whole < 1000 * ((en.drop bg).take (i + 1)).sum)) hno]
      rfl
    rw [en2] at q
    exact rq (K := K) (b3.ex e4) q (.int (ev_pos T md3 rfl))
theorem sc_preview_walk : FnScope ["model", "numbers", "items", "matrix", "chance", "refusal"] ["model", "numbers", "items"] MwH.d_preview_walk.scope := ⟨rfl, rfl, rfl, by decide +kernel, rfl, by decide +kernel, by decide +kernel⟩
theorem ok_preview_walk (T : Txt K mg) : Has P w K mg base 3 "preview_walk" ["model", "numbers", "items"] (spQ K (QF 2 fun m a _ => previewWalk m (a.getD 0 0) (a.getD 1 0))) := by
  refine has_sp (N := ["model", "numbers", "items", "matrix", "chance", "refusal"]) T 77 rfl rfl rfl rfl rfl sc_preview_walk (fun _ _ _ _ _ _ us hl => match us, hl with | [_, _, _], _ => rfl) (fun vs H Q E h => by obtain ⟨B, a, m, ws, ds, d, rfl, _, _, r, hF, _⟩ := h; obtain ⟨nums, items, rfl, rfl, hg, hk⟩ := hF; exact congrArg (· + 1) r.len) fun f cdv A outer s H E hr vs Q hq => ?_
  obtain ⟨B, am, m, ws, ds, dd, rfl, le, md, r, hF, q⟩ := hq
  obtain ⟨nums, items, rfl, rfl, hg, hk⟩ := hF
  try dsimp only at q
  obtain ⟨x_numbers, x_items, rfl, r_numbers, r_items⟩ := RpAll.n2 r
  obtain ⟨f_step_refusal, fd_step_refusal, m_step_refusal, k_step_refusal, b_step_refusal, G_step_refusal⟩ := ok_step_refusal (P := P) (w := w) (base := base) T
  obtain ⟨f_is_stuck, fd_is_stuck, m_is_stuck, k_is_stuck, b_is_stuck, G_is_stuck⟩ := ok_is_stuck (P := P) (w := w) (base := base) T
  obtain ⟨f_next_position, fd_next_position, m_next_position, k_next_position, b_next_position, G_next_position⟩ := ok_next_position (P := P) (w := w) (base := base) T
  obtain ⟨t_IMPOSSIBLE, c_IMPOSSIBLE⟩ := T.int 114 (x := "IMPOSSIBLE") (z := (-33)) rfl
  have hu := hu_of hr
  have hu64 := hr.units
  have hu65 := hu65_of hr
  refine ⟨_, (pss_cons (ps_par (i := 3) (j := 4) rfl sc_preview_walk.nd rfl rfl (by decide) rfl rfl (pa_cons (pe_ix (ix_listK (K := K) rfl) (pv 1) pe_int (fun _ _ => rfl)) (pa_cons (pe_ix (ix_listK (K := K) rfl) (pv 1) pe_int (fun _ _ => rfl)) pa_nil)) (by rfl)) (pss_cons (ps_set (i := 5) sc_preview_walk.nd rfl (Or.inl rfl) (pe_call G_step_refusal (hr.mono (by decide)) (by rfl) m_step_refusal k_step_refusal b_step_refusal .nil pass0 (pa_cons (pv 0) (pa_cons (pv 3) (pa_cons (pv 4) pa_nil))))) (pss_cons (ps_if (pt_cmpR (op_neDK (K := K) rfl hu64) (pv 5) (pe_lst pa_nil) (nomark _)) (pss_one (ps_ret (pv 5))) pss_nil) (pss_cons (ps_if (pt_val (pe_call G_is_stuck (hr.mono (by decide)) (by rfl) m_is_stuck k_is_stuck b_is_stuck .nil pass0 (pa_cons (pv 0) (pa_cons (pv 3) pa_nil)))) (pss_one (ps_ret (pe_lst (pa_cons (pe_glob (v := V.int (-33)) (by rfl) c_IMPOSSIBLE ⟨_, rfl⟩) pa_nil)))) pss_nil) (pss_one (ps_ret (pe_lst (pa_cons (pe_call G_next_position (hr.mono (by decide)) (by rfl) m_next_position k_next_position b_next_position .nil pass0 (pa_cons (pv 0) (pa_cons (pv 3) (pa_cons (pv 4) pa_nil)))) pa_nil)))))))), ?_⟩
  have e : previewWalk m (nums.getD 0 0) (nums.getD 1 0) = if stepRefusal m (nums.getD 0 0) (nums.getD 1 0) ≠ [] then stepRefusal m (nums.getD 0 0) (nums.getD 1 0) else if isStuck m (nums.getD 0 0) then [-33] else [(nextPosition m (nums.getD 0 0) (nums.getD 1 0) : Int)] := rfl
  have n0 := ev_num (K := K) (i := 0) (gv_var (i := 1) (σ := [some (.ref am), some x_numbers, some x_items, none, none, none]) rfl r_numbers) (hk.at (by omega))
  have n1 := ev_num (K := K) (i := 1) (gv_var (i := 1) (σ := [some (.ref am), some x_numbers, some x_items, none, none, none]) rfl r_numbers) (hk.at (by omega))
  refine qd_par (K := K) (d1 := dI (nums.getD 0 0)) (d2 := dI (nums.getD 1 0)) le (ga_int n0 (ga_int n1 ga_nil)) fun v1 v2 B1 H1 a1 r1 r2 => ?_
  generalize nums.getD 0 0 = x at e q r1
  generalize nums.getD 1 0 = y at e q r2
  refine qd_asg (d := dZ (stepRefusal m x y)) a1.le (gv_callQ (md.mono a1.base) rfl (ga_cons (gv_var rfl r1) (ga_cons (gv_var rfl r2) ga_nil)) ⟨x, y, rfl, rfl⟩) fun v3 B3 H3 a3 r3 => ?_
  have md3 := md.mono (a1.base.trans a3.base)
  refine if_ret (b := !((stepRefusal m x y).map PyData.int).isEmpty) (a1.trans a3) q (et_test (ev_neE (gv_var rfl r3) (shp_dZ _).ok)) (fun hb => ?_) fun hb H4 a4 => ?_
  · have hne : stepRefusal m x y ≠ [] := fun z => by
      rw [z] at hb
      cases hb
    rw [if_pos hne] at e
    rw [e]
    exact gv_var rfl r3
  · have hnil : stepRefusal m x y = [] := by simpa using hb
    rw [if_neg (fun z => z hnil)] at e
    obtain ⟨hx, hy⟩ := step_ok hnil
    refine if_ret (b := isStuck m x) a4 q (et_test (gv_callQB md3 rfl (ga_cons (gv_var rfl (r1.mono a3.base)) ga_nil) ⟨x, rfl, rfl, hg, hx⟩)) (fun hb => ?_) fun hb H5 a5 => ?_
    · rw [if_pos hb] at e
      rw [e]
      exact gv_one
    · rw [hb, if_neg (by decide)] at e
      rw [e] at q
      exact rq a5 q (gv_oneE (gv_callQ md3 rfl (ga_cons (gv_var rfl (r1.mono a3.base)) (ga_cons (gv_var rfl (r2.mono a3.base)) ga_nil)) ⟨x, y, rfl, rfl, hg, hx, hy⟩).toInt)
theorem sc_get_log_entry : FnScope ["model", "numbers", "items", "matrix", "before", "after"] ["model", "numbers", "items"] MwH.d_get_log_entry.scope := ⟨rfl, rfl, rfl, by decide +kernel, rfl, by decide +kernel, by decide +kernel⟩
theorem ok_get_log_entry (T : Txt K mg) : Has P w K mg base 1 "get_log_entry" ["model", "numbers", "items"] (spQ K (QF 1 fun m a _ => getLogEntry m (a.getD 0 0))) := by
  refine has_sp (N := ["model", "numbers", "items", "matrix", "before", "after"]) T 78 rfl rfl rfl rfl rfl sc_get_log_entry (fun _ _ _ _ _ _ us hl => match us, hl with | [_, _, _], _ => rfl) (fun vs H Q E h => by obtain ⟨B, a, m, ws, ds, d, rfl, _, _, r, hF, _⟩ := h; obtain ⟨nums, items, rfl, rfl, hg, hk⟩ := hF; exact congrArg (· + 1) r.len) fun f cdv A outer s H E hr vs Q hq => ?_
  obtain ⟨B, am, m, ws, ds, dd, rfl, le, md, r, hF, q⟩ := hq
  obtain ⟨nums, items, rfl, rfl, hg, hk⟩ := hF
  try dsimp only at q
  obtain ⟨x_numbers, x_items, rfl, r_numbers, r_items⟩ := RpAll.n2 r
  obtain ⟨t_NOTHING_queries, c_NOTHING_queries⟩ := T.int 112 (x := "NOTHING_queries") (z := (-2)) rfl
  refine ⟨_, (pss_cons (ps_if (pt_cmpR op_ge (pe_ix (ix_listK (K := K) rfl) (pv 1) pe_int (fun _ _ => rfl)) (pe_callB (call_lenK (K := K) rfl) (by rfl) (T.free 131 rfl) (by decide +kernel) (pa_cons (pe_fldK (K := K) rfl (pv 0) rfl) pa_nil)) (nomark _)) (pss_one (ps_ret (pe_lst (pa_cons (pe_glob (v := V.int (-2)) (by rfl) c_NOTHING_queries ⟨_, rfl⟩) pa_nil)))) pss_nil) (pss_cons (ps_asg (pe_ix (ix_listK (K := K) rfl) (pe_fldK (K := K) rfl (pv 0) rfl) (pe_ix (ix_listK (K := K) rfl) (pv 1) pe_int (fun _ _ => rfl)) (fun _ _ => rfl)) (pg_tupK (K := K) (n := 3) rfl rfl (pgs_cons (pg_name (i := 3) sc_get_log_entry.nd rfl (Or.inl rfl)) (pgs_cons (pg_name (i := 4) sc_get_log_entry.nd rfl (Or.inl rfl)) (pgs_cons (pg_name (i := 5) sc_get_log_entry.nd rfl (Or.inl rfl)) pgs_nil))))) (pss_one (ps_ret (pe_lst (pa_cons (pv 3) (pa_cons (pv 4) (pa_cons (pv 5) pa_nil)))))))), ?_⟩
  have n0 := ev_num (K := K) (i := 0) (gv_var (i := 1) (σ := [some (.ref am), some x_numbers, some x_items, none, none, none]) rfl r_numbers) (hk.at (by omega))
  have e : getLogEntry m (nums.getD 0 0) = match m.now.steps[nums.getD 0 0]? with
    | none => [-2]
    | some s => zs [s.1, s.2.1, s.2.2] := rfl
  generalize nums.getD 0 0 = x at e q n0
  refine if_ret (b := decide (m.now.steps.length ≤ x)) (.refl le) q (et_test (ev_ge n0 (ev_lenM (f := dStep) (ga_cons (gv_steps T md rfl) ga_nil)))) (fun hb => ?_) fun hb H1 a1 => ?_
  · rw [List.getElem?_eq_none (of_decide_eq_true hb)] at e
    rw [e]
    exact gv_one
  · have hx : x < m.now.steps.length := by
      have := of_decide_eq_false hb
      omega
    rw [List.getElem?_eq_getElem hx, ← getD_of_lt (d := (0, 0, 0)) hx] at e
    have hst := gv_at (f := dStep) (0, 0, 0) (gv_steps T md (i := 0) rfl) n0 hx
    generalize m.now.steps.getD x (0, 0, 0) = st at e hst
    rw [e] at q
    refine qd_three (d1 := dI st.1) (d2 := dI st.2.1) (d3 := dI st.2.2) a1.le hst fun v1 v2 v3 B2 H2 a2 r1 r2 r3 => ?_
    exact rq (a1.trans a2) q (gv_lst (ga_cons (gv_var rfl r1) (ga_cons (gv_var rfl r2) (ga_cons (gv_var rfl r3) ga_nil))) (by show 3 ≤ 100000; omega))
theorem sc_get_state : FnScope ["model", "numbers", "items"] ["model", "numbers", "items"] MwH.d_get_state.scope := ⟨rfl, rfl, rfl, by decide +kernel, rfl, by decide +kernel, by decide +kernel⟩
theorem ok_get_state (T : Txt K mg) : Has P w K mg base 1 "get_state" ["model", "numbers", "items"] (spQ K (QF 0 fun m _ _ => getState m)) := by
  refine has_sp (N := ["model", "numbers", "items"]) T 79 rfl rfl rfl rfl rfl sc_get_state (fun _ _ _ _ _ _ us hl => match us, hl with | [_, _, _], _ => rfl) (fun vs H Q E h => by obtain ⟨B, a, m, ws, ds, d, rfl, _, _, r, hF, _⟩ := h; obtain ⟨nums, items, rfl, rfl, hg, hk⟩ := hF; exact congrArg (· + 1) r.len) fun f cdv A outer s H E hr vs Q hq => ?_
  obtain ⟨B, am, m, ws, ds, dd, rfl, le, md, r, hF, q⟩ := hq
  obtain ⟨nums, items, rfl, rfl, hg, hk⟩ := hF
  try dsimp only at q
  obtain ⟨x_numbers, x_items, rfl, r_numbers, r_items⟩ := RpAll.n2 r
  refine ⟨_, (pss_one (ps_ret (pe_lst (pa_cons (pe_fldK (K := K) rfl (pv 0) rfl) (pa_cons (pe_callB (call_lenK (K := K) rfl) (by rfl) (T.free 131 rfl) (by decide +kernel) (pa_cons (pe_fldK (K := K) rfl (pv 0) rfl) pa_nil)) (pa_cons (pe_callB (call_lenK (K := K) rfl) (by rfl) (T.free 131 rfl) (by decide +kernel) (pa_cons (pe_fldK (K := K) rfl (pv 0) rfl) pa_nil)) (pa_cons (pe_callB (call_lenK (K := K) rfl) (by rfl) (T.free 131 rfl) (by decide +kernel) (pa_cons (pe_fldK (K := K) rfl (pv 0) rfl) pa_nil)) pa_nil))))))), ?_⟩
  exact rq (.refl le) q (gv_lst (ga_int (ev_size T md rfl) (ga_int (ev_lenM (f := dL) (ga_cons (gv_mats T md rfl) ga_nil)) (ga_int (ev_lenM (f := dPair) (ga_cons (gv_gs T md rfl) ga_nil)) (ga_int (ev_lenM (f := dPast) (ga_cons (gv_hist T md rfl) ga_nil)) ga_nil)))) (by show 4 ≤ 100000; omega))
end
end Mw
end
section
set_option Elab.async false
set_option linter.all false
set_option maxRecDepth 100000
set_option maxHeartbeats 4000000
/-! # Walks: the methods of a model -/
namespace Mw
open PySem PySem.Spec PyProof.Rows L2 Evl
theorem sIx_neg (n d k : Nat) (hk : 0 < k) : HT.sIx n d (some (-(k : Int))) = n - k := by
  have h := HT.clip_eq (-(k : Int)) n d
  rw [if_pos (by omega)] at h
  omega
/-- the model once it has remembered -/
def Model.rem (m : Model) : Model := ⟨m.size, m.now, lastTen (m.history ++ [m.now])⟩
section
variable {P : Program} {w : World} {K : Frg} {mg : Str → Option Value} {base : Heap}
theorem mfs_len {n : Nat} {vm vg : V} {p : Nat} {vs vh : V} : (mfs n vm vg p vs vh).length < 1000 := by
  show 6 < 1000
  omega
section
variable {σ : L2.St} {B0 H0 B H : Hp} {tv te : TE} {D : Ends} {d : PyData} {C dx x a : Addr} {fs : List (Str × V)} {f : Str} {i : Nat}
/-- x.f = v, x a new instance beside the base -/
theorem sd_fldN (b : At B0 H0 B H) (h0 : H0 x = none) (hB : B x = none) (hx : H x = some (.ins C dx fs)) (hl : fs.length < 1000) (c : Cls K C) (n : NoAttr K C f) (hs : σ[i]? = some (some (.ref x))) (hv : Gv K tv σ B d)
    (k : ∀ v B' H', At B0 H0 B' H' → Ex B B' → B' x = none → Rp K B' v d → H' x = some (.ins C dx (putF f v fs)) → D.nx σ H') : sFld K (tVar i) tv f D σ H := hv H b.le _ fun v B1 H1 a1 r1 => by
  have n1 := a1.off hB hx (fun _ q => by cases q)
  exact ⟨.ref x, hs, x, C, dx, fs, rfl, a1.keep _ _ hx, c, n, hl, k v B1 _ ((b.trans a1).mut n1 h0) a1.base n1 r1 upd_same⟩
/-- a.f = v, a an instance of the base -/
theorem sd_fldI (b : AtP a B0 H0 B H) (hB : B a = some (.ins C dx fs)) (hl : fs.length < 1000) (c : Cls K C) (n : NoAttr K C f) (hs : σ[i]? = some (some (.ref a))) (hv : Gv K tv σ B d)
    (k : ∀ v B' H', AtP a B0 H0 B' H' → Still B B' → B' a = some (.ins C dx (putF f v fs)) → Rp K B' v d → D.nx σ H') : sFld K (tVar i) tv f D σ H := hv H b.le _ fun v B1 H1 a1 r1 => by
  have e1 := a1.base _ _ hB
  exact ⟨.ref a, hs, a, C, dx, fs, rfl, a1.keep _ _ (b.le _ _ hB), c, n, hl, k v (upd B1 a (.ins C dx (putF f v fs))) _ ((b.at a1).put e1) ((Still.of a1.base).trans (still_put e1)) upd_same (r1.still (still_put e1))⟩
/-- the same as a target -/
theorem g_fld {v : V} {Q : L2.St → Hp → Prop} (b : AtP a B0 H0 B H) (hB : B a = some (.ins C dx fs)) (hl : fs.length < 1000) (c : Cls K C) (n : NoAttr K C f) (hs : σ[i]? = some (some (.ref a))) (r : Rp K B v d)
    (k : ∀ B' H', AtP a B0 H0 B' H' → Still B B' → B' a = some (.ins C dx (putF f v fs)) → Rp K B' v d → Q σ H') : gFld K (tVar i) f v σ H Q :=
  ⟨.ref a, hs, a, C, dx, fs, rfl, b.le _ _ hB, c, n, hl, k (upd B a (.ins C dx (putF f v fs))) _ (b.put hB) (still_put hB) upd_same (r.still (still_put hB))⟩
end
section
variable {B B1 : Hp} {a : Addr} {m : Model} {dx : Addr} {vm vg vs vh v : V}
theorem MdAt.mats (h : MdAt K B a m dx vm vg vs vh) (s : Still B B1) (e : B1 a = some (.ins (CM K) dx (putF "matrices" v (mfs m.size vm vg m.now.position vs vh)))) {ms : List (List Nat)} (r : Rp K B1 v (dM ms)) : MdAt K B1 a { m with now := { m.now with matrices := ms } } dx v vg vs vh :=
  ⟨e, r, h.rg.still s, h.rs.still s, h.rh.still s⟩
theorem MdAt.gs (h : MdAt K B a m dx vm vg vs vh) (s : Still B B1) (e : B1 a = some (.ins (CM K) dx (putF "guarantees" v (mfs m.size vm vg m.now.position vs vh)))) {gs : List (Nat × Nat)} (r : Rp K B1 v (dPairs gs)) : MdAt K B1 a { m with now := { m.now with guarantees := gs } } dx vm v vs vh :=
  ⟨e, h.rm.still s, r, h.rs.still s, h.rh.still s⟩
theorem MdAt.pos (h : MdAt K B a m dx vm vg vs vh) (s : Still B B1) (e : B1 a = some (.ins (CM K) dx (putF "position" v (mfs m.size vm vg m.now.position vs vh)))) {p : Nat} (r : Rp K B1 v (dI p)) : MdAt K B1 a { m with now := { m.now with position := p } } dx vm vg vs vh := by
  rw [r.isInt] at e
  exact ⟨e, h.rm.still s, h.rg.still s, h.rs.still s, h.rh.still s⟩
theorem MdAt.steps (h : MdAt K B a m dx vm vg vs vh) (s : Still B B1) (e : B1 a = some (.ins (CM K) dx (putF "steps" v (mfs m.size vm vg m.now.position vs vh)))) {l : List (Nat × Nat × Nat)} (r : Rp K B1 v (dSteps l)) : MdAt K B1 a { m with now := { m.now with steps := l } } dx vm vg v vh :=
  ⟨e, h.rm.still s, h.rg.still s, r, h.rh.still s⟩
theorem MdAt.hist (h : MdAt K B a m dx vm vg vs vh) (s : Still B B1) (e : B1 a = some (.ins (CM K) dx (putF "history" v (mfs m.size vm vg m.now.position vs vh)))) {l : List Past} (r : Rp K B1 v (dHist l)) : MdAt K B1 a { m with history := l } dx vm vg vs v :=
  ⟨e, h.rm.still s, h.rg.still s, h.rs.still s, r⟩
end
/-- Model.__init__ -/
def spMI (K : Frg) : Sp := fun ws H Q _ => ∃ B H0 x dx, ∃ n : Nat, ws = [.ref x, .int (n : Int)] ∧ H0 x = none ∧ Ex H0 H ∧ Ex B H0 ∧ H x = some (.ins (CM K) dx []) ∧ ∀ B' H', At B H0 B' H' → MdIn K B' x (fresh n) → Q .non H'
theorem sc_Model_init : FnScope ["self", "size"] ["self", "size"] MwH.d_Model_init.scope := ⟨rfl, rfl, rfl, by decide +kernel, rfl, by decide +kernel, by decide +kernel⟩
theorem ok_Model_init (T : Txt K mg) : HasM P w K mg base 1 "Model" "__init__" ["self", "size"] (spMI K) := by
  refine has_meth (N := ["self", "size"]) T 96 rfl rfl rfl rfl sc_Model_init (fun _ _ _ _ _ _ us hl => match us, hl with | [_, _], _ => rfl) (fun vs H Q E h => by obtain ⟨B, H0, x, dx, n, rfl, _⟩ := h; rfl) fun f cdv A outer s H E hr vs Q hq => ?_
  obtain ⟨B, H0, x, dx, n, rfl, h0, e0, le, hx, q⟩ := hq
  refine ⟨_, (pss_cons (ps_fldK (K := K) rfl (pv 0) (pv 1) rfl) (pss_cons (ps_fldK (K := K) rfl (pv 0) (pe_lst pa_nil) rfl) (pss_cons (ps_fldK (K := K) rfl (pv 0) (pe_lst pa_nil) rfl) (pss_cons (ps_fldK (K := K) rfl (pv 0) pe_int rfl) (pss_cons (ps_fldK (K := K) rfl (pv 0) (pe_lst pa_nil) rfl) (pss_one (ps_fldK (K := K) rfl (pv 0) (pe_lst pa_nil) rfl))))))), ?_⟩
  have a0 : At B H0 B H := .up le e0
  have C := T.cls 141 rfl (x := "Model")
  refine sd_fldN (d := dI n) a0 h0 (fresh_back le h0) hx (show 0 < 1000 by omega) C (T.noat 143 rfl) rfl (gv_var rfl (.int _)) fun v1 B1 H1 a1 e1 n1 r1 hx => ?_
  obtain rfl := r1.isInt
  refine sd_fldN (d := dM []) a1 h0 n1 hx (show 1 < 1000 by omega) C (T.noat 144 rfl) rfl (gv_lst ga_nil (Nat.zero_le _)) fun v2 B2 H2 a2 e2 n2 r2 hx => ?_
  refine sd_fldN (d := dPairs []) a2 h0 n2 hx (show 2 < 1000 by omega) C (T.noat 145 rfl) rfl (gv_lst ga_nil (Nat.zero_le _)) fun v3 B3 H3 a3 e3 n3 r3 hx => ?_
  refine sd_fldN (d := dI 0) a3 h0 n3 hx (show 3 < 1000 by omega) C (T.noat 146 rfl) rfl (.int ev_c) fun v4 B4 H4 a4 e4 n4 r4 hx => ?_
  obtain rfl := r4.isInt
  refine sd_fldN (d := dSteps []) a4 h0 n4 hx (show 4 < 1000 by omega) C (T.noat 147 rfl) rfl (gv_lst ga_nil (Nat.zero_le _)) fun v5 B5 H5 a5 e5 n5 r5 hx => ?_
  refine sd_fldN (d := dHist []) a5 h0 n5 hx (show 5 < 1000 by omega) C (T.noat 148 rfl) rfl (gv_lst ga_nil (Nat.zero_le _)) fun v6 B6 H6 a6 e6 n6 r6 hx => ?_
  have en : Ex B6 (upd B6 x (.ins (CM K) dx (mfs n v2 v3 0 v5 v6))) := Ex.new n6
  exact q _ _ (a6.freeze n6 h0 hx) ⟨dx, v2, v3, v5, v6, upd_same, (((r2.mono e3).mono (e4.trans e5)).mono e6).mono en, ((r3.mono (e4.trans e5)).mono e6).mono en, (r5.mono e6).mono en, r6.mono en⟩
/-- remember -/
def spRem (K : Frg) : Sp := fun ws H Q _ => ∃ B a m, ws = [.ref a] ∧ Ex B H ∧ MdIn K B a m ∧ m.history.length ≤ 10 ∧ ∀ B' H', AtP a B H B' H' → MdIn K B' a m.rem → Q .non H'
theorem last_ten (l : List Past) : ((l.map dPast).drop ((l.map dPast).length - 10)).take ((l.map dPast).length - ((l.map dPast).length - 10)) = (lastTen l).map dPast := by
  rw [List.take_of_length_le (by rw [List.length_drop]; exact Nat.le_refl _), List.length_map, ← List.map_drop]
  rfl
theorem sc_Model_remember : FnScope ["self", "state"] ["self"] MwH.d_Model_remember.scope := ⟨rfl, rfl, rfl, by decide +kernel, rfl, by decide +kernel, by decide +kernel⟩
theorem ok_Model_remember (T : Txt K mg) : HasM P w K mg base 1 "Model" "remember" ["self"] (spRem K) := by
  refine has_meth (N := ["self", "state"]) T 97 rfl rfl rfl rfl sc_Model_remember (fun _ _ _ _ _ _ us hl => match us, hl with | [_], _ => rfl) (fun vs H Q E h => by obtain ⟨B, a, m, rfl, _⟩ := h; rfl) fun f cdv A outer s H E hr vs Q hq => ?_
  obtain ⟨B, a, m, rfl, le, md, hl, q⟩ := hq
  obtain ⟨t_MAX_HISTORY, c_MAX_HISTORY⟩ := T.int 106 (x := "MAX_HISTORY") (z := (10)) rfl
  refine ⟨_, (pss_cons (ps_set (i := 1) sc_Model_remember.nd rfl (Or.inl rfl) (pe_tup (pa_cons (pe_fldK (K := K) rfl (pv 0) rfl) (pa_cons (pe_fldK (K := K) rfl (pv 0) rfl) (pa_cons (pe_fldK (K := K) rfl (pv 0) rfl) (pa_cons (pe_fldK (K := K) rfl (pv 0) rfl) pa_nil)))))) (pss_one (ps_fldK (K := K) rfl (pv 0) (pe_slice (sl_listK (K := K) rfl) (pe_op op_cat (pe_fldK (K := K) rfl (pv 0) rfl) (pe_lst (pa_cons (pv 1) pa_nil))) (po_some (pe_un un_neg (pe_glob (v := V.int (10)) (by rfl) c_MAX_HISTORY ⟨_, rfl⟩))) po_none) rfl))), ?_⟩
  refine qd_asg (d := dPast m.now) le (gv_tup (ga_cons (gv_mats T md rfl) (ga_cons (gv_gs T md rfl) (ga_int (ev_pos T md rfl) (ga_cons (gv_steps T md rfl) ga_nil)))) (by show 4 ≤ 100000; omega)) fun v1 B1 H1 a1 r1 => ?_
  have md1 := md.mono a1.base
  have gh : Gv K (tSl (rSlL K) (tOp rCat (tFld K (tVar 0) "history") (tLst (tCons (tVar 1) tNil))) (tPart (tUn (rU fun i => .int (-i)) (tC (.int 10)))) tNoPart) [some (.ref a), some v1] B1 (dHist (lastTen (m.history ++ [m.now]))) := by
    refine Gv.is (gv_sl (i := ((m.history ++ [m.now]).map dPast).length - 10) (j := ((m.history ++ [m.now]).map dPast).length) (Gv.is (gv_cat (gv_hist T md1 rfl) (gv_lst (ga_cons (gv_var rfl r1) ga_nil) (by show 1 ≤ 100000; omega)) ?_) ?_) (eo_some (ev_un ev_c ru_neg)) eo_none ?_ rfl) (congrArg PyData.list (last_ten _))
    · rw [List.length_map]
      show _ + 1 ≤ _
      omega
    · rw [List.map_append]
      rfl
    · exact sIx_neg _ _ 10 (by decide)
  obtain ⟨dx, vm, vg, vs, vh, h⟩ := md1
  exact sd_fldI (.at (.refl le) a1) h.ins mfs_len (T.cls 141 rfl) (T.noat 148 rfl) rfl gh fun v B2 H2 a2 s e r => q B2 H2 a2 ⟨dx, vm, vg, vs, v, h.hist s e r⟩
/-- self.remember() -/
theorem call_rem {σ : L2.St} {B0 H0 B H : Hp} {a : Addr} {m : Model} {i : Nat} {D : Ends} {tz : TS} {E : XK} (b : AtP a B0 H0 B H) (md : MdIn K B a m) (hl : m.history.length ≤ 10) (hs : σ[i]? = some (some (.ref a)))
    (k : ∀ B' H', AtP a B0 H0 B' H' → Still B B' → MdIn K B' a m.rem → tz D σ H') : tSeq (tDrop (tMeth (CM K) "remember" (spRem K) [] E (tVar i) tNil)) tz D σ H := by
  obtain ⟨dx, vm, vg, vs, vh, h⟩ := md
  exact ⟨.ref a, hs, a, dx, _, rfl, b.le _ _ h.ins, rfl, B, a, m, rfl, b.le, ⟨dx, vm, vg, vs, vh, h⟩, hl, fun B' H' a' md' => k B' H' (b.trans a') a'.base md'⟩
def spTM (K : Frg) : Sp := fun ws H Q _ => ∃ B a m v ms, ws = [.ref a, v] ∧ Ex B H ∧ MdIn K B a m ∧ m.history.length ≤ 10 ∧ Rp K B v (dM ms) ∧ ∀ B' H', AtP a B H B' H' → MdIn K B' a (m.take { m.now with matrices := ms }) → Q .non H'
theorem sc_Model_take_matrices : FnScope ["self", "matrices"] ["self", "matrices"] MwH.d_Model_take_matrices.scope := ⟨rfl, rfl, rfl, by decide +kernel, rfl, by decide +kernel, by decide +kernel⟩
theorem ok_Model_take_matrices (T : Txt K mg) : HasM P w K mg base 2 "Model" "take_matrices" ["self", "matrices"] (spTM K) := by
  refine has_meth (N := ["self", "matrices"]) T 98 rfl rfl rfl rfl sc_Model_take_matrices (fun _ _ _ _ _ _ us hl => match us, hl with | [_, _], _ => rfl) (fun vs H Q E h => by obtain ⟨B, a, m, v, ms, rfl, _⟩ := h; rfl) fun f cdv A outer s H E hr vs Q hq => ?_
  obtain ⟨B, a, m, v, ms, rfl, le, md, hl, rv, q⟩ := hq
  obtain ⟨fdm_remember, bm_remember, Gm_remember⟩ := ok_Model_remember (P := P) (w := w) (base := base) T
  have Me_remember := T.meth 149 (x := "Model") (m := "remember") rfl
  refine ⟨_, (pss_cons (ps_expr (pe_meth0 (pv 0) (T.cls 141 (x := "Model") rfl) Me_remember Gm_remember (hr.mono (by decide)) bm_remember .nil pass0)) (pss_one (ps_fldK (K := K) rfl (pv 0) (pv 1) rfl))), ?_⟩
  refine call_rem (.refl le) md hl rfl fun B1 H1 a1 s1 md1 => ?_
  obtain ⟨dx, vm, vg, vs, vh, h⟩ := md1
  exact sd_fldI a1 h.ins mfs_len (T.cls 141 rfl) (T.noat 144 rfl) rfl (gv_var rfl (rv.still s1)) fun v2 B2 H2 a2 s e r => q B2 H2 a2 ⟨dx, _, _, _, _, h.mats s e r⟩
def spTG (K : Frg) : Sp := fun ws H Q _ => ∃ B a m v gs, ws = [.ref a, v] ∧ Ex B H ∧ MdIn K B a m ∧ m.history.length ≤ 10 ∧ Rp K B v (dPairs gs) ∧ ∀ B' H', AtP a B H B' H' → MdIn K B' a (m.take { m.now with guarantees := gs }) → Q .non H'
theorem sc_Model_take_guarantees : FnScope ["self", "guarantees"] ["self", "guarantees"] MwH.d_Model_take_guarantees.scope := ⟨rfl, rfl, rfl, by decide +kernel, rfl, by decide +kernel, by decide +kernel⟩
theorem ok_Model_take_guarantees (T : Txt K mg) : HasM P w K mg base 2 "Model" "take_guarantees" ["self", "guarantees"] (spTG K) := by
  refine has_meth (N := ["self", "guarantees"]) T 99 rfl rfl rfl rfl sc_Model_take_guarantees (fun _ _ _ _ _ _ us hl => match us, hl with | [_, _], _ => rfl) (fun vs H Q E h => by obtain ⟨B, a, m, v, ms, rfl, _⟩ := h; rfl) fun f cdv A outer s H E hr vs Q hq => ?_
  obtain ⟨B, a, m, v, ms, rfl, le, md, hl, rv, q⟩ := hq
  obtain ⟨fdm_remember, bm_remember, Gm_remember⟩ := ok_Model_remember (P := P) (w := w) (base := base) T
  have Me_remember := T.meth 149 (x := "Model") (m := "remember") rfl
  refine ⟨_, (pss_cons (ps_expr (pe_meth0 (pv 0) (T.cls 141 (x := "Model") rfl) Me_remember Gm_remember (hr.mono (by decide)) bm_remember .nil pass0)) (pss_one (ps_fldK (K := K) rfl (pv 0) (pv 1) rfl))), ?_⟩
  refine call_rem (.refl le) md hl rfl fun B1 H1 a1 s1 md1 => ?_
  obtain ⟨dx, vm, vg, vs, vh, h⟩ := md1
  exact sd_fldI a1 h.ins mfs_len (T.cls 141 rfl) (T.noat 145 rfl) rfl (gv_var rfl (rv.still s1)) fun v2 B2 H2 a2 s e r => q B2 H2 a2 ⟨dx, _, _, _, _, h.gs s e r⟩
def spTW (K : Frg) : Sp := fun ws H Q _ => ∃ B a m v u p l, ws = [.ref a, v, u] ∧ Ex B H ∧ MdIn K B a m ∧ m.history.length ≤ 10 ∧ Rp K B v (dI p) ∧ Rp K B u (dSteps l) ∧ ∀ B' H', AtP a B H B' H' → MdIn K B' a (m.take { m.now with position := p, steps := l }) → Q .non H'
theorem sc_Model_take_walk : FnScope ["self", "position", "steps"] ["self", "position", "steps"] MwH.d_Model_take_walk.scope := ⟨rfl, rfl, rfl, by decide +kernel, rfl, by decide +kernel, by decide +kernel⟩
theorem ok_Model_take_walk (T : Txt K mg) : HasM P w K mg base 2 "Model" "take_walk" ["self", "position", "steps"] (spTW K) := by
  refine has_meth (N := ["self", "position", "steps"]) T 100 rfl rfl rfl rfl sc_Model_take_walk (fun _ _ _ _ _ _ us hl => match us, hl with | [_, _, _], _ => rfl) (fun vs H Q E h => by obtain ⟨B, a, m, v, u, p, l, rfl, _⟩ := h; rfl) fun f cdv A outer s H E hr vs Q hq => ?_
  obtain ⟨B, a, m, v, u, p, l, rfl, le, md, hl, rv, ru, q⟩ := hq
  obtain ⟨fdm_remember, bm_remember, Gm_remember⟩ := ok_Model_remember (P := P) (w := w) (base := base) T
  have Me_remember := T.meth 149 (x := "Model") (m := "remember") rfl
  refine ⟨_, (pss_cons (ps_expr (pe_meth0 (pv 0) (T.cls 141 (x := "Model") rfl) Me_remember Gm_remember (hr.mono (by decide)) bm_remember .nil pass0)) (pss_cons (ps_fldK (K := K) rfl (pv 0) (pv 1) rfl) (pss_one (ps_fldK (K := K) rfl (pv 0) (pv 2) rfl)))), ?_⟩
  refine call_rem (.refl le) md hl rfl fun B1 H1 a1 s1 md1 => ?_
  obtain ⟨dx, vm, vg, vs, vh, h⟩ := md1
  refine sd_fldI a1 h.ins mfs_len (T.cls 141 rfl) (T.noat 146 rfl) rfl (gv_var rfl (rv.still s1)) fun v2 B2 H2 a2 s2 e2 r2 => ?_
  have h2 := h.pos s2 e2 r2
  exact sd_fldI a2 h2.ins mfs_len (T.cls 141 rfl) (T.noat 147 rfl) rfl (gv_var rfl ((ru.still s1).still s2)) fun v3 B3 H3 a3 s e r => q B3 H3 a3 ⟨dx, _, _, _, _, h2.steps s e r⟩
def spBack (K : Frg) : Sp := fun ws H Q _ => ∃ B a m, ws = [.ref a] ∧ Ex B H ∧ MdIn K B a m ∧ m.history ≠ [] ∧ ∀ B' H', AtP a B H B' H' → MdIn K B' a m.back → Q .non H'
theorem sc_Model_go_back : FnScope ["self"] ["self"] MwH.d_Model_go_back.scope := ⟨rfl, rfl, rfl, by decide +kernel, rfl, by decide +kernel, by decide +kernel⟩
theorem ok_Model_go_back (T : Txt K mg) : HasM P w K mg base 1 "Model" "go_back" ["self"] (spBack K) := by
  refine has_meth (N := ["self"]) T 101 rfl rfl rfl rfl sc_Model_go_back (fun _ _ _ _ _ _ us hl => match us, hl with | [_], _ => rfl) (fun vs H Q E h => by obtain ⟨B, a, m, rfl, _⟩ := h; rfl) fun f cdv A outer s H E hr vs Q hq => ?_
  obtain ⟨B, a, m, rfl, le, md, hne, q⟩ := hq
  refine ⟨_, (pss_cons (ps_asg (pe_ix (ix_listK (K := K) rfl) (pe_fldK (K := K) rfl (pv 0) rfl) (pe_un un_neg pe_int) (fun _ _ => rfl)) (pg_tupK (K := K) (n := 4) rfl rfl (pgs_cons (pg_fld (K := K) rfl (pv 0)) (pgs_cons (pg_fld (K := K) rfl (pv 0)) (pgs_cons (pg_fld (K := K) rfl (pv 0)) (pgs_cons (pg_fld (K := K) rfl (pv 0)) pgs_nil)))))) (pss_one (ps_fldK (K := K) rfl (pv 0) (pe_slice (sl_listK (K := K) rfl) (pe_fldK (K := K) rfl (pv 0) rfl) po_none (po_some (pe_un un_neg pe_int))) rfl))), ?_⟩
  have hlast : (m.history.map dPast)[(m.history.map dPast).length - 1]? = some (dPast (m.history.getLast?.getD m.now)) := by
    rw [List.length_map, List.getElem?_map, ← List.getLast?_eq_getElem?, List.getLast?_eq_some_getLast hne]
    rfl
  refine (gv_last (gv_hist T md rfl) hlast) H le _ fun v B1 H1 a1 r1 => ?_
  generalize hp : m.history.getLast?.getD m.now = p at r1
  obtain ⟨t, xs, rfl, ht, rt⟩ := r1.isTup
  obtain ⟨x1, x2, x3, x4, rfl, r1, r2, r3, r4⟩ := rt.n4
  have md1 := md.mono a1.base
  obtain ⟨dx, vm, vg, vs, vh, h⟩ := md1
  refine ⟨t, _, rfl, st_of (a1.le _ _ ht), rfl, _, _, rfl, ?_⟩
  have b1 : AtP a B H B1 H1 := .at (.refl le) a1
  refine g_fld b1 h.ins mfs_len (T.cls 141 rfl) (T.noat 144 rfl) rfl r1 fun B2 H2 b2 s2 e2 q1 => ⟨_, _, rfl, ?_⟩
  have h2 := h.mats s2 e2 q1
  refine g_fld b2 h2.ins mfs_len (T.cls 141 rfl) (T.noat 145 rfl) rfl (r2.still s2) fun B3 H3 b3 s3 e3 q2 => ⟨_, _, rfl, ?_⟩
  have h3 := h2.gs s3 e3 q2
  refine g_fld b3 h3.ins mfs_len (T.cls 141 rfl) (T.noat 146 rfl) rfl ((r3.still s2).still s3) fun B4 H4 b4 s4 e4 q3 => ⟨_, _, rfl, ?_⟩
  have h4 := h3.pos s4 e4 q3
  refine g_fld b4 h4.ins mfs_len (T.cls 141 rfl) (T.noat 147 rfl) rfl (((r4.still s2).still s3).still s4) fun B5 H5 b5 s5 e5 q4 => ⟨rfl, ?_⟩
  have h5 := h4.steps s5 e5 q4
  have hgo : Gv K (tSl (rSlL K) (tFld K (tVar 0) "history") tNoPart (tPart (tUn (rU fun i => .int (-i)) (tC (.int 1))))) [some (.ref a)] B5 (dHist m.history.dropLast) := by
    refine Gv.is (gv_sl (i := 0) (j := (m.history.map dPast).length - 1) (gv_hist T ⟨dx, _, _, _, _, h5⟩ rfl) eo_none (eo_some (ev_un ev_c ru_neg)) rfl (sIx_neg _ _ 1 (by decide))) (congrArg PyData.list ?_)
    rw [List.length_map, List.drop_zero, Nat.sub_zero, List.dropLast_eq_take, List.map_take]
  refine sd_fldI b5 h5.ins mfs_len (T.cls 141 rfl) (T.noat 148 rfl) rfl hgo fun v6 B6 H6 b6 s6 e6 r6 => q B6 H6 b6 ?_
  have h6 := h5.hist s6 e6 r6
  unfold Model.back
  rw [hp]
  exact ⟨dx, _, _, _, _, h6⟩
end
end Mw
end
section
set_option Elab.async false
set_option linter.all false
set_option maxRecDepth 100000
set_option maxHeartbeats 4000000
/-! # Walks: the deeds that change a model -/
namespace Mw
open PySem PySem.Spec PyProof.Rows L2 Evl
section
variable {P : Program} {w : World} {K : Frg} {mg : Str → Option Value} {base : Heap}
section
variable {σ : L2.St} {B0 H0 B H : Hp} {te tv tu : TE} {ta : TA} {t : TT} {tz : TS} {D : Ends} {d d1 d2 d3 d4 : PyData} {am : Addr} {m : Model} {i : Nat} {E : XK}
theorem qd_four {i j l o : Nat} (le : Ex B H) (h : GA K ta σ B [d1, d2, d3, d4]) (k : ∀ v1 v2 v3 v4 B' H', At B H B' H' → Rp K B' v1 d1 → Rp K B' v2 d2 → Rp K B' v3 d3 → Rp K B' v4 d4 → tz D ((((σ.set i (some v1)).set j (some v2)).set l (some v3)).set o (some v4)) H') :
    tSeq (tAsg (tTup ta) (gTup K 4 (gCons (gName i) (gCons (gName j) (gCons (gName l) (gCons (gName o) gNil)))))) tz D σ H := h H le _ fun vs B1 H1 a1 r1 => by
  obtain ⟨x, y, z, u, rfl, rx, ry, rz, ru⟩ := r1.n4
  exact ⟨by show 4 ≤ sizeLine; decide, fun p hp => ⟨p, _, rfl, st_of upd_same, rfl, _, _, rfl, _, _, rfl, _, _, rfl, _, _, rfl, rfl, k x y z u B1 _ (a1.trans (.aside a1.le hp)) rx ry rz ru⟩⟩
theorem qd_par3 {i j l : Nat} (le : Ex B H) (h : GA K ta σ B [d1, d2, d3]) (k : ∀ v1 v2 v3 B' H', At B H B' H' → Rp K B' v1 d1 → Rp K B' v2 d2 → Rp K B' v3 d3 → tz D (((σ.set i (some v1)).set j (some v2)).set l (some v3)) H') :
    tSeq (tPar3 i j l ta) tz D σ H := h H le _ fun vs B1 H1 a1 r1 => by
  obtain ⟨x, y, z, rfl, rx, ry, rz⟩ := r1.n3
  exact ⟨x, y, z, rfl, k x y z B1 _ a1 rx ry rz⟩
/-- return e, the model as it was -/
theorem rqC (a : At B0 H0 B H) (md : MdIn K B0 am m) (q : ∀ v B' H', AtP am B0 H0 B' H' → MdIn K B' am m → Rp K B' v d → D.rt v H') (h : Gv K te σ B d) : tRet te D σ H := qd_ret a.le h fun v B' H' a2 r => q v B' H' (a.trans a2).toP (md.mono (a.trans a2).base) r
/-- return e behind a change -/
theorem rqI (a : AtP am B0 H0 B H) (md : MdIn K B am m) (q : ∀ v B' H', AtP am B0 H0 B' H' → MdIn K B' am m → Rp K B' v d → D.rt v H') (h : Gv K te σ B d) : tRet te D σ H := qd_ret a.le h fun v B' H' a2 r => q v B' H' (a.at a2) (md.mono a2.base) r
theorem if_retC {r : Told} {b : Bool} (a : At B0 H0 B H) (md : MdIn K B0 am m) (q : ∀ v B' H', AtP am B0 H0 B' H' → MdIn K B' am r.1 → Rp K B' v (dZ r.2) → D.rt v H') (ht : EvT t σ B b) (h1 : b = true → ∃ l, r = (m, l) ∧ Gv K te σ B (dZ l)) (k : b = false → ∀ H1, At B0 H0 B H1 → tz D σ H1) : tSeq (tIfS t (tRet te) tNext) tz D σ H :=
  qd_if a.le ht (fun hb H1 e => by
    obtain ⟨l, hr, g⟩ := h1 hb
    subst hr
    exact rqC (D := { D with nx := tz D }) (a.ex e) md q g) fun hb H1 e => k hb H1 (a.ex e)
theorem call_tm {ms : List (List Nat)} (b : AtP am B0 H0 B H) (md : MdIn K B am m) (hl : m.history.length ≤ 10) (hs : σ[i]? = some (some (.ref am))) (hv : Gv K tv σ B (dM ms))
    (k : ∀ B' H', AtP am B0 H0 B' H' → Still B B' → MdIn K B' am (m.take { m.now with matrices := ms }) → tz D σ H') : tSeq (tDrop (tMeth (CM K) "take_matrices" (spTM K) [] E (tVar i) (tCons tv tNil))) tz D σ H := by
  obtain ⟨dx, vm, vg, vs, vh, h⟩ := md
  exact ⟨.ref am, hs, am, dx, _, rfl, b.le _ _ h.ins, rfl, hv H b.le _ fun v B1 H1 a1 r1 => ⟨B1, am, m, v, ms, rfl, a1.le, (MdIn.mono a1.base ⟨dx, vm, vg, vs, vh, h⟩), hl, r1, fun B2 H2 a2 md2 => k B2 H2 ((b.at a1).trans a2) ((Still.of a1.base).trans a2.base) md2⟩⟩
theorem call_tg {gs : List (Nat × Nat)} (b : AtP am B0 H0 B H) (md : MdIn K B am m) (hl : m.history.length ≤ 10) (hs : σ[i]? = some (some (.ref am))) (hv : Gv K tv σ B (dPairs gs))
    (k : ∀ B' H', AtP am B0 H0 B' H' → Still B B' → MdIn K B' am (m.take { m.now with guarantees := gs }) → tz D σ H') : tSeq (tDrop (tMeth (CM K) "take_guarantees" (spTG K) [] E (tVar i) (tCons tv tNil))) tz D σ H := by
  obtain ⟨dx, vm, vg, vs, vh, h⟩ := md
  exact ⟨.ref am, hs, am, dx, _, rfl, b.le _ _ h.ins, rfl, hv H b.le _ fun v B1 H1 a1 r1 => ⟨B1, am, m, v, gs, rfl, a1.le, (MdIn.mono a1.base ⟨dx, vm, vg, vs, vh, h⟩), hl, r1, fun B2 H2 a2 md2 => k B2 H2 ((b.at a1).trans a2) ((Still.of a1.base).trans a2.base) md2⟩⟩
theorem call_tw {p : Nat} {l : List (Nat × Nat × Nat)} (b : AtP am B0 H0 B H) (md : MdIn K B am m) (hl : m.history.length ≤ 10) (hs : σ[i]? = some (some (.ref am))) (hv : GA K (tCons tv (tCons tu tNil)) σ B [dI p, dSteps l])
    (k : ∀ B' H', AtP am B0 H0 B' H' → Still B B' → MdIn K B' am (m.take { m.now with position := p, steps := l }) → tz D σ H') : tSeq (tDrop (tMeth (CM K) "take_walk" (spTW K) [] E (tVar i) (tCons tv (tCons tu tNil)))) tz D σ H := by
  obtain ⟨dx, vm, vg, vs, vh, h⟩ := md
  refine ⟨.ref am, hs, am, dx, _, rfl, b.le _ _ h.ins, rfl, hv H b.le _ fun ws B1 H1 a1 r1 => ?_⟩
  obtain ⟨v, u, rfl, rv, ru⟩ := r1.n2
  exact ⟨B1, am, m, v, u, p, l, rfl, a1.le, (MdIn.mono a1.base ⟨dx, vm, vg, vs, vh, h⟩), hl, rv, ru, fun B2 H2 a2 md2 => k B2 H2 ((b.at a1).trans a2) ((Still.of a1.base).trans a2.base) md2⟩
theorem call_back (b : AtP am B0 H0 B H) (md : MdIn K B am m) (hne : m.history ≠ []) (hs : σ[i]? = some (some (.ref am))) (k : ∀ B' H', AtP am B0 H0 B' H' → Still B B' → MdIn K B' am m.back → tz D σ H') :
    tSeq (tDrop (tMeth (CM K) "go_back" (spBack K) [] E (tVar i) tNil)) tz D σ H := by
  obtain ⟨dx, vm, vg, vs, vh, h⟩ := md
  exact ⟨.ref am, hs, am, dx, _, rfl, b.le _ _ h.ins, rfl, B, am, m, rfl, b.le, ⟨dx, vm, vg, vs, vh, h⟩, hne, fun B' H' a' md' => k B' H' (b.trans a') a'.base md'⟩
end
theorem map_withItem {α β : Type} (f : α → β) (l : List α) (i : Nat) (x : α) : withItem (l.map f) i (f x) = (withItem l i x).map f := by
  unfold withItem
  rw [List.map_append, List.map_append, List.map_take, List.map_drop]
  rfl
theorem map_withoutItem {α β : Type} (f : α → β) (l : List α) (i : Nat) : withoutItem (l.map f) i = (withoutItem l i).map f := by
  unfold withoutItem
  rw [List.map_append, List.map_take, List.map_drop]
theorem withoutItem_mem {α : Type} {l : List α} {i : Nat} {x : α} (h : x ∈ withoutItem l i) : x ∈ l := by
  rcases List.mem_append.mp h with h | h
  · exact List.mem_of_mem_take h
  · exact List.mem_of_mem_drop h
theorem withoutItem_len {α : Type} (l : List α) (i : Nat) : (withoutItem l i).length ≤ l.length := by
  unfold withoutItem
  rw [List.length_append, List.length_take, List.length_drop]
  omega
theorem withItem_mem {α : Type} {l : List α} {i : Nat} {x y : α} (h : y ∈ withItem l i x) : y ∈ l ∨ y = x := by
  rcases List.mem_append.mp h with h | h
  · rcases List.mem_append.mp h with h | h
    · exact .inl (List.mem_of_mem_take h)
    · exact .inr (List.mem_singleton.mp h)
  · exact .inl (List.mem_of_mem_drop h)
theorem withItem_len {α : Type} {l : List α} {i : Nat} (x : α) (h : i < l.length) : (withItem l i x).length = l.length := by
  unfold withItem
  rw [List.length_append, List.length_append, List.length_take, List.length_drop, List.length_singleton]
  omega
theorem entries_mat {n : Nat} {l : List Nat} (h : areEntries n l = true) : Mat n l := by
  unfold areEntries at h
  rw [Bool.and_eq_true] at h
  exact ⟨by simpa using h.1, fun x hx => of_decide_eq_true (List.all_eq_true.mp h.2 x hx)⟩
theorem ms_add {n : Nat} {ms : List (List Nat)} {l : List Nat} (h : Ms n ms) (hl : Mat n l) : Ms n (ms ++ [l]) := fun e he => by
  rcases List.mem_append.mp he with z | z
  · exact h e z
  · rw [List.mem_singleton.mp z]
    exact hl
theorem ms_set {n : Nat} {ms : List (List Nat)} {k r c v : Nat} (h : Ms n ms) (hk : k < ms.length) (hr : r < n) (hc : c < n) (hv : v ≤ 9) : Ms n (entrySet n ms k r c v) := fun e he => by
  rcases withItem_mem he with z | z
  · exact h e z
  · have hm := h.get hk
    rw [z]
    refine ⟨?_, fun x hx => ?_⟩
    · rw [withItem_len _ (by rw [hm.len]; exact idx_lt hr hc)]
      exact hm.len
    · rcases withItem_mem hx with y | y
      · exact hm.le x y
      · rw [y]
        exact hv
theorem ms_without {n : Nat} {ms : List (List Nat)} {k : Nat} (h : Ms n ms) : Ms n (withoutItem ms k) := fun e he => h e (withoutItem_mem he)
def F_keeps_guarantees (m : Model) (ds : List PyData) (d : PyData) : Prop := ∃ ms, ds = [dM ms] ∧ d = .bool (areSatisfied m.size ms m.now.guarantees) ∧ Good m ∧ Ms m.size ms ∧ ms.length ≤ 1000
theorem sc_keeps_guarantees : FnScope ["model", "matrices"] ["model", "matrices"] MwH.d_keeps_guarantees.scope := ⟨rfl, rfl, rfl, by decide +kernel, rfl, by decide +kernel, by decide +kernel⟩
theorem ok_keeps_guarantees (T : Txt K mg) : Has P w K mg base 10 "keeps_guarantees" ["model", "matrices"] (spQ K F_keeps_guarantees) := by
  refine has_sp (N := ["model", "matrices"]) T 82 rfl rfl rfl rfl rfl sc_keeps_guarantees (fun _ _ _ _ _ _ us hl => match us, hl with | [_, _], _ => rfl) (fun vs H Q E h => by obtain ⟨B, a, m, ws, ds, d, rfl, _, _, r, hF, _⟩ := h; obtain ⟨ms, rfl, rfl, hg, hms, hl⟩ := hF; exact congrArg (· + 1) r.len) fun f cdv A outer s H E hr vs Q hq => ?_
  obtain ⟨B, am, m, ws, ds, dd, rfl, le, md, r, hF, q⟩ := hq
  obtain ⟨ms, rfl, rfl, hg, hms, hl⟩ := hF
  try dsimp only at q
  obtain ⟨x_matrices, rfl, r_matrices⟩ := RpAll.n1 r
  obtain ⟨f_are_satisfied, fd_are_satisfied, m_are_satisfied, k_are_satisfied, b_are_satisfied, G_are_satisfied⟩ := ok_are_satisfied (P := P) (w := w) (base := base) T
  refine ⟨_, (pss_one (ps_ret (pe_call G_are_satisfied (hr.mono (by decide)) (by rfl) m_are_satisfied k_are_satisfied b_are_satisfied .nil pass0 (pa_cons (pe_fldK (K := K) rfl (pv 0) rfl) (pa_cons (pv 1) (pa_cons (pe_fldK (K := K) rfl (pv 0) rfl) pa_nil)))))), ?_⟩
  exact rq (.refl le) q (gv_call (ga_int (ev_size T md rfl) (ga_cons (gv_var rfl r_matrices) (ga_cons (gv_gs T md rfl) ga_nil))) ⟨_, ms, _, rfl, rfl, hg.sz, hms, hl, Nat.le_trans hg.now.gl (by omega)⟩)
theorem sc_add_matrix : FnScope ["model", "numbers", "items", "many", "matrices"] ["model", "numbers", "items"] MwH.d_add_matrix.scope := ⟨rfl, rfl, rfl, by decide +kernel, rfl, by decide +kernel, by decide +kernel⟩
theorem ok_add_matrix (T : Txt K mg) : Has P w K mg base 11 "add_matrix" ["model", "numbers", "items"] (spC K (CF 0 (fun m _ b => addMatrix m b))) := by
  refine has_sp (N := ["model", "numbers", "items", "many", "matrices"]) T 84 rfl rfl rfl rfl rfl sc_add_matrix (fun _ _ _ _ _ _ us hl => match us, hl with | [_, _, _], _ => rfl) (fun vs H Q E h => by obtain ⟨B, a, m, ws, ds, m', d, rfl, _, _, r, ⟨nums, items, rfl, _⟩, _⟩ := h; exact congrArg (· + 1) r.len) fun f cdv A outer s H E hr vs Q hq => ?_
  obtain ⟨B, am, m, ws, ds, m2, dd, rfl, le, md, r, ⟨nums, items, rfl, rfl, rfl, hg, hk⟩, q⟩ := hq
  obtain ⟨x_numbers, x_items, rfl, r_numbers, r_items⟩ := RpAll.n2 r
  try dsimp only at q
  obtain ⟨f_are_entries, fd_are_entries, m_are_entries, k_are_entries, b_are_entries, G_are_entries⟩ := ok_are_entries (P := P) (w := w) (base := base) T
  obtain ⟨f_keeps_guarantees, fd_keeps_guarantees, m_keeps_guarantees, k_keeps_guarantees, b_keeps_guarantees, G_keeps_guarantees⟩ := ok_keeps_guarantees (P := P) (w := w) (base := base) T
  obtain ⟨t_OUT_OF_RANGE_changes, c_OUT_OF_RANGE_changes⟩ := T.int 123 (x := "OUT_OF_RANGE_changes") (z := (-22)) rfl
  obtain ⟨t_MAX_MATRICES, c_MAX_MATRICES⟩ := T.int 117 (x := "MAX_MATRICES") (z := (3)) rfl
  obtain ⟨t_FULL, c_FULL⟩ := T.int 124 (x := "FULL") (z := (-28)) rfl
  obtain ⟨t_VIOLATED, c_VIOLATED⟩ := T.int 125 (x := "VIOLATED") (z := (-30)) rfl
  obtain ⟨fdm_take_matrices, bm_take_matrices, Gm_take_matrices⟩ := ok_Model_take_matrices (P := P) (w := w) (base := base) T
  have Me_take_matrices := T.meth 150 (x := "Model") (m := "take_matrices") rfl
  refine ⟨_, (pss_cons (ps_par (i := 3) (j := 4) rfl sc_add_matrix.nd rfl rfl (by decide) rfl rfl (pa_cons (pe_callB (call_lenK (K := K) rfl) (by rfl) (T.free 131 rfl) (by decide +kernel) (pa_cons (pe_fldK (K := K) rfl (pv 0) rfl) pa_nil)) (pa_cons (pe_op op_cat (pe_fldK (K := K) rfl (pv 0) rfl) (pe_lst (pa_cons (pe_callTy (call_listK (K := K) rfl) (by rfl) (T.free 136 rfl) (by decide +kernel) (pa_cons (pv 2) pa_nil)) pa_nil))) pa_nil)) (by rfl)) (pss_cons (ps_if (pt_not (pt_val (pe_call G_are_entries (hr.mono (by decide)) (by rfl) m_are_entries k_are_entries b_are_entries .nil pass0 (pa_cons (pe_fldK (K := K) rfl (pv 0) rfl) (pa_cons (pv 2) pa_nil))))) (pss_one (ps_ret (pe_lst (pa_cons (pe_glob (v := V.int (-22)) (by rfl) c_OUT_OF_RANGE_changes ⟨_, rfl⟩) pa_nil)))) pss_nil) (pss_cons (ps_if (pt_cmpR op_eq (pv 3) (pe_glob (v := V.int (3)) (by rfl) c_MAX_MATRICES ⟨_, rfl⟩) (nomark _)) (pss_one (ps_ret (pe_lst (pa_cons (pe_glob (v := V.int (-28)) (by rfl) c_FULL ⟨_, rfl⟩) pa_nil)))) pss_nil) (pss_cons (ps_if (pt_not (pt_val (pe_call G_keeps_guarantees (hr.mono (by decide)) (by rfl) m_keeps_guarantees k_keeps_guarantees b_keeps_guarantees .nil pass0 (pa_cons (pv 0) (pa_cons (pv 4) pa_nil))))) (pss_one (ps_ret (pe_lst (pa_cons (pe_glob (v := V.int (-30)) (by rfl) c_VIOLATED ⟨_, rfl⟩) pa_nil)))) pss_nil) (pss_cons (ps_expr (pe_meth (pv 0) (T.cls 141 (x := "Model") rfl) Me_take_matrices Gm_take_matrices (hr.mono (by decide)) bm_take_matrices .nil pass0 (pa_cons (pv 4) pa_nil))) (pss_one (ps_ret (pe_lst (pa_cons (pv 3) pa_nil))))))))), ?_⟩
  have e : addMatrix m items = if areEntries m.size items = false then (m, [-22]) else if m.now.matrices.length = 3 then (m, [-28]) else if areSatisfied m.size (m.now.matrices ++ [items]) m.now.guarantees = false then (m, [-30])
    else (m.take { m.now with matrices := m.now.matrices ++ [items] }, [(m.now.matrices.length : Int)]) := rfl
  have hil := hk.il
  have hml := hg.now.ml
  refine qd_par (d1 := dI m.now.matrices.length) (d2 := dM (m.now.matrices ++ [items])) le (ga_int (ev_lenM (f := dL) (ga_cons (gv_mats T md rfl) ga_nil)) (ga_cons (Gv.is (gv_cat (gv_mats T md rfl) (gv_lst (ga_cons (gv_listL (ga_cons (gv_var rfl r_items) ga_nil)) ga_nil) (by show 1 ≤ 100000; omega)) (by rw [List.length_map]; show _ + 1 ≤ _; omega)) (by unfold dM; rw [List.map_append]; rfl)) ga_nil)) fun v1 v2 B1 H1 a1 r1 r2 => ?_
  have md1 := md.mono a1.base
  refine if_retC (r := addMatrix m items) (b := !areEntries m.size items) a1 md q (et_not (et_test (gv_callB (ga_int (ev_size T md1 rfl) (ga_cons (gv_var rfl (r_items.mono a1.base)) ga_nil)) ⟨_, items, rfl, rfl, hg.sz, by omega⟩))) (fun hb => ⟨[-22], by rw [e, if_pos (by simpa using hb)], gv_one⟩) fun hb H2 a2 => ?_
  have hc : areEntries m.size items = true := by simpa using hb
  rw [hc, if_neg (by decide)] at e
  refine if_retC (r := addMatrix m items) (b := decide (m.now.matrices.length = 3)) a2 md q (et_test (ev_eq (ev_v rfl r1) (ev_n (a := 3)))) (fun hb => ⟨[-28], by rw [e, if_pos (of_decide_eq_true hb)], gv_one⟩) fun hb H3 a3 => ?_
  rw [if_neg (of_decide_eq_false hb)] at e
  refine if_retC (r := addMatrix m items) (b := !areSatisfied m.size (m.now.matrices ++ [items]) m.now.guarantees) a3 md q (et_not (et_test (gv_callQB md1 rfl (ga_cons (gv_var rfl r2) ga_nil) ⟨_, rfl, rfl, hg, ms_add hg.now.ms (entries_mat hc), by rw [List.length_append]; show _ + 1 ≤ _; omega⟩))) (fun hb => ⟨[-30], by rw [e, if_pos (by simpa using hb)], gv_one⟩) fun hb H4 a4 => ?_
  have hs : areSatisfied m.size (m.now.matrices ++ [items]) m.now.guarantees = true := by simpa using hb
  rw [hs, if_neg (by decide)] at e
  rw [e] at q
  exact call_tm (.at (.refl le) a4) md1 hg.hl rfl (gv_var rfl r2) fun B5 H5 a5 s5 md5 => rqI a5 md5 q (gv_oneE (ev_v rfl (r1.still s5)))
theorem sc_set_entry : FnScope ["model", "numbers", "items", "matrix", "row", "column", "entry", "entries", "place", "matrices"] ["model", "numbers", "items"] MwH.d_set_entry.scope := ⟨rfl, rfl, rfl, by decide +kernel, rfl, by decide +kernel, by decide +kernel⟩
theorem ok_set_entry (T : Txt K mg) : Has P w K mg base 11 "set_entry" ["model", "numbers", "items"] (spC K (CF 4 (fun m a _ => setEntry m (a.getD 0 0) (a.getD 1 0) (a.getD 2 0) (a.getD 3 0)))) := by
  refine has_sp (N := ["model", "numbers", "items", "matrix", "row", "column", "entry", "entries", "place", "matrices"]) T 85 rfl rfl rfl rfl rfl sc_set_entry (fun _ _ _ _ _ _ us hl => match us, hl with | [_, _, _], _ => rfl) (fun vs H Q E h => by obtain ⟨B, a, m, ws, ds, m', d, rfl, _, _, r, ⟨nums, items, rfl, _⟩, _⟩ := h; exact congrArg (· + 1) r.len) fun f cdv A outer s H E hr vs Q hq => ?_
  obtain ⟨B, am, m, ws, ds, m2, dd, rfl, le, md, r, ⟨nums, items, rfl, rfl, rfl, hg, hk⟩, q⟩ := hq
  obtain ⟨x_numbers, x_items, rfl, r_numbers, r_items⟩ := RpAll.n2 r
  try dsimp only at q
  obtain ⟨f_with_item, fd_with_item, m_with_item, k_with_item, b_with_item, G_with_item⟩ := ok_with_item (P := P) (w := w) (base := base) T
  obtain ⟨f_keeps_guarantees, fd_keeps_guarantees, m_keeps_guarantees, k_keeps_guarantees, b_keeps_guarantees, G_keeps_guarantees⟩ := ok_keeps_guarantees (P := P) (w := w) (base := base) T
  obtain ⟨t_NOTHING_changes, c_NOTHING_changes⟩ := T.int 120 (x := "NOTHING_changes") (z := (-2)) rfl
  obtain ⟨t_MAX_ENTRY, c_MAX_ENTRY⟩ := T.int 116 (x := "MAX_ENTRY") (z := (9)) rfl
  obtain ⟨t_OUT_OF_RANGE_changes, c_OUT_OF_RANGE_changes⟩ := T.int 123 (x := "OUT_OF_RANGE_changes") (z := (-22)) rfl
  obtain ⟨t_VIOLATED, c_VIOLATED⟩ := T.int 125 (x := "VIOLATED") (z := (-30)) rfl
  obtain ⟨fdm_take_matrices, bm_take_matrices, Gm_take_matrices⟩ := ok_Model_take_matrices (P := P) (w := w) (base := base) T
  have Me_take_matrices := T.meth 150 (x := "Model") (m := "take_matrices") rfl
  refine ⟨_, (pss_cons (ps_asg (pe_tup (pa_cons (pe_ix (ix_listK (K := K) rfl) (pv 1) pe_int (fun _ _ => rfl)) (pa_cons (pe_ix (ix_listK (K := K) rfl) (pv 1) pe_int (fun _ _ => rfl)) (pa_cons (pe_ix (ix_listK (K := K) rfl) (pv 1) pe_int (fun _ _ => rfl)) (pa_cons (pe_ix (ix_listK (K := K) rfl) (pv 1) pe_int (fun _ _ => rfl)) pa_nil))))) (pg_tupK (K := K) (n := 4) rfl rfl (pgs_cons (pg_name (i := 3) sc_set_entry.nd rfl (Or.inl rfl)) (pgs_cons (pg_name (i := 4) sc_set_entry.nd rfl (Or.inl rfl)) (pgs_cons (pg_name (i := 5) sc_set_entry.nd rfl (Or.inl rfl)) (pgs_cons (pg_name (i := 6) sc_set_entry.nd rfl (Or.inl rfl)) pgs_nil)))))) (pss_cons (ps_if (PW.pt (pw_or (pt_cmpR op_ge (pv 3) (pe_callB (call_lenK (K := K) rfl) (by rfl) (T.free 131 rfl) (by decide +kernel) (pa_cons (pe_fldK (K := K) rfl (pv 0) rfl) pa_nil)) (nomark _)) (pw_or (pt_cmpR op_ge (pv 4) (pe_fldK (K := K) rfl (pv 0) rfl) (nomark _)) (pw_or1 (pt_cmpR op_ge (pv 5) (pe_fldK (K := K) rfl (pv 0) rfl) (nomark _)))))) (pss_one (ps_ret (pe_lst (pa_cons (pe_glob (v := V.int (-2)) (by rfl) c_NOTHING_changes ⟨_, rfl⟩) pa_nil)))) pss_nil) (pss_cons (ps_if (pt_cmpR op_gt (pv 6) (pe_glob (v := V.int (9)) (by rfl) c_MAX_ENTRY ⟨_, rfl⟩) (nomark _)) (pss_one (ps_ret (pe_lst (pa_cons (pe_glob (v := V.int (-22)) (by rfl) c_OUT_OF_RANGE_changes ⟨_, rfl⟩) pa_nil)))) pss_nil) (pss_cons (ps_par (i := 7) (j := 8) rfl sc_set_entry.nd rfl rfl (by decide) rfl rfl (pa_cons (pe_ix (ix_listK (K := K) rfl) (pe_fldK (K := K) rfl (pv 0) rfl) (pv 3) (fun _ _ => rfl)) (pa_cons (pe_op op_add (pe_op op_mul (pv 4) (pe_fldK (K := K) rfl (pv 0) rfl)) (pv 5)) pa_nil)) (by rfl)) (pss_cons (ps_set (i := 9) sc_set_entry.nd rfl (Or.inl rfl) (pe_call G_with_item (hr.mono (by decide)) (by rfl) m_with_item k_with_item b_with_item .nil pass0 (pa_cons (pe_fldK (K := K) rfl (pv 0) rfl) (pa_cons (pv 3) (pa_cons (pe_call G_with_item (hr.mono (by decide)) (by rfl) m_with_item k_with_item b_with_item .nil pass0 (pa_cons (pv 7) (pa_cons (pv 8) (pa_cons (pv 6) pa_nil)))) pa_nil))))) (pss_cons (ps_if (pt_not (pt_val (pe_call G_keeps_guarantees (hr.mono (by decide)) (by rfl) m_keeps_guarantees k_keeps_guarantees b_keeps_guarantees .nil pass0 (pa_cons (pv 0) (pa_cons (pv 9) pa_nil))))) (pss_one (ps_ret (pe_lst (pa_cons (pe_glob (v := V.int (-30)) (by rfl) c_VIOLATED ⟨_, rfl⟩) pa_nil)))) pss_nil) (pss_cons (ps_expr (pe_meth (pv 0) (T.cls 141 (x := "Model") rfl) Me_take_matrices Gm_take_matrices (hr.mono (by decide)) bm_take_matrices .nil pass0 (pa_cons (pv 9) pa_nil))) (pss_one (ps_ret (pe_lst (pa_cons (pe_ix (ix_listK (K := K) rfl) (pv 7) (pv 8) (fun _ _ => rfl)) pa_nil))))))))))), ?_⟩
  have e : setEntry m (nums.getD 0 0) (nums.getD 1 0) (nums.getD 2 0) (nums.getD 3 0) = if m.now.matrices.length ≤ nums.getD 0 0 ∨ m.size ≤ nums.getD 1 0 ∨ m.size ≤ nums.getD 2 0 then (m, [-2])
    else if 9 < nums.getD 3 0 then (m, [-22])
    else if areSatisfied m.size (entrySet m.size m.now.matrices (nums.getD 0 0) (nums.getD 1 0) (nums.getD 2 0) (nums.getD 3 0)) m.now.guarantees = false then (m, [-30])
    else (m.take { m.now with matrices := entrySet m.size m.now.matrices (nums.getD 0 0) (nums.getD 1 0) (nums.getD 2 0) (nums.getD 3 0) }, [(((m.now.matrices.getD (nums.getD 0 0) []).getD ((nums.getD 1 0) * m.size + (nums.getD 2 0)) 0 : Nat) : Int)]) := rfl
  have n0 := ev_num (K := K) (i := 0) (gv_var (i := 1) (σ := [some (.ref am), some x_numbers, some x_items, none, none, none, none, none, none, none]) rfl r_numbers) (hk.at (by omega))
  have n1 := ev_num (K := K) (i := 1) (gv_var (i := 1) (σ := [some (.ref am), some x_numbers, some x_items, none, none, none, none, none, none, none]) rfl r_numbers) (hk.at (by omega))
  have n2 := ev_num (K := K) (i := 2) (gv_var (i := 1) (σ := [some (.ref am), some x_numbers, some x_items, none, none, none, none, none, none, none]) rfl r_numbers) (hk.at (by omega))
  have n3 := ev_num (K := K) (i := 3) (gv_var (i := 1) (σ := [some (.ref am), some x_numbers, some x_items, none, none, none, none, none, none, none]) rfl r_numbers) (hk.at (by omega))
  have hml := hg.now.ml
  have h3 := hg.sz.le
  refine qd_four (K := K) (d1 := dI (nums.getD 0 0)) (d2 := dI (nums.getD 1 0)) (d3 := dI (nums.getD 2 0)) (d4 := dI (nums.getD 3 0)) le (ga_int n0 (ga_int n1 (ga_int n2 (ga_int n3 ga_nil)))) fun v1 v2 v3 v4 B1 H1 a1 r1 r2 r3 r4 => ?_
  generalize nums.getD 0 0 = k at e q r1
  generalize nums.getD 1 0 = x at e q r2
  generalize nums.getD 2 0 = y at e q r3
  generalize nums.getD 3 0 = z at e q r4
  have md1 := md.mono a1.base
  refine if_retC (r := setEntry m k x y z) (b := decide (m.now.matrices.length ≤ k) || (decide (m.size ≤ x) || decide (m.size ≤ y))) a1 md q (et_or (et_test (ev_ge (ev_v rfl r1) (ev_lenM (f := dL) (ga_cons (gv_mats T md1 rfl) ga_nil)))) fun _ => et_or (et_test (ev_ge (ev_v rfl r2) (ev_size T md1 rfl))) fun _ => et_test (ev_ge (ev_v rfl r3) (ev_size T md1 rfl))) (fun hb => ⟨[-2], by rw [e, if_pos (by simpa using hb)], gv_one⟩) fun hb H2 a2 => ?_
  have hc : ¬ (m.now.matrices.length ≤ k ∨ m.size ≤ x ∨ m.size ≤ y) := by
    intro z
    have : (decide (m.now.matrices.length ≤ k) || (decide (m.size ≤ x) || decide (m.size ≤ y))) = true := by simpa using z
    rw [this] at hb
    cases hb
  rw [if_neg hc] at e
  have hkk : k < m.now.matrices.length := by omega
  have hx : x < m.size := by omega
  have hy : y < m.size := by omega
  refine if_retC (r := setEntry m k x y z) (b := decide (9 < z)) a2 md q (et_test (ev_gt (ev_v rfl r4) (ev_n (a := 9)))) (fun hb => ⟨[-22], by rw [e, if_pos (of_decide_eq_true hb)], gv_one⟩) fun hb H3 a3 => ?_
  have hz := of_decide_eq_false hb
  rw [if_neg hz] at e
  have hmat := hg.now.ms.get hkk
  have hidx := idx_lt hx hy
  refine qd_par (K := K) (d1 := dL (m.now.matrices.getD k [])) (d2 := dI (x * m.size + y)) a3.le (ga_cons (gv_at [] (gv_mats T md1 rfl) (ev_v rfl r1) hkk) (ga_int (ev_add (ev_mul (.inr (by omega)) (ev_v rfl r2) (ev_size T md1 rfl)) (ev_v rfl r3)) ga_nil)) fun v5 v6 B4 H4 a4 r5 r6 => ?_
  have md4 := md1.mono a4.base
  refine qd_asg (d := dM (entrySet m.size m.now.matrices k x y z)) a4.le (Gv.is (gv_call (ga_cons (gv_mats T md4 rfl) (ga_cons (gv_var rfl (r1.mono a4.base)) (ga_cons (gv_call (ga_cons (gv_var rfl r5) (ga_cons (gv_var rfl r6) (ga_cons (gv_var rfl (r4.mono a4.base)) ga_nil))) ⟨_, _, _, rfl, rfl, by rw [zlen, hmat.len]; exact hidx, by rw [zlen, hmat.len]; exact Nat.le_trans (Nat.mul_le_mul h3 h3) (by omega)⟩) ga_nil))) ⟨_, k, _, rfl, rfl, by rw [List.length_map]; exact hkk, by rw [List.length_map]; omega⟩) ?_) fun v7 B5 H5 a5 r7 => ?_
  · unfold dM entrySet
    refine congrArg PyData.list ?_
    rw [← map_withItem]
    refine congrArg (withItem _ k) ?_
    show PyData.list _ = PyData.list _
    refine congrArg PyData.list ?_
    unfold zs
    rw [← map_withItem, ← map_withItem]
  have b5 := (a3.trans a4).trans a5
  have md5 := md4.mono a5.base
  have hlen : (entrySet m.size m.now.matrices k x y z).length = m.now.matrices.length := withItem_len _ hkk
  refine if_retC (r := setEntry m k x y z) (b := !areSatisfied m.size (entrySet m.size m.now.matrices k x y z) m.now.guarantees) b5 md q (et_not (et_test (gv_callQB md5 rfl (ga_cons (gv_var rfl r7) ga_nil) ⟨_, rfl, rfl, hg, ms_set hg.now.ms hkk hx hy (by omega), by omega⟩))) (fun hb => ⟨[-30], by rw [e, if_pos (by simpa using hb)], gv_one⟩) fun hb H6 a6 => ?_
  have hs : areSatisfied m.size (entrySet m.size m.now.matrices k x y z) m.now.guarantees = true := by simpa using hb
  rw [hs, if_neg (by decide)] at e
  rw [e] at q
  exact call_tm (.at (.refl le) a6) md5 hg.hl rfl (gv_var rfl r7) fun B7 H7 a7 s7 md7 => rqI a7 md7 q (gv_oneE (ev_at (gv_var rfl ((r5.mono a5.base).still s7)) (ev_v rfl ((r6.mono a5.base).still s7)) (by rw [hmat.len]; exact hidx)))
theorem sc_remove_matrix : FnScope ["model", "numbers", "items", "matrices"] ["model", "numbers", "items"] MwH.d_remove_matrix.scope := ⟨rfl, rfl, rfl, by decide +kernel, rfl, by decide +kernel, by decide +kernel⟩
theorem ok_remove_matrix (T : Txt K mg) : Has P w K mg base 11 "remove_matrix" ["model", "numbers", "items"] (spC K (CF 1 (fun m a _ => removeMatrix m (a.getD 0 0)))) := by
  refine has_sp (N := ["model", "numbers", "items", "matrices"]) T 86 rfl rfl rfl rfl rfl sc_remove_matrix (fun _ _ _ _ _ _ us hl => match us, hl with | [_, _, _], _ => rfl) (fun vs H Q E h => by obtain ⟨B, a, m, ws, ds, m', d, rfl, _, _, r, ⟨nums, items, rfl, _⟩, _⟩ := h; exact congrArg (· + 1) r.len) fun f cdv A outer s H E hr vs Q hq => ?_
  obtain ⟨B, am, m, ws, ds, m2, dd, rfl, le, md, r, ⟨nums, items, rfl, rfl, rfl, hg, hk⟩, q⟩ := hq
  obtain ⟨x_numbers, x_items, rfl, r_numbers, r_items⟩ := RpAll.n2 r
  try dsimp only at q
  obtain ⟨f_without_item, fd_without_item, m_without_item, k_without_item, b_without_item, G_without_item⟩ := ok_without_item (P := P) (w := w) (base := base) T
  obtain ⟨f_keeps_guarantees, fd_keeps_guarantees, m_keeps_guarantees, k_keeps_guarantees, b_keeps_guarantees, G_keeps_guarantees⟩ := ok_keeps_guarantees (P := P) (w := w) (base := base) T
  obtain ⟨t_NOTHING_changes, c_NOTHING_changes⟩ := T.int 120 (x := "NOTHING_changes") (z := (-2)) rfl
  obtain ⟨t_VIOLATED, c_VIOLATED⟩ := T.int 125 (x := "VIOLATED") (z := (-30)) rfl
  obtain ⟨fdm_take_matrices, bm_take_matrices, Gm_take_matrices⟩ := ok_Model_take_matrices (P := P) (w := w) (base := base) T
  have Me_take_matrices := T.meth 150 (x := "Model") (m := "take_matrices") rfl
  refine ⟨_, (pss_cons (ps_if (pt_cmpR op_ge (pe_ix (ix_listK (K := K) rfl) (pv 1) pe_int (fun _ _ => rfl)) (pe_callB (call_lenK (K := K) rfl) (by rfl) (T.free 131 rfl) (by decide +kernel) (pa_cons (pe_fldK (K := K) rfl (pv 0) rfl) pa_nil)) (nomark _)) (pss_one (ps_ret (pe_lst (pa_cons (pe_glob (v := V.int (-2)) (by rfl) c_NOTHING_changes ⟨_, rfl⟩) pa_nil)))) pss_nil) (pss_cons (ps_set (i := 3) sc_remove_matrix.nd rfl (Or.inl rfl) (pe_call G_without_item (hr.mono (by decide)) (by rfl) m_without_item k_without_item b_without_item .nil pass0 (pa_cons (pe_fldK (K := K) rfl (pv 0) rfl) (pa_cons (pe_ix (ix_listK (K := K) rfl) (pv 1) pe_int (fun _ _ => rfl)) pa_nil)))) (pss_cons (ps_if (pt_not (pt_val (pe_call G_keeps_guarantees (hr.mono (by decide)) (by rfl) m_keeps_guarantees k_keeps_guarantees b_keeps_guarantees .nil pass0 (pa_cons (pv 0) (pa_cons (pv 3) pa_nil))))) (pss_one (ps_ret (pe_lst (pa_cons (pe_glob (v := V.int (-30)) (by rfl) c_VIOLATED ⟨_, rfl⟩) pa_nil)))) pss_nil) (pss_cons (ps_expr (pe_meth (pv 0) (T.cls 141 (x := "Model") rfl) Me_take_matrices Gm_take_matrices (hr.mono (by decide)) bm_take_matrices .nil pass0 (pa_cons (pv 3) pa_nil))) (pss_one (ps_ret (pe_lst (pa_cons (pe_callB (call_lenK (K := K) rfl) (by rfl) (T.free 131 rfl) (by decide +kernel) (pa_cons (pv 3) pa_nil)) pa_nil)))))))), ?_⟩
  have e : removeMatrix m (nums.getD 0 0) = if m.now.matrices.length ≤ nums.getD 0 0 then (m, [-2]) else if areSatisfied m.size (withoutItem m.now.matrices (nums.getD 0 0)) m.now.guarantees = false then (m, [-30])
    else (m.take { m.now with matrices := withoutItem m.now.matrices (nums.getD 0 0) }, [((withoutItem m.now.matrices (nums.getD 0 0)).length : Int)]) := rfl
  have n0 := ev_num (K := K) (i := 0) (gv_var (i := 1) (σ := [some (.ref am), some x_numbers, some x_items, none]) rfl r_numbers) (hk.at (by omega))
  have hml := hg.now.ml
  generalize nums.getD 0 0 = k at e q n0
  refine if_retC (r := removeMatrix m k) (b := decide (m.now.matrices.length ≤ k)) (.refl le) md q (et_test (ev_ge n0 (ev_lenM (f := dL) (ga_cons (gv_mats T md rfl) ga_nil)))) (fun hb => ⟨[-2], by rw [e, if_pos (of_decide_eq_true hb)], gv_one⟩) fun hb H1 a1 => ?_
  have hkk := of_decide_eq_false hb
  rw [if_neg hkk] at e
  refine qd_asg (d := dM (withoutItem m.now.matrices k)) a1.le (Gv.is (gv_call (ga_cons (gv_mats T md rfl) (ga_int n0 ga_nil)) ⟨_, k, rfl, rfl, by rw [List.length_map]; omega, by rw [List.length_map]; omega⟩) (by unfold dM; rw [map_withoutItem])) fun v1 B2 H2 a2 r1 => ?_
  have md2 := md.mono a2.base
  have hlen := withoutItem_len m.now.matrices k
  refine if_retC (r := removeMatrix m k) (b := !areSatisfied m.size (withoutItem m.now.matrices k) m.now.guarantees) (a1.trans a2) md q (et_not (et_test (gv_callQB md2 rfl (ga_cons (gv_var rfl r1) ga_nil) ⟨_, rfl, rfl, hg, ms_without hg.now.ms, by omega⟩))) (fun hb => ⟨[-30], by rw [e, if_pos (by simpa using hb)], gv_one⟩) fun hb H3 a3 => ?_
  have hs : areSatisfied m.size (withoutItem m.now.matrices k) m.now.guarantees = true := by simpa using hb
  rw [hs, if_neg (by decide)] at e
  rw [e] at q
  exact call_tm (.at (.refl le) a3) md2 hg.hl rfl (gv_var rfl r1) fun B4 H4 a4 s4 md4 => rqI a4 md4 q (gv_oneE (ev_lenM (f := dL) (ga_cons (gv_var rfl (r1.still s4)) ga_nil)))
theorem sc_add_guarantee : FnScope ["model", "numbers", "items", "kind", "bound", "many"] ["model", "numbers", "items"] MwH.d_add_guarantee.scope := ⟨rfl, rfl, rfl, by decide +kernel, rfl, by decide +kernel, by decide +kernel⟩
theorem ok_add_guarantee (T : Txt K mg) : Has P w K mg base 9 "add_guarantee" ["model", "numbers", "items"] (spC K (CF 2 (fun m a _ => addGuarantee m (a.getD 0 0) (a.getD 1 0)))) := by
  refine has_sp (N := ["model", "numbers", "items", "kind", "bound", "many"]) T 87 rfl rfl rfl rfl rfl sc_add_guarantee (fun _ _ _ _ _ _ us hl => match us, hl with | [_, _, _], _ => rfl) (fun vs H Q E h => by obtain ⟨B, a, m, ws, ds, m', d, rfl, _, _, r, ⟨nums, items, rfl, _⟩, _⟩ := h; exact congrArg (· + 1) r.len) fun f cdv A outer s H E hr vs Q hq => ?_
  obtain ⟨B, am, m, ws, ds, m2, dd, rfl, le, md, r, ⟨nums, items, rfl, rfl, rfl, hg, hk⟩, q⟩ := hq
  obtain ⟨x_numbers, x_items, rfl, r_numbers, r_items⟩ := RpAll.n2 r
  try dsimp only at q
  obtain ⟨f_is_guarantee, fd_is_guarantee, m_is_guarantee, k_is_guarantee, b_is_guarantee, G_is_guarantee⟩ := ok_is_guarantee (P := P) (w := w) (base := base) T
  obtain ⟨f_is_satisfied, fd_is_satisfied, m_is_satisfied, k_is_satisfied, b_is_satisfied, G_is_satisfied⟩ := ok_is_satisfied (P := P) (w := w) (base := base) T
  obtain ⟨t_OUT_OF_RANGE_changes, c_OUT_OF_RANGE_changes⟩ := T.int 123 (x := "OUT_OF_RANGE_changes") (z := (-22)) rfl
  obtain ⟨t_KNOWN, c_KNOWN⟩ := T.int 122 (x := "KNOWN") (z := (-17)) rfl
  obtain ⟨t_VIOLATED, c_VIOLATED⟩ := T.int 125 (x := "VIOLATED") (z := (-30)) rfl
  obtain ⟨t_MAX_GUARANTEES, c_MAX_GUARANTEES⟩ := T.int 118 (x := "MAX_GUARANTEES") (z := (3)) rfl
  obtain ⟨t_FULL, c_FULL⟩ := T.int 124 (x := "FULL") (z := (-28)) rfl
  obtain ⟨fdm_take_guarantees, bm_take_guarantees, Gm_take_guarantees⟩ := ok_Model_take_guarantees (P := P) (w := w) (base := base) T
  have Me_take_guarantees := T.meth 151 (x := "Model") (m := "take_guarantees") rfl
  have hu := hu_of hr
  have hu64 := hr.units
  have hu65 := hu65_of hr
  refine ⟨_, (pss_cons (ps_par3 (i := 3) (j := 4) (l := 5) rfl sc_add_guarantee.nd rfl rfl rfl (by decide) (by decide) (by decide) rfl rfl rfl (pa_cons (pe_ix (ix_listK (K := K) rfl) (pv 1) pe_int (fun _ _ => rfl)) (pa_cons (pe_ix (ix_listK (K := K) rfl) (pv 1) pe_int (fun _ _ => rfl)) (pa_cons (pe_callB (call_lenK (K := K) rfl) (by rfl) (T.free 131 rfl) (by decide +kernel) (pa_cons (pe_fldK (K := K) rfl (pv 0) rfl) pa_nil)) pa_nil))) (by rfl)) (pss_cons (ps_if (pt_not (pt_val (pe_call G_is_guarantee (hr.mono (by decide)) (by rfl) m_is_guarantee k_is_guarantee b_is_guarantee .nil pass0 (pa_cons (pv 3) (pa_cons (pv 4) pa_nil))))) (pss_one (ps_ret (pe_lst (pa_cons (pe_glob (v := V.int (-22)) (by rfl) c_OUT_OF_RANGE_changes ⟨_, rfl⟩) pa_nil)))) pss_nil) (pss_cons (ps_if (pt_cmpR (op_inDK (K := K) rfl hu65) (pe_tup (pa_cons (pv 3) (pa_cons (pv 4) pa_nil))) (pe_fldK (K := K) rfl (pv 0) rfl) (by rfl)) (pss_one (ps_ret (pe_lst (pa_cons (pe_glob (v := V.int (-17)) (by rfl) c_KNOWN ⟨_, rfl⟩) pa_nil)))) pss_nil) (pss_cons (ps_if (pt_not (pt_val (pe_call G_is_satisfied (hr.mono (by decide)) (by rfl) m_is_satisfied k_is_satisfied b_is_satisfied .nil pass0 (pa_cons (pe_fldK (K := K) rfl (pv 0) rfl) (pa_cons (pe_fldK (K := K) rfl (pv 0) rfl) (pa_cons (pv 3) (pa_cons (pv 4) pa_nil))))))) (pss_one (ps_ret (pe_lst (pa_cons (pe_glob (v := V.int (-30)) (by rfl) c_VIOLATED ⟨_, rfl⟩) pa_nil)))) pss_nil) (pss_cons (ps_if (pt_cmpR op_eq (pv 5) (pe_glob (v := V.int (3)) (by rfl) c_MAX_GUARANTEES ⟨_, rfl⟩) (nomark _)) (pss_one (ps_ret (pe_lst (pa_cons (pe_glob (v := V.int (-28)) (by rfl) c_FULL ⟨_, rfl⟩) pa_nil)))) pss_nil) (pss_cons (ps_expr (pe_meth (pv 0) (T.cls 141 (x := "Model") rfl) Me_take_guarantees Gm_take_guarantees (hr.mono (by decide)) bm_take_guarantees .nil pass0 (pa_cons (pe_op op_cat (pe_fldK (K := K) rfl (pv 0) rfl) (pe_lst (pa_cons (pe_tup (pa_cons (pv 3) (pa_cons (pv 4) pa_nil))) pa_nil))) pa_nil))) (pss_one (ps_ret (pe_lst (pa_cons (pv 5) pa_nil)))))))))), ?_⟩
  have e : addGuarantee m (nums.getD 0 0) (nums.getD 1 0) = if isGuarantee (nums.getD 0 0) (nums.getD 1 0) = false then (m, [-22]) else if (nums.getD 0 0, nums.getD 1 0) ∈ m.now.guarantees then (m, [-17])
    else if isSatisfied m.size m.now.matrices (nums.getD 0 0) (nums.getD 1 0) = false then (m, [-30]) else if m.now.guarantees.length = 3 then (m, [-28])
    else (m.take { m.now with guarantees := m.now.guarantees ++ [(nums.getD 0 0, nums.getD 1 0)] }, [(m.now.guarantees.length : Int)]) := rfl
  have n0 := ev_num (K := K) (i := 0) (gv_var (i := 1) (σ := [some (.ref am), some x_numbers, some x_items, none, none, none]) rfl r_numbers) (hk.at (by omega))
  have n1 := ev_num (K := K) (i := 1) (gv_var (i := 1) (σ := [some (.ref am), some x_numbers, some x_items, none, none, none]) rfl r_numbers) (hk.at (by omega))
  have hgl := hg.now.gl
  refine qd_par3 (K := K) (d1 := dI (nums.getD 0 0)) (d2 := dI (nums.getD 1 0)) (d3 := dI m.now.guarantees.length) le (ga_int n0 (ga_int n1 (ga_int (ev_lenM (f := dPair) (ga_cons (gv_gs T md rfl) ga_nil)) ga_nil))) fun v1 v2 v3 B1 H1 a1 r1 r2 r3 => ?_
  generalize nums.getD 0 0 = x at e q r1
  generalize nums.getD 1 0 = y at e q r2
  have md1 := md.mono a1.base
  refine if_retC (r := addGuarantee m x y) (b := !isGuarantee x y) a1 md q (et_not (et_test (gv_callB (ga_cons (gv_var rfl r1) (ga_cons (gv_var rfl r2) ga_nil)) ⟨x, y, rfl, rfl⟩))) (fun hb => ⟨[-22], by rw [e, if_pos (by simpa using hb)], gv_one⟩) fun hb H2 a2 => ?_
  have hc : isGuarantee x y = true := by simpa using hb
  rw [hc, if_neg (by decide)] at e
  refine if_retC (r := addGuarantee m x y) (b := m.now.guarantees.contains (x, y)) a2 md q (et_test (ev_inP (gv_tup (ga_cons (gv_var rfl r1) (ga_cons (gv_var rfl r2) ga_nil)) (by show 2 ≤ 100000; omega)) (gv_gs T md1 rfl))) (fun hb => ⟨[-17], by rw [e, if_pos (by simpa using hb)], gv_one⟩) fun hb H3 a3 => ?_
  have hni : ¬ (x, y) ∈ m.now.guarantees := by
    intro z
    have : m.now.guarantees.contains (x, y) = true := by simpa using z
    rw [this] at hb
    cases hb
  rw [if_neg hni] at e
  refine if_retC (r := addGuarantee m x y) (b := !isSatisfied m.size m.now.matrices x y) a3 md q (et_not (et_test (gv_callB (ga_int (ev_size T md1 rfl) (ga_cons (gv_mats T md1 rfl) (ga_cons (gv_var rfl r1) (ga_cons (gv_var rfl r2) ga_nil)))) ⟨_, _, x, y, rfl, rfl, hg.sz, hg.now.ms, mats_le hg⟩))) (fun hb => ⟨[-30], by rw [e, if_pos (by simpa using hb)], gv_one⟩) fun hb H4 a4 => ?_
  have hs : isSatisfied m.size m.now.matrices x y = true := by simpa using hb
  rw [hs, if_neg (by decide)] at e
  refine if_retC (r := addGuarantee m x y) (b := decide (m.now.guarantees.length = 3)) a4 md q (et_test (ev_eq (ev_v rfl r3) (ev_n (a := 3)))) (fun hb => ⟨[-28], by rw [e, if_pos (of_decide_eq_true hb)], gv_one⟩) fun hb H5 a5 => ?_
  rw [if_neg (of_decide_eq_false hb)] at e
  rw [e] at q
  exact call_tg (.at (.refl le) a5) md1 hg.hl rfl (Gv.is (gv_cat (gv_gs T md1 rfl) (gv_lst (ga_cons (gv_tup (ga_cons (gv_var rfl r1) (ga_cons (gv_var rfl r2) ga_nil)) (by show 2 ≤ 100000; omega)) ga_nil) (by show 1 ≤ 100000; omega)) (by rw [List.length_map]; show _ + 1 ≤ _; omega)) (by unfold dPairs; rw [List.map_append]; rfl)) fun B6 H6 a6 s6 md6 => rqI a6 md6 q (gv_oneE (ev_v rfl (r3.still s6)))
theorem sc_remove_guarantee : FnScope ["model", "numbers", "items", "guarantees"] ["model", "numbers", "items"] MwH.d_remove_guarantee.scope := ⟨rfl, rfl, rfl, by decide +kernel, rfl, by decide +kernel, by decide +kernel⟩
theorem ok_remove_guarantee (T : Txt K mg) : Has P w K mg base 3 "remove_guarantee" ["model", "numbers", "items"] (spC K (CF 1 (fun m a _ => removeGuarantee m (a.getD 0 0)))) := by
  refine has_sp (N := ["model", "numbers", "items", "guarantees"]) T 88 rfl rfl rfl rfl rfl sc_remove_guarantee (fun _ _ _ _ _ _ us hl => match us, hl with | [_, _, _], _ => rfl) (fun vs H Q E h => by obtain ⟨B, a, m, ws, ds, m', d, rfl, _, _, r, ⟨nums, items, rfl, _⟩, _⟩ := h; exact congrArg (· + 1) r.len) fun f cdv A outer s H E hr vs Q hq => ?_
  obtain ⟨B, am, m, ws, ds, m2, dd, rfl, le, md, r, ⟨nums, items, rfl, rfl, rfl, hg, hk⟩, q⟩ := hq
  obtain ⟨x_numbers, x_items, rfl, r_numbers, r_items⟩ := RpAll.n2 r
  try dsimp only at q
  obtain ⟨f_without_item, fd_without_item, m_without_item, k_without_item, b_without_item, G_without_item⟩ := ok_without_item (P := P) (w := w) (base := base) T
  obtain ⟨t_NOTHING_changes, c_NOTHING_changes⟩ := T.int 120 (x := "NOTHING_changes") (z := (-2)) rfl
  obtain ⟨fdm_take_guarantees, bm_take_guarantees, Gm_take_guarantees⟩ := ok_Model_take_guarantees (P := P) (w := w) (base := base) T
  have Me_take_guarantees := T.meth 151 (x := "Model") (m := "take_guarantees") rfl
  refine ⟨_, (pss_cons (ps_if (pt_cmpR op_ge (pe_ix (ix_listK (K := K) rfl) (pv 1) pe_int (fun _ _ => rfl)) (pe_callB (call_lenK (K := K) rfl) (by rfl) (T.free 131 rfl) (by decide +kernel) (pa_cons (pe_fldK (K := K) rfl (pv 0) rfl) pa_nil)) (nomark _)) (pss_one (ps_ret (pe_lst (pa_cons (pe_glob (v := V.int (-2)) (by rfl) c_NOTHING_changes ⟨_, rfl⟩) pa_nil)))) pss_nil) (pss_cons (ps_set (i := 3) sc_remove_guarantee.nd rfl (Or.inl rfl) (pe_call G_without_item (hr.mono (by decide)) (by rfl) m_without_item k_without_item b_without_item .nil pass0 (pa_cons (pe_fldK (K := K) rfl (pv 0) rfl) (pa_cons (pe_ix (ix_listK (K := K) rfl) (pv 1) pe_int (fun _ _ => rfl)) pa_nil)))) (pss_cons (ps_expr (pe_meth (pv 0) (T.cls 141 (x := "Model") rfl) Me_take_guarantees Gm_take_guarantees (hr.mono (by decide)) bm_take_guarantees .nil pass0 (pa_cons (pv 3) pa_nil))) (pss_one (ps_ret (pe_lst (pa_cons (pe_callB (call_lenK (K := K) rfl) (by rfl) (T.free 131 rfl) (by decide +kernel) (pa_cons (pv 3) pa_nil)) pa_nil))))))), ?_⟩
  have e : removeGuarantee m (nums.getD 0 0) = if m.now.guarantees.length ≤ nums.getD 0 0 then (m, [-2]) else (m.take { m.now with guarantees := withoutItem m.now.guarantees (nums.getD 0 0) }, [((withoutItem m.now.guarantees (nums.getD 0 0)).length : Int)]) := rfl
  have n0 := ev_num (K := K) (i := 0) (gv_var (i := 1) (σ := [some (.ref am), some x_numbers, some x_items, none]) rfl r_numbers) (hk.at (by omega))
  have hgl := hg.now.gl
  generalize nums.getD 0 0 = k at e q n0
  refine if_retC (r := removeGuarantee m k) (b := decide (m.now.guarantees.length ≤ k)) (.refl le) md q (et_test (ev_ge n0 (ev_lenM (f := dPair) (ga_cons (gv_gs T md rfl) ga_nil)))) (fun hb => ⟨[-2], by rw [e, if_pos (of_decide_eq_true hb)], gv_one⟩) fun hb H1 a1 => ?_
  have hkk := of_decide_eq_false hb
  rw [if_neg hkk] at e
  refine qd_asg (d := dPairs (withoutItem m.now.guarantees k)) a1.le (Gv.is (gv_call (ga_cons (gv_gs T md rfl) (ga_int n0 ga_nil)) ⟨_, k, rfl, rfl, by rw [List.length_map]; omega, by rw [List.length_map]; omega⟩) (by unfold dPairs; rw [map_withoutItem])) fun v1 B2 H2 a2 r1 => ?_
  have md2 := md.mono a2.base
  rw [e] at q
  exact call_tg (.at (.refl le) (a1.trans a2)) md2 hg.hl rfl (gv_var rfl r1) fun B4 H4 a4 s4 md4 => rqI a4 md4 q (gv_oneE (ev_lenM (f := dPair) (ga_cons (gv_var rfl (r1.still s4)) ga_nil)))
theorem sc_set_position : FnScope ["model", "numbers", "items", "previous"] ["model", "numbers", "items"] MwH.d_set_position.scope := ⟨rfl, rfl, rfl, by decide +kernel, rfl, by decide +kernel, by decide +kernel⟩
theorem ok_set_position (T : Txt K mg) : Has P w K mg base 3 "set_position" ["model", "numbers", "items"] (spC K (CF 1 (fun m a _ => setPosition m (a.getD 0 0)))) := by
  refine has_sp (N := ["model", "numbers", "items", "previous"]) T 89 rfl rfl rfl rfl rfl sc_set_position (fun _ _ _ _ _ _ us hl => match us, hl with | [_, _, _], _ => rfl) (fun vs H Q E h => by obtain ⟨B, a, m, ws, ds, m', d, rfl, _, _, r, ⟨nums, items, rfl, _⟩, _⟩ := h; exact congrArg (· + 1) r.len) fun f cdv A outer s H E hr vs Q hq => ?_
  obtain ⟨B, am, m, ws, ds, m2, dd, rfl, le, md, r, ⟨nums, items, rfl, rfl, rfl, hg, hk⟩, q⟩ := hq
  obtain ⟨x_numbers, x_items, rfl, r_numbers, r_items⟩ := RpAll.n2 r
  try dsimp only at q
  obtain ⟨t_NOTHING_changes, c_NOTHING_changes⟩ := T.int 120 (x := "NOTHING_changes") (z := (-2)) rfl
  obtain ⟨fdm_take_walk, bm_take_walk, Gm_take_walk⟩ := ok_Model_take_walk (P := P) (w := w) (base := base) T
  have Me_take_walk := T.meth 152 (x := "Model") (m := "take_walk") rfl
  refine ⟨_, (pss_cons (ps_set (i := 3) sc_set_position.nd rfl (Or.inl rfl) (pe_fldK (K := K) rfl (pv 0) rfl)) (pss_cons (ps_if (pt_cmpR op_ge (pe_ix (ix_listK (K := K) rfl) (pv 1) pe_int (fun _ _ => rfl)) (pe_fldK (K := K) rfl (pv 0) rfl) (nomark _)) (pss_one (ps_ret (pe_lst (pa_cons (pe_glob (v := V.int (-2)) (by rfl) c_NOTHING_changes ⟨_, rfl⟩) pa_nil)))) pss_nil) (pss_cons (ps_expr (pe_meth (pv 0) (T.cls 141 (x := "Model") rfl) Me_take_walk Gm_take_walk (hr.mono (by decide)) bm_take_walk .nil pass0 (pa_cons (pe_ix (ix_listK (K := K) rfl) (pv 1) pe_int (fun _ _ => rfl)) (pa_cons (pe_lst pa_nil) pa_nil)))) (pss_one (ps_ret (pe_lst (pa_cons (pv 3) pa_nil))))))), ?_⟩
  have e : setPosition m (nums.getD 0 0) = if m.size ≤ nums.getD 0 0 then (m, [-2]) else (m.take { m.now with position := nums.getD 0 0, steps := [] }, [(m.now.position : Int)]) := rfl
  refine qd_asg (K := K) (d := dI m.now.position) le (.int (ev_pos T md rfl)) fun v1 B1 H1 a1 r1 => ?_
  have n0 := ev_num (K := K) (i := 0) (gv_var (i := 1) (σ := [some (.ref am), some x_numbers, some x_items, some v1]) rfl (r_numbers.mono a1.base)) (hk.at (by omega))
  generalize nums.getD 0 0 = k at e q n0
  have md1 := md.mono a1.base
  refine if_retC (r := setPosition m k) (b := decide (m.size ≤ k)) a1 md q (et_test (ev_ge n0 (ev_size T md1 rfl))) (fun hb => ⟨[-2], by rw [e, if_pos (of_decide_eq_true hb)], gv_one⟩) fun hb H2 a2 => ?_
  rw [if_neg (of_decide_eq_false hb)] at e
  rw [e] at q
  exact call_tw (l := []) (.at (.refl le) a2) md1 hg.hl rfl (ga_int n0 (ga_cons (gv_lst ga_nil (Nat.zero_le _)) ga_nil)) fun B3 H3 a3 s3 md3 => rqI a3 md3 q (gv_oneE (ev_v rfl (r1.still s3)))
theorem sc_walk : FnScope ["model", "numbers", "items", "matrix", "chance", "before", "refusal", "after"] ["model", "numbers", "items"] MwH.d_walk.scope := ⟨rfl, rfl, rfl, by decide +kernel, rfl, by decide +kernel, by decide +kernel⟩
theorem ok_walk (T : Txt K mg) : Has P w K mg base 3 "walk" ["model", "numbers", "items"] (spC K (CF 2 (fun m a _ => walk m (a.getD 0 0) (a.getD 1 0)))) := by
  refine has_sp (N := ["model", "numbers", "items", "matrix", "chance", "before", "refusal", "after"]) T 90 rfl rfl rfl rfl rfl sc_walk (fun _ _ _ _ _ _ us hl => match us, hl with | [_, _, _], _ => rfl) (fun vs H Q E h => by obtain ⟨B, a, m, ws, ds, m', d, rfl, _, _, r, ⟨nums, items, rfl, _⟩, _⟩ := h; exact congrArg (· + 1) r.len) fun f cdv A outer s H E hr vs Q hq => ?_
  obtain ⟨B, am, m, ws, ds, m2, dd, rfl, le, md, r, ⟨nums, items, rfl, rfl, rfl, hg, hk⟩, q⟩ := hq
  obtain ⟨x_numbers, x_items, rfl, r_numbers, r_items⟩ := RpAll.n2 r
  try dsimp only at q
  obtain ⟨f_step_refusal, fd_step_refusal, m_step_refusal, k_step_refusal, b_step_refusal, G_step_refusal⟩ := ok_step_refusal (P := P) (w := w) (base := base) T
  obtain ⟨f_is_stuck, fd_is_stuck, m_is_stuck, k_is_stuck, b_is_stuck, G_is_stuck⟩ := ok_is_stuck (P := P) (w := w) (base := base) T
  obtain ⟨f_next_position, fd_next_position, m_next_position, k_next_position, b_next_position, G_next_position⟩ := ok_next_position (P := P) (w := w) (base := base) T
  obtain ⟨t_MAX_STEPS, c_MAX_STEPS⟩ := T.int 119 (x := "MAX_STEPS") (z := (12)) rfl
  obtain ⟨t_FULL, c_FULL⟩ := T.int 124 (x := "FULL") (z := (-28)) rfl
  obtain ⟨t_STUCK, c_STUCK⟩ := T.int 126 (x := "STUCK") (z := (-33)) rfl
  obtain ⟨fdm_take_walk, bm_take_walk, Gm_take_walk⟩ := ok_Model_take_walk (P := P) (w := w) (base := base) T
  have Me_take_walk := T.meth 152 (x := "Model") (m := "take_walk") rfl
  have hu := hu_of hr
  have hu64 := hr.units
  have hu65 := hu65_of hr
  refine ⟨_, (pss_cons (ps_par3 (i := 3) (j := 4) (l := 5) rfl sc_walk.nd rfl rfl rfl (by decide) (by decide) (by decide) rfl rfl rfl (pa_cons (pe_ix (ix_listK (K := K) rfl) (pv 1) pe_int (fun _ _ => rfl)) (pa_cons (pe_ix (ix_listK (K := K) rfl) (pv 1) pe_int (fun _ _ => rfl)) (pa_cons (pe_fldK (K := K) rfl (pv 0) rfl) pa_nil))) (by rfl)) (pss_cons (ps_set (i := 6) sc_walk.nd rfl (Or.inl rfl) (pe_call G_step_refusal (hr.mono (by decide)) (by rfl) m_step_refusal k_step_refusal b_step_refusal .nil pass0 (pa_cons (pv 0) (pa_cons (pv 3) (pa_cons (pv 4) pa_nil))))) (pss_cons (ps_if (pt_cmpR (op_neDK (K := K) rfl hu64) (pv 6) (pe_lst pa_nil) (nomark _)) (pss_one (ps_ret (pv 6))) pss_nil) (pss_cons (ps_if (pt_cmpR op_eq (pe_callB (call_lenK (K := K) rfl) (by rfl) (T.free 131 rfl) (by decide +kernel) (pa_cons (pe_fldK (K := K) rfl (pv 0) rfl) pa_nil)) (pe_glob (v := V.int (12)) (by rfl) c_MAX_STEPS ⟨_, rfl⟩) (nomark _)) (pss_one (ps_ret (pe_lst (pa_cons (pe_glob (v := V.int (-28)) (by rfl) c_FULL ⟨_, rfl⟩) pa_nil)))) pss_nil) (pss_cons (ps_if (pt_val (pe_call G_is_stuck (hr.mono (by decide)) (by rfl) m_is_stuck k_is_stuck b_is_stuck .nil pass0 (pa_cons (pv 0) (pa_cons (pv 3) pa_nil)))) (pss_one (ps_ret (pe_lst (pa_cons (pe_glob (v := V.int (-33)) (by rfl) c_STUCK ⟨_, rfl⟩) pa_nil)))) pss_nil) (pss_cons (ps_set (i := 7) sc_walk.nd rfl (Or.inl rfl) (pe_call G_next_position (hr.mono (by decide)) (by rfl) m_next_position k_next_position b_next_position .nil pass0 (pa_cons (pv 0) (pa_cons (pv 3) (pa_cons (pv 4) pa_nil))))) (pss_cons (ps_expr (pe_meth (pv 0) (T.cls 141 (x := "Model") rfl) Me_take_walk Gm_take_walk (hr.mono (by decide)) bm_take_walk .nil pass0 (pa_cons (pv 7) (pa_cons (pe_op op_cat (pe_fldK (K := K) rfl (pv 0) rfl) (pe_lst (pa_cons (pe_tup (pa_cons (pv 3) (pa_cons (pv 5) (pa_cons (pv 7) pa_nil)))) pa_nil))) pa_nil)))) (pss_one (ps_ret (pe_lst (pa_cons (pv 7) pa_nil))))))))))), ?_⟩
  have e : walk m (nums.getD 0 0) (nums.getD 1 0) = if stepRefusal m (nums.getD 0 0) (nums.getD 1 0) ≠ [] then (m, stepRefusal m (nums.getD 0 0) (nums.getD 1 0)) else if m.now.steps.length = 12 then (m, [-28]) else if isStuck m (nums.getD 0 0) then (m, [-33])
    else (m.take { m.now with position := nextPosition m (nums.getD 0 0) (nums.getD 1 0), steps := m.now.steps ++ [(nums.getD 0 0, m.now.position, nextPosition m (nums.getD 0 0) (nums.getD 1 0))] }, [(nextPosition m (nums.getD 0 0) (nums.getD 1 0) : Int)]) := rfl
  have n0 := ev_num (K := K) (i := 0) (gv_var (i := 1) (σ := [some (.ref am), some x_numbers, some x_items, none, none, none, none, none]) rfl r_numbers) (hk.at (by omega))
  have n1 := ev_num (K := K) (i := 1) (gv_var (i := 1) (σ := [some (.ref am), some x_numbers, some x_items, none, none, none, none, none]) rfl r_numbers) (hk.at (by omega))
  have hsl := hg.now.sl
  refine qd_par3 (K := K) (d1 := dI (nums.getD 0 0)) (d2 := dI (nums.getD 1 0)) (d3 := dI m.now.position) le (ga_int n0 (ga_int n1 (ga_int (ev_pos T md rfl) ga_nil))) fun v1 v2 v3 B1 H1 a1 r1 r2 r3 => ?_
  generalize nums.getD 0 0 = x at e q r1
  generalize nums.getD 1 0 = y at e q r2
  refine qd_asg (d := dZ (stepRefusal m x y)) a1.le (gv_callQ (md.mono a1.base) rfl (ga_cons (gv_var rfl r1) (ga_cons (gv_var rfl r2) ga_nil)) ⟨x, y, rfl, rfl⟩) fun v4 B2 H2 a2 r4 => ?_
  have b2 := a1.trans a2
  have md2 := md.mono b2.base
  refine if_retC (r := walk m x y) (b := !((stepRefusal m x y).map PyData.int).isEmpty) b2 md q (et_test (ev_neE (gv_var rfl r4) (shp_dZ _).ok)) (fun hb => ⟨stepRefusal m x y, by
    rw [e, if_pos (fun z => by rw [z] at hb; cases hb)], gv_var rfl r4⟩) fun hb H3 a3 => ?_
  have hnil : stepRefusal m x y = [] := by simpa using hb
  rw [if_neg (fun z => z hnil)] at e
  obtain ⟨hx, hy⟩ := step_ok hnil
  refine if_retC (r := walk m x y) (b := decide (m.now.steps.length = 12)) a3 md q (et_test (ev_eq (ev_lenM (f := dStep) (ga_cons (gv_steps T md2 rfl) ga_nil)) (ev_n (a := 12)))) (fun hb => ⟨[-28], by rw [e, if_pos (of_decide_eq_true hb)], gv_one⟩) fun hb H4 a4 => ?_
  rw [if_neg (of_decide_eq_false hb)] at e
  refine if_retC (r := walk m x y) (b := isStuck m x) a4 md q (et_test (gv_callQB md2 rfl (ga_cons (gv_var rfl (r1.mono a2.base)) ga_nil) ⟨x, rfl, rfl, hg, hx⟩)) (fun hb => ⟨[-33], by rw [e, if_pos hb], gv_one⟩) fun hb H5 a5 => ?_
  rw [hb, if_neg (by decide)] at e
  refine qd_asg (d := dI (nextPosition m x y)) a5.le (gv_callQ md2 rfl (ga_cons (gv_var rfl (r1.mono a2.base)) (ga_cons (gv_var rfl (r2.mono a2.base)) ga_nil)) ⟨x, y, rfl, rfl, hg, hx, hy⟩) fun v5 B6 H6 a6 r5 => ?_
  have e26 := a2.base.trans a6.base
  have md6 := md2.mono a6.base
  rw [e] at q
  exact call_tw (.at (.refl le) (a5.trans a6)) md6 hg.hl rfl (ga_cons (gv_var rfl r5) (ga_cons (Gv.is (gv_cat (gv_steps T md6 rfl) (gv_lst (ga_cons (gv_tup (ga_cons (gv_var rfl (r1.mono e26)) (ga_cons (gv_var rfl (r3.mono e26)) (ga_cons (gv_var rfl r5) ga_nil))) (by show 3 ≤ 100000; omega)) ga_nil) (by show 1 ≤ 100000; omega)) (by rw [List.length_map]; show _ + 1 ≤ _; omega)) (by unfold dSteps; rw [List.map_append]; rfl)) ga_nil)) fun B7 H7 a7 s7 md7 => rqI a7 md7 q (gv_oneE (ev_v rfl (r5.still s7)))
theorem shp_step (s : Nat × Nat × Nat) : Shp 2 (dStep s) := .tup fun d hd => by
  have h : d = dI s.1 ∨ d = dI s.2.1 ∨ d = dI s.2.2 := by simpa using hd
  rcases h with h | h | h <;> rw [h] <;> exact .int _
theorem shp_past (p : Past) : Shp 4 (dPast p) := .tup fun d hd => by
  have h : d = dM p.matrices ∨ d = dPairs p.guarantees ∨ d = dI p.position ∨ d = dSteps p.steps := by simpa using hd
  rcases h with h | h | h | h <;> rw [h]
  · refine .lst fun d hd => ?_
    obtain ⟨i, _, rfl⟩ := List.mem_map.mp hd
    exact shp_dL i
  · exact shp_pairs _
  · exact (Shp.int _).mono (by omega)
  · refine .lst fun d hd => ?_
    obtain ⟨i, _, rfl⟩ := List.mem_map.mp hd
    exact shp_step i
theorem shp_hist (l : List Past) : Shp 5 (dHist l) := .lst fun d hd => by
  obtain ⟨i, _, rfl⟩ := List.mem_map.mp hd
  exact shp_past i
theorem sc_undo : FnScope ["model", "numbers", "items"] ["model", "numbers", "items"] MwH.d_undo.scope := ⟨rfl, rfl, rfl, by decide +kernel, rfl, by decide +kernel, by decide +kernel⟩
theorem ok_undo (T : Txt K mg) : Has P w K mg base 2 "undo" ["model", "numbers", "items"] (spC K (CF 0 (fun m _ _ => undo m))) := by
  refine has_sp (N := ["model", "numbers", "items"]) T 91 rfl rfl rfl rfl rfl sc_undo (fun _ _ _ _ _ _ us hl => match us, hl with | [_, _, _], _ => rfl) (fun vs H Q E h => by obtain ⟨B, a, m, ws, ds, m', d, rfl, _, _, r, ⟨nums, items, rfl, _⟩, _⟩ := h; exact congrArg (· + 1) r.len) fun f cdv A outer s H E hr vs Q hq => ?_
  obtain ⟨B, am, m, ws, ds, m2, dd, rfl, le, md, r, ⟨nums, items, rfl, rfl, rfl, hg, hk⟩, q⟩ := hq
  obtain ⟨x_numbers, x_items, rfl, r_numbers, r_items⟩ := RpAll.n2 r
  try dsimp only at q
  obtain ⟨t_NO_HISTORY, c_NO_HISTORY⟩ := T.int 121 (x := "NO_HISTORY") (z := (-6)) rfl
  obtain ⟨fdm_go_back, bm_go_back, Gm_go_back⟩ := ok_Model_go_back (P := P) (w := w) (base := base) T
  have Me_go_back := T.meth 153 (x := "Model") (m := "go_back") rfl
  have hu := hu_of hr
  have hu64 := hr.units
  have hu65 := hu65_of hr
  refine ⟨_, (pss_cons (ps_if (pt_cmpR (op_eqDK (K := K) rfl hu64) (pe_fldK (K := K) rfl (pv 0) rfl) (pe_lst pa_nil) (nomark _)) (pss_one (ps_ret (pe_lst (pa_cons (pe_glob (v := V.int (-6)) (by rfl) c_NO_HISTORY ⟨_, rfl⟩) pa_nil)))) pss_nil) (pss_cons (ps_expr (pe_meth0 (pv 0) (T.cls 141 (x := "Model") rfl) Me_go_back Gm_go_back (hr.mono (by decide)) bm_go_back .nil pass0)) (pss_one (ps_ret (pe_lst (pa_cons (pe_callB (call_lenK (K := K) rfl) (by rfl) (T.free 131 rfl) (by decide +kernel) (pa_cons (pe_fldK (K := K) rfl (pv 0) rfl) pa_nil)) pa_nil)))))), ?_⟩
  have e : undo m = if m.history = [] then (m, [-6]) else (m.back, [(m.back.history.length : Int)]) := rfl
  refine if_retC (r := undo m) (b := (m.history.map dPast).isEmpty) (.refl le) md q (et_test (ev_eqE (gv_hist T md rfl) (shp_hist _).ok)) (fun hb => ⟨[-6], by rw [e, if_pos (by simpa using hb)], gv_one⟩) fun hb H1 a1 => ?_
  have hne : m.history ≠ [] := by
    intro z
    rw [z] at hb
    cases hb
  rw [if_neg hne] at e
  rw [e] at q
  exact call_back (.at (.refl le) a1) md hne rfl fun B2 H2 a2 s2 md2 => rqI a2 md2 q (gv_oneE (ev_lenM (f := dPast) (ga_cons (gv_hist T md2 rfl) ga_nil)))
end
end Mw
end
section
set_option Elab.async false
set_option linter.all false
set_option maxRecDepth 100000
set_option maxHeartbeats 4000000
/-! # Calls as they are handed in, what is told to them -/
namespace Mw
structure CallIn where
  num : Nat
  nums : List Nat
  items : List Nat
def widths : List Nat := [1, 0, 4, 1, 2, 1, 1, 2, 1, 0, 2, 2, 2, 2, 1, 0, 0, 0, 0, 1, 0, 0, 0, 0, 2, 1, 0, 0]
def width (n : Nat) : Nat := widths.getD n 0
def withLists : List Nat := [1, 11, 12, 13, 14, 20]
def withList (n : Nat) : Bool := withLists.contains n
def CallIn.tail (c : CallIn) : List Nat := if withList c.num then c.items.length :: c.items else []
def CallIn.flat (c : CallIn) : List Nat := c.num :: (c.nums ++ c.tail)
structure CallIn.Ok (c : CallIn) : Prop where
  le : c.num ≤ 27
  asked : Asked (width c.num) c.nums c.items
  no : withList c.num = false → c.items = []
def flats (cs : List CallIn) : List Nat := cs.flatMap CallIn.flat
def after (o : Option Model) (cs : List CallIn) : Option Model := cs.foldl (fun o c => (answerTo o c.num c.nums c.items).1) o
def toldAll (o : Option Model) : List CallIn → List Int
  | [] => []
  | c :: r => ((answerTo o c.num c.nums c.items).2.length : Int) :: (answerTo o c.num c.nums c.items).2 ++ toldAll (answerTo o c.num c.nums c.items).1 r
def SepOk (m : Model) : Prop := areChances m.size m.now.matrices = true → mixingIndex m.size (patternsOf m.size m.now.matrices) = none → ∃ z, separatingWords m.size (patternsOf m.size m.now.matrices) = some z
/-- each call meets a model that is good -/
def Fine (cs : List CallIn) : Prop := ∀ done rest, cs = done ++ rest → ∀ m, after none done = some m → Good m ∧ SepOk m
theorem after_append (o : Option Model) (a b : List CallIn) : after o (a ++ b) = after (after o a) b := by
  unfold after
  rw [List.foldl_append]
theorem toldAll_append (a b : List CallIn) : ∀ o, toldAll o (a ++ b) = toldAll o a ++ toldAll (after o a) b := by
  induction a with
  | nil => exact fun o => rfl
  | cons c r ih =>
    intro o
    show _ :: _ ++ toldAll _ (r ++ b) = (_ :: _ ++ toldAll _ r) ++ toldAll _ b
    rw [ih, List.append_assoc]
    rfl
theorem toldAll_one (o : Option Model) (a : List CallIn) (c : CallIn) : toldAll o (a ++ [c]) = toldAll o a ++ ((answerTo (after o a) c.num c.nums c.items).2.length : Int) :: (answerTo (after o a) c.num c.nums c.items).2 := by
  rw [toldAll_append]
  show _ ++ (_ :: _ ++ []) = _
  rw [List.append_nil]
theorem after_one (o : Option Model) (a : List CallIn) (c : CallIn) : after o (a ++ [c]) = (answerTo (after o a) c.num c.nums c.items).1 := by
  rw [after_append]
  rfl
theorem flats_append (a b : List CallIn) : flats (a ++ b) = flats a ++ flats b := by
  unfold flats
  rw [List.flatMap_append]
theorem flats_cons (c : CallIn) (b : List CallIn) : flats (c :: b) = c.flat ++ flats b := rfl
theorem call_len (c : CallIn) : c.flat.length = 1 + c.nums.length + c.tail.length := by
  unfold CallIn.flat
  rw [List.length_cons, List.length_append]
  omega
end Mw
end
section
set_option Elab.async false
set_option linter.all false
set_option maxRecDepth 100000
set_option maxHeartbeats 4000000
/-! # Walks: the desk -/
namespace Mw
open PySem PySem.Spec PyProof.Rows L2 Evl
open MwH (fn fa)
def vN (l : List Nat) : List V := l.map fun n : Nat => V.int (n : Int)
/-- what lies at d is the desk with o -/
def DkIn (K : Frg) (B : Hp) (d : Addr) (o : Option Model) : Prop := match o with
  | none => ∃ dx, B d = some (.ins (CD K) dx [("model", .non)])
  | some m => ∃ dx a, B d = some (.ins (CD K) dx [("model", .ref a)]) ∧ MdIn K B a m
section
variable {K : Frg} {B B1 H : Hp} {d a : Addr} {o : Option Model} {m : Model}
theorem DkIn.mono (e : Ex B B1) (h : DkIn K B d o) : DkIn K B1 d o := by
  cases o with
  | none =>
    obtain ⟨dx, h⟩ := h
    exact ⟨dx, e _ _ h⟩
  | some m =>
    obtain ⟨dx, a, h, hm⟩ := h
    exact ⟨dx, a, e _ _ h, hm.mono e⟩
theorem DkIn.ins (h : DkIn K B d o) : ∃ dx v, B d = some (.ins (CD K) dx [("model", v)]) := by
  cases o with
  | none =>
    obtain ⟨dx, h⟩ := h
    exact ⟨dx, _, h⟩
  | some m =>
    obtain ⟨dx, a, h, hm⟩ := h
    exact ⟨dx, _, h⟩
theorem MdIn.ne {C dx : Addr} {v : V} (h : MdIn K B a m) (hd : B d = some (.ins C dx [("model", v)])) : a ≠ d := by
  obtain ⟨dx2, vm, vg, vs, vh, h⟩ := h
  intro e
  have h2 := h.ins
  rw [e, hd] at h2
  injection (Option.some.inj h2) with _ _ h3
  cases h3
/-- the model stands where another instance is changed -/
theorem MdIn.put {C C' dx dx' : Addr} {fs fs' : List (Str × V)} (h : MdIn K B a m) (hd : B d = some (.ins C dx fs)) (hne : a ≠ d) : MdIn K (upd B d (.ins C' dx' fs')) a m := by
  obtain ⟨dx2, vm, vg, vs, vh, h⟩ := h
  have s := still_put (C' := C') (dx' := dx') (fs' := fs') hd
  exact ⟨dx2, vm, vg, vs, vh, by rw [upd_ne hne]; exact h.ins, h.rm.still s, h.rg.still s, h.rs.still s, h.rh.still s⟩
end
section
variable {P : Program} {w : World} {K : Frg} {mg : Str → Option Value} {base : Heap}
/-- Desk.__init__ -/
def spDI (K : Frg) : Sp := fun ws H Q _ => ∃ B H0 x dx, ws = [.ref x] ∧ H0 x = none ∧ Ex H0 H ∧ Ex B H0 ∧ H x = some (.ins (CD K) dx []) ∧ ∀ B' H', At B H0 B' H' → DkIn K B' x none → Q .non H'
theorem sc_Desk_init : FnScope ["self"] ["self"] MwH.d_Desk_init.scope := ⟨rfl, rfl, rfl, by decide +kernel, rfl, by decide +kernel, by decide +kernel⟩
theorem ok_Desk_init (T : Txt K mg) : HasM P w K mg base 1 "Desk" "__init__" ["self"] (spDI K) := by
  refine has_meth (N := ["self"]) T 102 rfl rfl rfl rfl sc_Desk_init (fun _ _ _ _ _ _ us hl => match us, hl with | [_], _ => rfl) (fun vs H Q E h => by obtain ⟨B, H0, x, dx, rfl, _⟩ := h; rfl) fun f cdv A outer s H E hr vs Q hq => ?_
  obtain ⟨B, H0, x, dx, rfl, h0, e0, le, hx, q⟩ := hq
  refine ⟨_, (pss_one (ps_fldK (K := K) rfl (pv 0) pe_non rfl)), ?_⟩
  have a0 : At B H0 B H := .up le e0
  refine sd_fldN (d := .none) a0 h0 (fresh_back le h0) hx (show 0 < 1000 by omega) (T.cls 154 rfl) (T.noat 156 rfl) rfl (.non ev_c) fun v1 B1 H1 a1 e1 n1 r1 hx => ?_
  obtain rfl := r1.isNon
  exact q _ _ (a1.freeze n1 h0 hx) ⟨dx, upd_same⟩
/-- Desk.place_model -/
def spPM (K : Frg) : Sp := fun ws H Q _ => ∃ B dd a o m, ws = [.ref dd, .ref a] ∧ Ex B H ∧ DkIn K B dd o ∧ MdIn K B a m ∧ ∀ B' H', AtI B H B' H' → DkIn K B' dd (some m) → Q .non H'
theorem sc_Desk_place_model : FnScope ["self", "model"] ["self", "model"] MwH.d_Desk_place_model.scope := ⟨rfl, rfl, rfl, by decide +kernel, rfl, by decide +kernel, by decide +kernel⟩
theorem ok_Desk_place_model (T : Txt K mg) : HasM P w K mg base 1 "Desk" "place_model" ["self", "model"] (spPM K) := by
  refine has_meth (N := ["self", "model"]) T 103 rfl rfl rfl rfl sc_Desk_place_model (fun _ _ _ _ _ _ us hl => match us, hl with | [_, _], _ => rfl) (fun vs H Q E h => by obtain ⟨B, dd, a, o, m, rfl, _⟩ := h; rfl) fun f cdv A outer s H E hr vs Q hq => ?_
  obtain ⟨B, dd, a, o, m, rfl, le, dk, md, q⟩ := hq
  refine ⟨_, (pss_one (ps_fldK (K := K) rfl (pv 0) (pv 1) rfl)), ?_⟩
  obtain ⟨dx, v, hd⟩ := dk.ins
  exact ⟨.ref a, rfl, .ref dd, rfl, dd, CD K, dx, _, rfl, le _ _ hd, T.cls 154 rfl, T.noat 156 rfl, (show 1 < 1000 by omega), q (upd B dd (.ins (CD K) dx [("model", .ref a)])) _ ((AtI.refl le).put hd) ⟨dx, a, upd_same, md.put hd (md.ne hd)⟩⟩
/-- create -/
def spCr (K : Frg) : Sp := fun ws H Q _ => ∃ B dd o n v, ws = [.ref dd, v] ∧ Ex B H ∧ DkIn K B dd o ∧ Rp K B v (dI n) ∧ ∀ v B' H', AtI B H B' H' → DkIn K B' dd (create o n).1 → Rp K B' v (dZ (create o n).2) → Q v H'
theorem sc_create : FnScope ["desk", "size"] ["desk", "size"] MwH.d_create.scope := ⟨rfl, rfl, rfl, by decide +kernel, rfl, by decide +kernel, by decide +kernel⟩
theorem ok_create (T : Txt K mg) : Has P w K mg base 3 "create" ["desk", "size"] (spCr K) := by
  refine has_sp (N := ["desk", "size"]) T 92 rfl rfl rfl rfl rfl sc_create (fun _ _ _ _ _ _ us hl => match us, hl with | [_, _], _ => rfl) (fun vs H Q E h => by obtain ⟨B, dd, o, n, v, rfl, _⟩ := h; rfl) fun f cdv A outer s H E hr vs Q hq => ?_
  obtain ⟨B, dd, o, n, v, rfl, le, dk, r, q⟩ := hq
  obtain ⟨t_MAX_SIZE, c_MAX_SIZE⟩ := T.int 128 (x := "MAX_SIZE") (z := (3)) rfl
  obtain ⟨t_OUT_OF_RANGE_desk, c_OUT_OF_RANGE_desk⟩ := T.int 129 (x := "OUT_OF_RANGE_desk") (z := (-22)) rfl
  obtain ⟨fdm_place_model, bm_place_model, Gm_place_model⟩ := ok_Desk_place_model (P := P) (w := w) (base := base) T
  have Me_place_model := T.meth 157 (x := "Desk") (m := "place_model") rfl
  obtain ⟨fdi_Model, bi_Model, Gi_Model⟩ := ok_Model_init (P := P) (w := w) (base := base) T
  have Mk_Model := T.mkr 142 (x := "Model") rfl
  refine ⟨_, (pss_cons (ps_if (PW.pt (pw_or (pt_cmpR op_lt (pv 1) pe_int (nomark _)) (pw_or1 (pt_cmpR op_gt (pv 1) (pe_glob (v := V.int (3)) (by rfl) c_MAX_SIZE ⟨_, rfl⟩) (nomark _))))) (pss_one (ps_ret (pe_lst (pa_cons (pe_glob (v := V.int (-22)) (by rfl) c_OUT_OF_RANGE_desk ⟨_, rfl⟩) pa_nil)))) pss_nil) (pss_cons (ps_expr (pe_meth (pv 0) (T.cls 154 (x := "Desk") rfl) Me_place_model Gm_place_model (hr.mono (by decide)) bm_place_model .nil pass0 (pa_cons (pe_make Mk_Model Gi_Model (hr.mono (by decide)) (by rfl) (T.glo 96 rfl) bi_Model .nil pass0 (pa_cons (pv 1) pa_nil)) pa_nil))) (pss_one (ps_ret (pe_lst (pa_cons pe_int pa_nil)))))), ?_⟩
  have e : create o n = if n < 1 ∨ 3 < n then (o, [-22]) else (some (fresh n), [0]) := rfl
  refine qd_if (b := decide (n < 1) || decide (3 < n)) le (et_or (et_test (ev_lt (ev_v rfl r) (ev_n (a := 1)))) fun _ => et_test (ev_gt (ev_v rfl r) (ev_n (a := 3)))) (fun hb H1 e1 => ?_) (fun hb H1 e1 => ?_)
  · rw [if_pos (by simpa using hb)] at e
    rw [e] at q
    exact qd_ret (le.trans e1) gv_one fun v B' H' a r => q v B' H' ((At.up le e1).trans a).toI (dk.mono a.base) r
  · have hc : ¬ (n < 1 ∨ 3 < n) := by
      intro z
      have : (decide (n < 1) || decide (3 < n)) = true := by simpa using z
      rw [this] at hb
      cases hb
    rw [if_neg hc] at e
    rw [e] at q
    have le1 := le.trans e1
    obtain ⟨dx, v0, hd⟩ := dk.ins
    obtain rfl := r.isInt
    refine ⟨.ref dd, rfl, dd, dx, _, rfl, le1 _ _ hd, rfl, .int n, rfl, fun x dy hx hdy hne => ?_⟩
    refine ⟨B, H1, x, dy, n, rfl, hx, (Ex.new hdy).trans (Ex.new (by rw [upd_ne (Ne.symm hne)]; exact hx)), le1, upd_same, fun B2 H2 a2 md2 => ⟨rfl, ?_⟩⟩
    refine ⟨B2, dd, x, o, fresh n, rfl, a2.le, dk.mono a2.base, md2, fun B3 H3 a3 dk3 => ?_⟩
    exact qd_ret a3.le (gv_one (σ := [some (.ref dd), some (.int (n : Int))])) fun v B' H' a r => q v B' H' ((((At.up le e1).trans a2).toI.trans a3).at a) (dk3.mono a.base) r
/-- a deed by its number -/
def UF (n : Nat) (m : Model) (ds : List PyData) (m' : Model) (d : PyData) : Prop := ∃ nums items, ds = [dL nums, dL items] ∧ m' = (deed n m nums items).1 ∧ d = dZ (deed n m nums items).2 ∧ Good m ∧ Asked (width n) nums items ∧ SepOk m
def DeedOk (P : Program) (w : World) (K : Frg) (mg : Str → Option Value) (base : Heap) (n : Nat) (x : Str) : Prop :=
  ∃ fd, Binds K fd ["model", "numbers", "items"] [] ∧ PySem.W.keepIn K (.ref (He.ga K x)) = true ∧ FnOk P w K mg base CX0 11 (He.ga K x) fd ["model", "numbers", "items"] (spC K (UF n))
theorem deed_of (T : Txt K mg) {x : Str} {l n : Nat} {sp : Sp} (j : Nat) (hj : fa[j]? = some (.glo x)) (h : Has P w K mg base l x ["model", "numbers", "items"] sp) (hl : l ≤ 11) (imp : ∀ vs H Q E, spC K (UF n) vs H Q E → sp vs H Q E) : DeedOk P w K mg base n x := by
  obtain ⟨f, fd, gm, kp, b, F⟩ := h
  have e := T.glo j hj
  rw [gm] at e
  injection (Option.some.inj e) with e
  subst e
  exact ⟨fd, b, kp, (F.mono hl).imp imp⟩
theorem deedC (T : Txt K mg) {x : Str} {l k n : Nat} {f : Model → List Nat → List Nat → Told} (j : Nat) (hj : fa[j]? = some (.glo x)) (h : Has P w K mg base l x ["model", "numbers", "items"] (spC K (CF k f))) (hl : l ≤ 11) (hw : width n = k) (hf : ∀ m a b, deed n m a b = f m a b) : DeedOk P w K mg base n x :=
  deed_of T j hj h hl fun vs H Q E ⟨B, a, m, ws, ds, m', d, e, le, md, r, ⟨nums, items, e1, e2, e3, hg, hk, _⟩, q⟩ => ⟨B, a, m, ws, ds, m', d, e, le, md, r, ⟨nums, items, e1, by rw [e2, hf], by rw [e3, hf], hg, by rw [← hw]; exact hk⟩, q⟩
theorem deedQ (T : Txt K mg) {x : Str} {l k n : Nat} {f : Model → List Nat → List Nat → List Int} (j : Nat) (hj : fa[j]? = some (.glo x)) (h : Has P w K mg base l x ["model", "numbers", "items"] (spQ K (QF k f))) (hl : l ≤ 11) (hw : width n = k) (hf : ∀ m a b, deed n m a b = (m, f m a b)) : DeedOk P w K mg base n x :=
  deed_of T j hj h hl fun vs H Q E ⟨B, a, m, ws, ds, m', d, e, le, md, r, ⟨nums, items, e1, e2, e3, hg, hk, _⟩, q⟩ => QF.deed ⟨B, a, m, ws, ds, m', d, e, le, md, r, ⟨nums, items, e1, by rw [e2, hf], by rw [e3, hf], hg, by rw [← hw]; exact hk⟩, q⟩
theorem deedS (T : Txt K mg) {x : Str} {l : Nat} (j : Nat) (hj : fa[j]? = some (.glo x)) (h : Has P w K mg base l x ["model", "numbers", "items"] (spQ K QSep)) (hl : l ≤ 11) : DeedOk P w K mg base 22 x :=
  deed_of T j hj h hl fun vs H Q E h => by
    obtain ⟨B, a, m, ws, ds, m2, d, e, le, md, r, ⟨nums, items, e1, e2, e3, hg, hk, hs⟩, q⟩ := h
    exact ⟨B, a, m, ws, ds, d, e, le, md, r, ⟨⟨nums, items, e1, e3, hg, hk⟩, hs⟩, fun v B' H' at_ r' => q v B' H' at_.toP (by
      rw [e2]
      exact md.mono at_.base) r'⟩
def deedNames : List Str := ["add_matrix", "set_entry", "remove_matrix", "add_guarantee", "remove_guarantee", "set_position", "walk", "get_matrix", "list_guarantees", "answer_is_satisfied", "is_reachable", "count_paths", "path_probability", "reachable_set", "count_patterns", "answer_zero_word", "answer_positive_column_word", "growth", "max_paths", "ergodicity_coefficient", "answer_mixing_index", "answer_separating_words", "get_position", "preview_walk", "get_log_entry", "undo", "get_state"]
theorem deed_has (T : Txt K mg) : ∀ i : Nat, i < 27 → DeedOk P w K mg base (i + 1) (deedNames.getD i "")
  | 0, _ => deedC (x := "add_matrix") (n := 1) T 84 rfl (ok_add_matrix (P := P) (w := w) (base := base) T) (by decide) rfl fun _ _ _ => rfl
  | 1, _ => deedC (x := "set_entry") (n := 2) T 85 rfl (ok_set_entry (P := P) (w := w) (base := base) T) (by decide) rfl fun _ _ _ => rfl
  | 2, _ => deedC (x := "remove_matrix") (n := 3) T 86 rfl (ok_remove_matrix (P := P) (w := w) (base := base) T) (by decide) rfl fun _ _ _ => rfl
  | 3, _ => deedC (x := "add_guarantee") (n := 4) T 87 rfl (ok_add_guarantee (P := P) (w := w) (base := base) T) (by decide) rfl fun _ _ _ => rfl
  | 4, _ => deedC (x := "remove_guarantee") (n := 5) T 88 rfl (ok_remove_guarantee (P := P) (w := w) (base := base) T) (by decide) rfl fun _ _ _ => rfl
  | 5, _ => deedC (x := "set_position") (n := 6) T 89 rfl (ok_set_position (P := P) (w := w) (base := base) T) (by decide) rfl fun _ _ _ => rfl
  | 6, _ => deedC (x := "walk") (n := 7) T 90 rfl (ok_walk (P := P) (w := w) (base := base) T) (by decide) rfl fun _ _ _ => rfl
  | 7, _ => deedQ (x := "get_matrix") (n := 8) T 57 rfl (ok_get_matrix (P := P) (w := w) (base := base) T) (by decide) rfl fun _ _ _ => rfl
  | 8, _ => deedQ (x := "list_guarantees") (n := 9) T 58 rfl (ok_list_guarantees (P := P) (w := w) (base := base) T) (by decide) rfl fun _ _ _ => rfl
  | 9, _ => deedQ (x := "answer_is_satisfied") (n := 10) T 59 rfl (ok_answer_is_satisfied (P := P) (w := w) (base := base) T) (by decide) rfl fun _ _ _ => rfl
  | 10, _ => deedQ (x := "is_reachable") (n := 11) T 60 rfl (ok_is_reachable (P := P) (w := w) (base := base) T) (by decide) rfl fun _ _ _ => rfl
  | 11, _ => deedQ (x := "count_paths") (n := 12) T 61 rfl (ok_count_paths (P := P) (w := w) (base := base) T) (by decide) rfl fun _ _ _ => rfl
  | 12, _ => deedQ (x := "path_probability") (n := 13) T 62 rfl (ok_path_probability (P := P) (w := w) (base := base) T) (by decide) rfl fun _ _ _ => rfl
  | 13, _ => deedQ (x := "reachable_set") (n := 14) T 63 rfl (ok_reachable_set (P := P) (w := w) (base := base) T) (by decide) rfl fun _ _ _ => rfl
  | 14, _ => deedQ (x := "count_patterns") (n := 15) T 64 rfl (ok_count_patterns (P := P) (w := w) (base := base) T) (by decide) rfl fun _ _ _ => rfl
  | 15, _ => deedQ (x := "answer_zero_word") (n := 16) T 66 rfl (ok_answer_zero_word (P := P) (w := w) (base := base) T) (by decide) rfl fun _ _ _ => rfl
  | 16, _ => deedQ (x := "answer_positive_column_word") (n := 17) T 67 rfl (ok_answer_positive_column_word (P := P) (w := w) (base := base) T) (by decide) rfl fun _ _ _ => rfl
  | 17, _ => deedQ (x := "growth") (n := 18) T 68 rfl (ok_growth (P := P) (w := w) (base := base) T) (by decide) rfl fun _ _ _ => rfl
  | 18, _ => deedQ (x := "max_paths") (n := 19) T 69 rfl (ok_max_paths (P := P) (w := w) (base := base) T) (by decide) rfl fun _ _ _ => rfl
  | 19, _ => deedQ (x := "ergodicity_coefficient") (n := 20) T 70 rfl (ok_ergodicity_coefficient (P := P) (w := w) (base := base) T) (by decide) rfl fun _ _ _ => rfl
  | 20, _ => deedQ (x := "answer_mixing_index") (n := 21) T 71 rfl (ok_answer_mixing_index (P := P) (w := w) (base := base) T) (by decide) rfl fun _ _ _ => rfl
  | 21, _ => deedS (x := "answer_separating_words") T 72 rfl (ok_answer_separating_words (P := P) (w := w) (base := base) T) (by decide)
  | 22, _ => deedQ (x := "get_position") (n := 23) T 73 rfl (ok_get_position (P := P) (w := w) (base := base) T) (by decide) rfl fun _ _ _ => rfl
  | 23, _ => deedQ (x := "preview_walk") (n := 24) T 77 rfl (ok_preview_walk (P := P) (w := w) (base := base) T) (by decide) rfl fun _ _ _ => rfl
  | 24, _ => deedQ (x := "get_log_entry") (n := 25) T 78 rfl (ok_get_log_entry (P := P) (w := w) (base := base) T) (by decide) rfl fun _ _ _ => rfl
  | 25, _ => deedC (x := "undo") (n := 26) T 91 rfl (ok_undo (P := P) (w := w) (base := base) T) (by decide) rfl fun _ _ _ => rfl
  | 26, _ => deedQ (x := "get_state") (n := 27) T 79 rfl (ok_get_state (P := P) (w := w) (base := base) T) (by decide) rfl fun _ _ _ => rfl
  | i + 27, h => absurd h (by omega)
theorem deeds_map : MwH.t_DEEDS.map (He.Dv.v K) = deedNames.map fun x => V.ref (He.ga K x) := rfl
theorem widths_map : MwH.t_WIDTHS.map (He.Dv.v K) = vN widths := rfl
theorem withs_map : MwH.t_WITH_LIST.map (He.Dv.v K) = vN withLists := rfl
theorem Txt.deeds (T : Txt K mg) (H : Hp) : SqT K H (He.ga K "DEEDS") (deedNames.map fun x => V.ref (He.ga K x)) := by
  have h := T.says.2
  unfold MwH.ex at h
  rw [Bool.and_eq_true, Bool.and_eq_true] at h
  exact He.tupB_ok h.2 H
theorem Txt.widths (T : Txt K mg) (H : Hp) : SqT K H (He.ga K "WIDTHS") (vN widths) := by
  have h := T.says.2
  unfold MwH.ex at h
  rw [Bool.and_eq_true, Bool.and_eq_true] at h
  exact He.tupB_ok h.1.1 H
theorem Txt.withs (T : Txt K mg) (H : Hp) : SqT K H (He.ga K "WITH_LIST") (vN withLists) := by
  have h := T.says.2
  unfold MwH.ex at h
  rw [Bool.and_eq_true, Bool.and_eq_true] at h
  exact He.tupB_ok h.1.2 H
/-- answer_to -/
def spAT (K : Frg) : Sp := fun vs H Q _ => ∃ B dd o ws c, vs = .ref dd :: ws ∧ Ex B H ∧ DkIn K B dd o ∧ RpAll K B ws [dI c.num, dL c.nums, dL c.items] ∧ CallIn.Ok c ∧ (∀ m, o = some m → Good m ∧ SepOk m) ∧
  ∀ v B' H', AtI B H B' H' → DkIn K B' dd (answerTo o c.num c.nums c.items).1 → Rp K B' v (dZ (answerTo o c.num c.nums c.items).2) → Q v H'
theorem sc_answer_to : FnScope ["desk", "number", "numbers", "items", "deed"] ["desk", "number", "numbers", "items"] MwH.d_answer_to.scope := ⟨rfl, rfl, rfl, by decide +kernel, rfl, by decide +kernel, by decide +kernel⟩
theorem ok_answer_to (T : Txt K mg) : Has P w K mg base 12 "answer_to" ["desk", "number", "numbers", "items"] (spAT K) := by
  refine has_sp (N := ["desk", "number", "numbers", "items", "deed"]) T 93 rfl rfl rfl rfl rfl sc_answer_to (fun _ _ _ _ _ _ us hl => match us, hl with | [_, _, _, _], _ => rfl) (fun vs H Q E h => by obtain ⟨B, dd, o, ws, c, rfl, _, _, r, _⟩ := h; exact congrArg (· + 1) r.len) fun f cdv A outer s H E hr vs Q hq => ?_
  obtain ⟨B, dd, o, ws, c, rfl, le, dk, r, hc, hg, q⟩ := hq
  obtain ⟨f_create, fd_create, m_create, k_create, b_create, G_create⟩ := ok_create (P := P) (w := w) (base := base) T
  obtain ⟨t_CREATE, c_CREATE⟩ := T.int 127 (x := "CREATE") (z := (0)) rfl
  obtain ⟨t_NO_MODEL, c_NO_MODEL⟩ := T.int 130 (x := "NO_MODEL") (z := (-11)) rfl
  obtain ⟨fd_deed, b_deed, kp_deed, G_deed⟩ := deed_has (P := P) (w := w) (base := base) T (c.num - 1) (by have := hc.le; omega)
  obtain ⟨v1, v2, v3, rfl, r1, r2, r3⟩ := r.n3
  refine ⟨_, (pss_cons (ps_if (pt_cmpR op_eq (pv 1) (pe_glob (v := V.int (0)) (by rfl) c_CREATE ⟨_, rfl⟩) (nomark _)) (pss_one (ps_ret (pe_call G_create (hr.mono (by decide)) (by rfl) m_create k_create b_create .nil pass0 (pa_cons (pv 0) (pa_cons (pe_ix (ix_listK (K := K) rfl) (pv 2) pe_int (fun _ _ => rfl)) pa_nil))))) pss_nil) (pss_cons (ps_if (pt_cmpR op_isN (pe_fldK (K := K) rfl (pv 0) rfl) pe_non (nomark _)) (pss_one (ps_ret (pe_lst (pa_cons (pe_glob (v := V.int (-11)) (by rfl) c_NO_MODEL ⟨_, rfl⟩) pa_nil)))) pss_nil) (pss_cons (ps_set (i := 4) sc_answer_to.nd rfl (Or.inl rfl) (pe_ix (ix_tupK (K := K) rfl) (pe_glob (v := V.ref (He.ga K "DEEDS")) (by rfl) (T.glo 100 (x := "DEEDS") rfl) rfl) (pe_op op_sub (pv 1) pe_int) (fun _ _ => rfl))) (pss_one (ps_ret (pe_callL (i := 4) G_deed (hr.mono (by decide)) rfl (Or.inl rfl) kp_deed b_deed .nil pass0 (pa_cons (pe_fldK (K := K) rfl (pv 0) rfl) (pa_cons (pv 2) (pa_cons (pv 3) pa_nil))))))))), ?_⟩
  refine qd_if (b := decide (c.num = 0)) le (et_test (ev_eq (ev_v rfl r1) (ev_n (a := 0)))) (fun hb H1 e1 => ?_) (fun hb H1 e1 => ?_)
  · have h0 := of_decide_eq_true hb
    have hlen : c.nums.length = 1 := by
      rw [hc.asked.len, h0]
      rfl
    have ea : answerTo o c.num c.nums c.items = create o (c.nums.getD 0 0) := by
      unfold answerTo
      rw [if_pos h0]
    rw [ea] at q
    refine ⟨.ref dd, rfl, (ga_int (K := K) (ev_num (K := K) (i := 0) (gv_var (i := 2) rfl r2) (by omega)) ga_nil) H1 (le.trans e1) _ fun vs B2 H2 a2 r4 => ?_⟩
    obtain ⟨v, rfl, rv⟩ := r4.n1
    exact ⟨B2, dd, o, c.nums.getD 0 0, v, rfl, a2.le, dk.mono a2.base, rv, fun v B' H' a dk' r' => q v B' H' (((At.up le e1).trans a2).toI.trans a) dk' r'⟩
  have h0 := of_decide_eq_false hb
  have le1 := le.trans e1
  cases o with
  | none =>
    have ea : answerTo none c.num c.nums c.items = (none, [-11]) := by
      unfold answerTo
      rw [if_neg h0]
    rw [ea] at q
    obtain ⟨dx, hd⟩ := dk
    have ht : EvT (tTest (tOp rIsN (tFld K (tVar 0) "model") (tC .non))) [some (.ref dd), some v1, some v2, some v3, none] B true := et_test fun H2 e2 Q k => ⟨.ref dd, rfl, dd, CD K, dx, _, .non, rfl, e2 _ _ hd, T.cls 154 rfl, T.noat 156 rfl, rfl, rfl, k H2 (Ex.refl _)⟩
    refine qd_if le1 ht (fun _ H2 e2 => ?_) (fun h => by cases h)
    exact qd_ret (le1.trans e2) gv_one fun v B' H' a r => q v B' H' ((At.up le (e1.trans e2)).trans a).toI ⟨dx, a.base _ _ hd⟩ r
  | some m =>
    have ea : answerTo (some m) c.num c.nums c.items = (some (deed c.num m c.nums c.items).1, (deed c.num m c.nums c.items).2) := by
      unfold answerTo
      rw [if_neg h0]
    rw [ea] at q
    obtain ⟨dx, am, hd, md⟩ := dk
    obtain ⟨hgm, hsm⟩ := hg m rfl
    have hle := hc.le
    have en : c.num - 1 + 1 = c.num := by omega
    have ht : EvT (tTest (tOp rIsN (tFld K (tVar 0) "model") (tC .non))) [some (.ref dd), some v1, some v2, some v3, none] B false := et_test fun H2 e2 Q k => ⟨.ref dd, rfl, dd, CD K, dx, _, .ref am, rfl, e2 _ _ hd, T.cls 154 rfl, T.noat 156 rfl, rfl, rfl, k H2 (Ex.refl _)⟩
    refine qd_if le1 ht (fun h => by cases h) (fun _ H2 e2 => ?_)
    have le2 := le1.trans e2
    have hix : Ev (tOp (rIxT K) (tC (.ref (He.ga K "DEEDS"))) (tOp (rI0 fun i j => .int (i - j)) (tVar 1) (tC (.int 1)))) [some (.ref dd), some v1, some v2, some v3, none] B (.ref (He.ga K (deedNames.getD (c.num - 1) ""))) :=
      ev_op ev_c (ev_sub (by omega) (ev_v rfl r1) (ev_n (a := 1))) (rv_ixT (T.deeds B) (by
        have hl2 : c.num - 1 < deedNames.length := by
          show _ < 27
          omega
        have hl : c.num - 1 < (deedNames.map fun x => V.ref (He.ga K x)).length := by
          rw [List.length_map]
          exact hl2
        rw [atI_nat (List.getElem?_eq_getElem hl), List.getElem_map]
        exact congrArg (fun x => some (V.ref (He.ga K x))) (getD_of_lt hl2).symm))
    refine hix H2 le2 _ fun H3 e3 => ⟨rfl, ⟨.ref dd, rfl, dd, CD K, dx, _, .ref am, rfl, (le2.trans e3) _ _ hd, T.cls 154 rfl, T.noat 156 rfl, rfl, ?_⟩⟩
    refine (ga_cons (gv_var rfl r2) (ga_cons (gv_var rfl r3) ga_nil)) H3 (le2.trans e3) _ fun vs B4 H4 a4 r4 => ?_
    show spC K (UF (c.num - 1 + 1)) (V.ref am :: vs ++ []) H4 _ _
    rw [List.append_nil]
    refine ⟨B4, am, m, vs, _, _, _, rfl, a4.le, md.mono a4.base, r4, ⟨c.nums, c.items, rfl, rfl, rfl, hgm, by rw [en]; exact hc.asked, hsm⟩, fun v B' H' a md' r' => ?_⟩
    rw [en] at md' r'
    have a5 := ((At.up le ((e1.trans e2).trans e3)).trans a4).toI.trans a.i
    exact q v B' H' a5 ⟨dx, am, a.but dd _ (fun z => md.ne hd z.symm) (a4.base _ _ hd), md'⟩ r'
end
end Mw
end
section
set_option Elab.async false
set_option linter.all false
set_option maxRecDepth 100000
set_option maxHeartbeats 4000000
/-! # Walks: list_end and answers -/
namespace Mw
open PySem PySem.Spec PyProof.Rows L2 Evl
open MwH (fn fa)
section
variable {K : Frg} {B0 H0 B H B1 H1 : Hp} {p a : Addr} {o : HO}
theorem AtI.mut (c : AtI B0 H0 B H) (hB : B p = none) (h0 : H0 p = none) : AtI B0 H0 B (upd H p o) := ⟨c.base, fun x u e => by
  rw [upd_ne (ne_of_none e hB)]
  exact c.le x u e, fun x u e h => by
  rw [upd_ne (ne_of_none e h0)]
  exact c.keep x u e h, fun x h => by
  by_cases q : x = p
  · rw [q, upd_same]
    exact fun z => by cases z
  · rw [upd_ne q]
    exact c.dom x h, c.fr⟩
theorem AtI.freeze (c : AtI B0 H0 B H) (hB : B p = none) (h0 : H0 p = none) (hH : H p = some o) : AtI B0 H0 (upd B p o) H := ⟨c.base.trans (.of (Ex.new hB)), fun x u e => by
  by_cases q : x = p
  · subst q
    rw [upd_same] at e
    rw [hH]
    exact e
  · rw [upd_ne q] at e
    exact c.le x u e, c.keep, c.dom, fun x u e => by
  by_cases q : x = p
  · subst q
    exact .inr (.inl h0)
  · rw [upd_ne q] at e
    exact c.fr x u e⟩
theorem AtI.ex (c : AtI B0 H0 B H) (e : Ex H H1) : AtI B0 H0 B H1 := c.at (.up c.le e)
theorem SqL.still {xs : List V} (e : Still B B1) (h : SqL K B a xs) : SqL K B1 a xs := by
  rcases h with (h | ⟨u, h⟩) | h
  · exact .inl (.inl (e _ _ h fun _ _ _ q => by cases q))
  · exact .inl (.inr ⟨u, e _ _ h fun _ _ _ q => by cases q⟩)
  · exact .inr h
section
variable {σ : L2.St} {i : Nat} {te : TE} {tp : TE} {D : Ends} {xs : List V} {d : PyData}
theorem ev_lenSq (hs : σ[i]? = some (some (.ref a))) (h : SqL K B a xs) : Ev (tCB (rLenD K) (tCons (tVar i) tNil)) σ B (.int (xs.length : Int)) := fun H le Q q => ⟨.ref a, hs, a, xs, rfl, .inl (ex_l le h), q H (Ex.refl H)⟩
theorem vN_len (l : List Nat) : (vN l).length = l.length := by simp [vN]
theorem vN_get {l : List Nat} {k : Nat} (h : k < l.length) : atI (vN l) (k : Int) = some (.int ((l.getD k 0 : Nat) : Int)) := by
  exact atI_nat (by
    unfold vN
    rw [List.getElem?_map, List.getElem?_eq_getElem h, getD_of_lt h]
    rfl)
theorem ev_ixSq {l : List Nat} {k : Nat} (hs : σ[i]? = some (some (.ref a))) (h : SqL K B a (vN l)) (hk : Ev te σ B (.int (k : Int))) (hl : k < l.length) : Ev (tOp (rIxL K) (tVar i) te) σ B (.int ((l.getD k 0 : Nat) : Int)) :=
  ev_op (ev_var hs) hk (rv_ixL h (vN_get hl))
theorem rp_vN (l : List Nat) : RpAll K B (vN l) ((zs l).map PyData.int) := by
  have e : vN l = (zs l).map V.int := by
    unfold vN zs
    rw [List.map_map]
    rfl
  rw [e]
  exact .ints _
theorem gv_slSq {l : List Nat} {tlo thi : TO} {lo hi : Option Int} {b e : Nat} (hs : σ[i]? = some (some (.ref a))) (h : SqL K B a (vN l)) (hl : EvO tlo σ B lo) (hh : EvO thi σ B hi) (e1 : HT.sIx l.length 0 lo = b) (e2 : HT.sIx l.length l.length hi = e) :
    Gv K (tSl (rSlL K) (tVar i) tlo thi) σ B (dL ((l.drop b).take (e - b))) := Gv.ofL (el_sl (ev_var hs) hl hh h) (by
  unfold cutV
  rw [vN_len, e1, e2]
  show RpAll K B _ ((zs _).map PyData.int)
  rw [← dL_cut]
  exact ((rp_vN l).drop b).take _)
theorem sd_appendI (c : AtI B0 H0 B H) (h0 : H0 p = none) (hB : B p = none) (hp : H p = some (.lst xs)) (hl : xs.length < 16777216) (he : ∀ H', Ex H H' → Ev tp σ H' (.ref p)) (h : Gv K te σ B d)
    (k : ∀ v B' H', AtI B0 H0 B' H' → Ex B B' → B' p = none → Rp K B' v d → H' p = some (.lst (xs ++ [v])) → D.nx σ H') : tDrop (tBM K "list" rAppend tp (tCons te tNil)) D σ H :=
  he H (Ex.refl _) H (Ex.refl _) _ fun H1 e1 => ⟨Or.inl ⟨rfl, xs, sq_of (e1 p _ hp)⟩, h H1 (c.le.trans e1) _ fun v B2 H2 a2 r2 => by
    have a3 : At B H B2 H2 := (At.up c.le e1).trans a2
    have hp2 : H2 p = some (.lst xs) := a3.keep p _ hp
    have n2 : B2 p = none := a3.off hB hp lst_tup
    exact ⟨p, xs, v, rfl, rfl, hp2, hl, k v B2 _ ((c.at a3).mut n2 h0) a2.base n2 r2 upd_same⟩⟩
theorem sd_extendI {es : List PyData} (c : AtI B0 H0 B H) (h0 : H0 p = none) (hB : B p = none) (hp : H p = some (.lst xs)) (hl : xs.length + es.length ≤ 16777216) (he : ∀ H', Ex H H' → Ev tp σ H' (.ref p)) (h : Gv K te σ B (.list es))
    (k : ∀ ys B' H', AtI B0 H0 B' H' → Ex B B' → B' p = none → RpAll K B' ys es → H' p = some (.lst (xs ++ ys)) → D.nx σ H') : tDrop (tBM K "list" rExtend tp (tCons te tNil)) D σ H :=
  he H (Ex.refl _) H (Ex.refl _) _ fun H1 e1 => ⟨Or.inl ⟨rfl, xs, sq_of (e1 p _ hp)⟩, h H1 (c.le.trans e1) _ fun v B2 H2 a2 r2 => by
    have a3 : At B H B2 H2 := (At.up c.le e1).trans a2
    have hp2 : H2 p = some (.lst xs) := a3.keep p _ hp
    have n2 : B2 p = none := a3.off hB hp lst_tup
    obtain ⟨b, ys, rfl, hb, ry⟩ := r2.isLst
    exact ⟨p, b, xs, ys, rfl, rfl, hp2, a2.le b _ hb, (by rw [ry.len]; exact hl), k ys B2 _ ((c.at a3).mut n2 h0) a2.base n2 ry upd_same⟩⟩
end
end
theorem inV_ints (n : Nat) : ∀ l : List Nat, inV (.int (n : Int)) (vN l) = l.contains n
  | [] => rfl
  | x :: r => by
    have ih := inV_ints n r
    unfold inV at ih ⊢
    show (((x : Int) == (n : Int)) || (vN r).any fun y => eqV y (.int (n : Int))) = _
    rw [ih, List.contains_cons]
    refine congrArg (· || r.contains n) ?_
    by_cases h : n = x
    · subst h
      simp
    · have e1 : ((x : Int) == (n : Int)) = false := beq_eq_false_iff_ne.mpr (by omega)
      have e2 : (n == x) = false := beq_eq_false_iff_ne.mpr h
      rw [e1, e2]
theorem flatV_ints : ∀ l : List Nat, (vN l).all flatV = true
  | [] => rfl
  | x :: r => by
    show (flatV (V.int (x : Int)) && (vN r).all flatV) = true
    rw [flatV_ints r]
    rfl
section
variable {P : Program} {w : World} {K : Frg} {mg : Str → Option Value} {base : Heap}
/-- list_end -/
def spLE (K : Frg) : Sp := fun ws H Q _ => ∃ B a xs n p, ws = [.ref a, .int ((n : Nat) : Int), .int ((p : Nat) : Int)] ∧ Ex B H ∧ SqL K B a (vN xs) ∧ (withList n = true → p < xs.length) ∧
  ∀ B' H', At B H B' H' → Q (.int ((if withList n then p + 1 + xs.getD p 0 else p : Nat) : Int)) H'
theorem sc_list_end : FnScope ["calls", "number", "place"] ["calls", "number", "place"] MwH.d_list_end.scope := ⟨rfl, rfl, rfl, by decide +kernel, rfl, by decide +kernel, by decide +kernel⟩
theorem ok_list_end (T : Txt K mg) : Has P w K mg base 1 "list_end" ["calls", "number", "place"] (spLE K) := by
  refine has_sp (N := ["calls", "number", "place"]) T 94 rfl rfl rfl rfl rfl sc_list_end (fun _ _ _ _ _ _ us hl => match us, hl with | [_, _, _], _ => rfl) (fun vs H Q E h => by obtain ⟨B, a, xs, n, p, rfl, _⟩ := h; rfl) fun f cdv A outer s H E hr vs Q hq => ?_
  obtain ⟨B, a, xs, n, p, rfl, le, hS, hp, q⟩ := hq
  refine ⟨_, (pss_cons (ps_if (pt_cmpR (op_in_seqK (K := K) rfl) (pv 1) (pe_glob (v := V.ref (He.ga K "WITH_LIST")) (by rfl) (T.glo 99 (x := "WITH_LIST") rfl) rfl) (by with_unfolding_all rfl)) (pss_one (ps_ret (pe_op op_add (pe_op op_add (pv 2) pe_int) (pe_ix (ix_listK (K := K) rfl) (pv 0) (pv 2) (fun _ _ => rfl))))) pss_nil) (pss_one (ps_ret (pv 2)))), ?_⟩
  have hin : Ev (tOp (rIn K false) (tVar 1) (tC (.ref (He.ga K "WITH_LIST")))) [some (.ref a), some (.int (n : Int)), some (.int (p : Int))] B (.bl (withList n)) :=
    ev_is (ev_op (ev_var rfl) ev_c (rv_isT (T.withs B) rfl (flatV_ints withLists))) (congrArg V.bl (inV_ints n withLists))
  refine qd_if (b := withList n) le (et_test hin) (fun hb H1 e1 => ?_) (fun hb H1 e1 => ?_)
  · rw [hb, if_pos rfl] at q
    exact sd_retV (le.trans e1) (ev_add (ev_add (ev_var rfl) (ev_n (a := 1))) (ev_ixSq rfl hS (ev_var rfl) (hp hb))) fun H' e2 => q B H' (At.up le (e1.trans e2))
  · rw [hb, if_neg (by decide)] at q
    exact sd_retV (le.trans e1) (ev_var rfl) fun H' e2 => q B H' (At.up le (e1.trans e2))
/-- the same over every base -/
def HasB (P : Program) (w : World) (K : Frg) (mg : Str → Option Value) (k : Nat) (x : Str) (ps : List Str) (sp : Sp) : Prop :=
  ∃ f fd, mg x = some (.ref f) ∧ PySem.W.keepIn K (.ref f) = true ∧ (∀ (s : Shared) (us : List Value), us.length = ps.length → BindsTo s fd ⟨us, []⟩ (ps.zip us)) ∧ ∀ base, FnOk P w K mg base CX0 k f fd ps sp
theorem has_spB (T : Txt K mg) {x : Str} {d : He.DefD} {N ps : List Str} {k : Nat} {sp : Sp} (i : Nat) (h1 : fn[i]? = some d) (h2 : fa[i]? = some (.glo x)) (ha : d.at_ = (x, none)) (hd : d.dfl = []) (hk : d.kwd = []) (S : FnScope N ps d.scope)
    (hb : ∀ (kV doc pm : Value) (an : Option Addr) (cdv ct : Value) (us : List Value), us.length = ps.length → bindArgs (PySem.W.fnOf d.name d.qual d.params d.body d.scope .none kV doc pm an cdv ct) ⟨us, []⟩ = pure (ps.zip us))
    (hlen : ∀ vs H Q E, sp vs H Q E → vs.length = ps.length)
    (hbody : ∀ (base : Heap) (f : Addr) (cdv : Value) (A : Around) (outer : List Env) (s : Shared) (H : Hp) (E : XK), Room k (A.deeper (envOfC d.qual d.scope s.heap.objs.size f cdv)) → ∀ (vs : List V) (Q : VK), sp vs H Q E →
      ∃ t, PSs (cxOf CX0 P w K mg base N d.qual d.scope f cdv A outer s H E).nox d.body t ∧ t { nx := fun _ H' => Q .non H', rt := Q } (start N vs) H) : HasB P w K mg (k + 1) x ps sp := by
  obtain ⟨f, fd, gm, FF⟩ := T.def_ i h1 h2 ha hd hk
  refine ⟨f, fd, gm, FF.kp, FF.bindsA hb, fun base => FF.ok S hlen fun cdv A outer s H vs Q E hr h => ?_⟩
  obtain ⟨t, h3, h4⟩ := hbody base f cdv A outer s H E hr vs Q h
  exact ⟨t, PSs.nox h3, h4⟩
/-- answers -/
def spAns (K : Frg) : Sp := fun ws H Q _ => ∃ B a cs, ws = [.ref a] ∧ Ex B H ∧ SqL K B a (vN (flats cs)) ∧ (∀ c ∈ cs, CallIn.Ok c) ∧ Fine cs ∧ (toldAll none cs).length ≤ 10000000 ∧ ∀ v B' H', AtI B H B' H' → Rp K B' v (dZ (toldAll none cs)) → Q v H'
theorem flats_pos {r : List CallIn} (h : flats r = []) : r = [] := by
  cases r with
  | nil => rfl
  | cons c r => cases h
/-- places in the list -/
theorem at_num (done rest : List CallIn) (c : CallIn) : (flats (done ++ c :: rest)).getD (flats done).length 0 = c.num := by
  rw [flats_append, flats_cons, List.getD_eq_getElem?_getD, List.getElem?_append_right (Nat.le_refl _), Nat.sub_self]
  rfl
theorem at_nums (done rest : List CallIn) (c : CallIn) (k : Nat) (hk : c.nums.length = k) : ((flats (done ++ c :: rest)).drop ((flats done).length + 1)).take k = c.nums := by
  rw [flats_append, flats_cons, List.drop_append, List.drop_of_length_le (by omega), List.nil_append, show (flats done).length + 1 - (flats done).length = 1 by omega]
  show ((c.nums ++ c.tail) ++ flats rest).take k = _
  rw [← hk, List.append_assoc, List.take_left]
theorem at_tail (done rest : List CallIn) (c : CallIn) (k : Nat) (hk : c.nums.length = k) : (flats (done ++ c :: rest)).drop ((flats done).length + 1 + k) = c.tail ++ flats rest := by
  rw [flats_append, flats_cons, List.drop_append, List.drop_of_length_le (by omega), List.nil_append, show (flats done).length + 1 + k - (flats done).length = k + 1 by omega]
  show ((c.nums ++ c.tail) ++ flats rest).drop k = _
  rw [← hk, List.append_assoc, List.drop_left]
theorem flats_one (done : List CallIn) (c : CallIn) : (flats (done ++ [c])).length = (flats done).length + (1 + c.nums.length + c.tail.length) := by
  rw [flats_append, List.length_append, flats_cons, List.length_append, call_len]
  rfl
theorem tail_len (c : CallIn) : c.tail.length = if withList c.num then 1 + c.items.length else 0 := by
  unfold CallIn.tail
  split <;> simp [Nat.add_comm]
theorem sc_answers : FnScope ["calls", "desk", "found", "at", "number", "middle", "behind", "told"] ["calls"] MwH.d_answers.scope := ⟨rfl, rfl, rfl, by decide +kernel, rfl, by decide +kernel, by decide +kernel⟩
theorem ok_answers (T : Txt K mg) : HasB P w K mg 13 "answers" ["calls"] (spAns K) := by
  refine has_spB (N := ["calls", "desk", "found", "at", "number", "middle", "behind", "told"]) T 95 rfl rfl rfl rfl rfl sc_answers (fun _ _ _ _ _ _ us hl => match us, hl with | [_], _ => rfl) (fun vs H Q E h => by obtain ⟨B, a, cs, rfl, _⟩ := h; rfl) fun base f cdv A outer s H E hr vs Q hq => ?_
  obtain ⟨B, a, cs, rfl, le, hS, hok, hfine, hbig, q⟩ := hq
  obtain ⟨f_list_end, fd_list_end, m_list_end, k_list_end, b_list_end, G_list_end⟩ := ok_list_end (P := P) (w := w) (base := base) T
  obtain ⟨f_answer_to, fd_answer_to, m_answer_to, k_answer_to, b_answer_to, G_answer_to⟩ := ok_answer_to (P := P) (w := w) (base := base) T
  obtain ⟨fdi_Desk, bi_Desk, Gi_Desk⟩ := ok_Desk_init (P := P) (w := w) (base := base) T
  have Mk_Desk := T.mkr 155 (x := "Desk") rfl
  refine ⟨_, (pss_cons (ps_par3 (i := 1) (j := 2) (l := 3) rfl sc_answers.nd rfl rfl rfl (by decide) (by decide) (by decide) rfl rfl rfl (pa_cons (pe_make0 Mk_Desk Gi_Desk (hr.mono (by decide)) (by rfl) (T.glo 97 rfl) bi_Desk .nil pass0) (pa_cons (pe_lst pa_nil) (pa_cons pe_int pa_nil))) (by rfl)) (pss_cons (ps_while PassesOwn.never (pt_cmpR op_lt (pv 3) (pe_callB (call_lenK (K := K) rfl) (by rfl) (T.free 131 rfl) (by decide +kernel) (pa_cons (pv 0) pa_nil)) (nomark _)) (pss_cons (ps_par (i := 4) (j := 5) rfl sc_answers.nd rfl rfl (by decide) rfl rfl (pa_cons (pe_ix (ix_listK (K := K) rfl) (pv 0) (pv 3) (fun _ _ => rfl)) (pa_cons (pe_op op_add (pe_op op_add (pv 3) pe_int) (pe_ix (ix_tupK (K := K) rfl) (pe_glob (v := V.ref (He.ga K "WIDTHS")) (by rfl) (T.glo 98 (x := "WIDTHS") rfl) rfl) (pe_ix (ix_listK (K := K) rfl) (pv 0) (pv 3) (fun _ _ => rfl)) (fun _ _ => rfl))) pa_nil)) (by rfl)) (pss_cons (ps_set (i := 6) sc_answers.nd rfl (Or.inl rfl) (pe_call G_list_end (hr.mono (by decide)) (by rfl) m_list_end k_list_end b_list_end .nil pass0 (pa_cons (pv 0) (pa_cons (pv 4) (pa_cons (pv 5) pa_nil))))) (pss_cons (ps_set (i := 7) sc_answers.nd rfl (Or.inl rfl) (pe_call G_answer_to (hr.mono (by decide)) (by rfl) m_answer_to k_answer_to b_answer_to .nil pass0 (pa_cons (pv 1) (pa_cons (pv 4) (pa_cons (pe_slice (sl_listK (K := K) rfl) (pv 0) (po_some (pe_op op_add (pv 3) pe_int)) (po_some (pv 5))) (pa_cons (pe_slice (sl_listK (K := K) rfl) (pv 0) (po_some (pe_op op_add (pv 5) pe_int)) (po_some (pv 6))) pa_nil)))))) (pss_cons (ps_expr (pe_bm PySem.F.plainAttrs_list PySem.F.slot_list_append PySem.F.type_list_append mt_append (pv 2) (pa_cons (pe_callB (call_lenK (K := K) rfl) (by rfl) (T.free 131 rfl) (by decide +kernel) (pa_cons (pv 7) pa_nil)) pa_nil))) (pss_cons (ps_expr (pe_bm PySem.F.plainAttrs_list PySem.F.slot_list_extend PySem.F.type_list_extend mt_extend (pv 2) (pa_cons (pv 7) pa_nil))) (pss_one (ps_set (i := 3) sc_answers.nd rfl (Or.inl rfl) (pv 6))))))))) (pss_one (ps_ret (pv 2))))), ?_⟩
  refine fun x dy hx hdy hne => ⟨B, H, x, dy, rfl, hx, (Ex.new hdy).trans (Ex.new (by rw [upd_ne (Ne.symm hne)]; exact hx)), le, upd_same, fun B1 H1 a1 dk1 => ⟨rfl, ⟨Nat.zero_le _, fun p hp => ⟨_, _, _, rfl, ?_⟩⟩⟩⟩
  have h0p : H p = none := fresh_back a1.keep hp
  have b1 : AtI B H B1 (upd H1 p (.lst [])) := (a1.trans (.aside a1.le hp)).toI
  refine q_while (fun mm σ' H' => ∃ (done rest : List CallIn) (Bi : Hp) (acc : List V) (v4 v5 v6 v7 : Option V), cs = done ++ rest ∧ mm = rest.length ∧ σ' = [some (.ref a), some (.ref x), some (.ref p), some (.int (((flats done).length : Nat) : Int)), v4, v5, v6, v7] ∧ AtI B H Bi H' ∧ Bi p = none ∧ H' p = some (.lst acc) ∧ RpAll K Bi acc ((toldAll none done).map .int) ∧ DkIn K Bi x (after none done))
    cs.length ⟨[], cs, B1, [], none, none, none, none, rfl, rfl, rfl, b1, fresh_back a1.le hp, upd_same, .nil, dk1⟩ ?_
  rintro mm σ' H' ⟨done, rest, Bi, acc, v4, v5, v6, v7, hcs, rfl, rfl, b, hBp, hp, racc, dk⟩
  have hSi := SqL.still b.base hS
  refine ⟨decide ((flats done).length < (flats cs).length), (et_test (ev_lt (ev_var rfl) (ev_is (ev_lenSq rfl hSi) (by rw [vN_len])))).mono b.le, fun hb H2 e2 => ?_, fun hb H2 e2 => ?_⟩
  · have hlt := of_decide_eq_true hb
    cases rest with
    | nil =>
      rw [List.append_nil] at hcs
      rw [hcs] at hlt
      omega
    | cons c rest =>
      refine ⟨fun σ2 H2 => ∃ m', m' < (c :: rest).length ∧ ∃ (done rest : List CallIn) (Bi : Hp) (acc : List V) (v4 v5 v6 v7 : Option V), cs = done ++ rest ∧ m' = rest.length ∧ σ2 = [some (.ref a), some (.ref x), some (.ref p), some (.int (((flats done).length : Nat) : Int)), v4, v5, v6, v7] ∧ AtI B H Bi H2 ∧ Bi p = none ∧ H2 p = some (.lst acc) ∧ RpAll K Bi acc ((toldAll none done).map .int) ∧ DkIn K Bi x (after none done), fun _ _ h => h, ?_⟩
      have hc := hok c (by rw [hcs]; exact List.mem_append_right _ (List.mem_cons_self ..))
      have hlen := hc.asked.len
      have b2 := b.ex e2
      have hp2 := e2 _ _ hp
      have hnum : (flats cs).getD (flats done).length 0 = c.num := by rw [hcs]; exact at_num done rest c
      have hnums := at_nums done rest c _ hlen
      have htail := at_tail done rest c _ hlen
      rw [← hcs] at hnums htail
      have hall : (flats cs).length = (flats done).length + (1 + width c.num + c.tail.length) + (flats rest).length := by
        rw [hcs, flats_append, List.length_append, flats_cons, List.length_append, call_len, hlen]
        omega
      have ixn : Ev (tOp (rIxL K) (tVar 0) (tVar 3)) [some (.ref a), some (.ref x), some (.ref p), some (.int (((flats done).length : Nat) : Int)), v4, v5, v6, v7] Bi (.int ((c.num : Nat) : Int)) := ev_is (ev_ixSq rfl hSi (ev_var rfl) hlt) (by rw [hnum])
      have wid : Ev (tOp (rIxT K) (tC (.ref (He.ga K "WIDTHS"))) (tOp (rIxL K) (tVar 0) (tVar 3))) [some (.ref a), some (.ref x), some (.ref p), some (.int (((flats done).length : Nat) : Int)), v4, v5, v6, v7] Bi (.int ((width c.num : Nat) : Int)) :=
        ev_op ev_c ixn (rv_ixT (T.widths Bi) (vN_get (l := widths) (by have := hc.le; show c.num < 28; omega)))
      refine qd_par (K := K) (d1 := dI c.num) (d2 := dI ((flats done).length + 1 + width c.num)) b2.le (ga_int ixn (ga_int (ev_add (ev_add (ev_var rfl) (ev_n (a := 1))) wid) ga_nil)) fun u4 u5 B3 H3 a3 r4 r5 => ?_
      obtain rfl := r4.isInt
      obtain rfl := r5.isInt
      have b3 := b2.at a3
      have hSj := SqL.still (Still.of a3.base) hSi
      have hmid : withList c.num = true → (flats done).length + 1 + width c.num < (flats cs).length := fun hw => by
        have := tail_len c
        rw [if_pos hw] at this
        omega
      have hend : (if withList c.num then (flats done).length + 1 + width c.num + 1 + (flats cs).getD ((flats done).length + 1 + width c.num) 0 else (flats done).length + 1 + width c.num) = (flats (done ++ [c])).length := by
        rw [flats_one, hlen, tail_len]
        split
        · rename_i hw
          have e : (flats cs).getD ((flats done).length + 1 + width c.num) 0 = c.items.length := by
            have h1 := congrArg (fun l : List Nat => l.getD 0 0) htail
            simp only [List.getD_eq_getElem?_getD, List.getElem?_drop, Nat.add_zero] at h1
            rw [List.getD_eq_getElem?_getD, h1]
            unfold CallIn.tail
            rw [if_pos hw]
            rfl
          rw [e]
          omega
        · omega
      have gend : ∀ E : XK, Gv K (tCall (spLE K) [] E (tCons (tVar 0) (tCons (tVar 4) (tCons (tVar 5) tNil)))) [some (.ref a), some (.ref x), some (.ref p), some (.int (((flats done).length : Nat) : Int)), some (.int ((c.num : Nat) : Int)), some (.int ((((flats done).length + 1 + width c.num) : Nat) : Int)), v6, v7] B3 (dI (flats (done ++ [c])).length) := fun E H le Q q => ⟨_, rfl, _, rfl, _, rfl, B3, a, flats cs, c.num, _, rfl, le, hSj, hmid, fun B' H' a' => by
          rw [hend]
          exact q _ B' H' a' (.int _)⟩
      refine qd_asg (d := dI (flats (done ++ [c])).length) b3.le (gend _) fun u6 B4 H4 a4 r6 => ?_
      obtain rfl := r6.isInt
      have b4 := b3.at a4
      have hSk := SqL.still (Still.of a4.base) hSj
      have hp4 := a4.keep _ _ (a3.keep _ _ hp2)
      have hB4 : B4 p = none := a4.off (a3.off hBp hp2 lst_tup) (a3.keep _ _ hp2) lst_tup
      have dk4 := (dk.mono a3.base).mono a4.base
      have hitems : ((flats cs).drop (min ((flats done).length + 1 + width c.num + 1) (flats cs).length)).take ((flats (done ++ [c])).length - min ((flats done).length + 1 + width c.num + 1) (flats cs).length) = c.items := by
        cases hw : withList c.num with
        | true =>
          have h1 := hmid hw
          have h2 := tail_len c
          have h3 := flats_one done c
          rw [hw, if_pos rfl] at h2
          rw [Nat.min_eq_left (by omega), ← List.drop_drop, htail]
          unfold CallIn.tail
          rw [hw, if_pos rfl, h3, hlen, h2]
          show (c.items ++ flats rest).take _ = _
          rw [show (flats done).length + (1 + width c.num + (1 + c.items.length)) - ((flats done).length + 1 + width c.num + 1) = c.items.length by omega, List.take_left]
        | false =>
          have h2 := tail_len c
          have h3 := flats_one done c
          rw [hw, if_neg (by decide)] at h2
          rw [hc.no hw, show (flats (done ++ [c])).length - min ((flats done).length + 1 + width c.num + 1) (flats cs).length = 0 by omega, List.take_zero]
      refine ⟨_, rfl, (ga_int (ev_var rfl) (ga_cons (Gv.is (gv_slSq (b := (flats done).length + 1) (e := (flats done).length + 1 + width c.num) rfl hSk (eo_some (ev_add (ev_var rfl) (ev_n (a := 1)))) (eo_some (ev_var rfl)) (sIx_nat _ _ _ (by omega)) (sIx_nat _ _ _ (by omega))) (by rw [show (flats done).length + 1 + width c.num - ((flats done).length + 1) = width c.num by omega, hnums])) (ga_cons (Gv.is (gv_slSq (b := min ((flats done).length + 1 + width c.num + 1) (flats cs).length) (e := (flats (done ++ [c])).length) rfl hSk (eo_some (ev_add (ev_var rfl) (ev_n (a := 1)))) (eo_some (ev_var rfl)) (HT.sIx_nat _ _ _) (sIx_nat _ _ _ (by have := flats_one done c; omega))) (by rw [hitems])) ga_nil))) H4 b4.le _ fun vs B5 H5 a5 r7 => ?_⟩
      show spAT K (V.ref x :: vs ++ []) H5 _ _
      rw [List.append_nil]
      refine ⟨B5, x, _, vs, c, rfl, a5.le, dk4.mono a5.base, r7, hc, hfine done (c :: rest) hcs, fun u7 B6 H6 a6 dk6 r8 => ?_⟩
      have b6 := (b4.at a5).trans a6
      have hp5 := a5.keep _ _ hp4
      have hB5 := a5.off hB4 hp4 lst_tup
      have hp6 : H6 p = some (.lst acc) := a6.keep _ _ hp5 lst_ins
      have hB6 := a6.off hB5 hp5 lst_tup lst_ins
      have racc6 := ((((racc.mono a3.base).mono a4.base).mono a5.base).still a6.base)
      have htold := toldAll_one none done c
      have hbig2 : (toldAll none (done ++ [c])).length ≤ 10000000 := by
        have e : cs = (done ++ [c]) ++ rest := by rw [hcs, List.append_assoc]; rfl
        rw [e, toldAll_append, List.length_append] at hbig
        omega
      have hacc := racc.len
      rw [List.length_map] at hacc
      rw [htold, List.length_append, List.length_cons] at hbig2
      refine sd_appendI (d := dI (answerTo (after none done) c.num c.nums c.items).2.length) b6 h0p hB6 hp6 (by omega) (fun H' _ => ev_var rfl) (.int (ev_is (ev_lenL (ga_cons (gv_var rfl r8) ga_nil)) (by rw [List.length_map]))) fun u8 B7 H7 b7 e7 hB7 r9 hp7 => ?_
      refine sd_extendI b7 h0p hB7 hp7 (by rw [List.length_append, List.length_map]; show _ + 1 + _ ≤ _; omega) (fun H' _ => ev_var rfl) (gv_var rfl (r8.mono e7)) fun ys B8 H8 b8 e8 hB8 rys hp8 => ?_
      refine sd_asg (K := K) (d := dI (flats (done ++ [c])).length) b8.le (.int (ev_var rfl)) fun u9 B9 H9 a9 r10 => ?_
      obtain rfl := r10.isInt
      refine ⟨rest.length, Nat.lt_succ_self _, done ++ [c], rest, B9, (acc ++ [u8]) ++ ys, _, _, _, _, by rw [hcs, List.append_assoc]; rfl, rfl, rfl, b8.at a9, a9.off hB8 hp8 lst_tup, a9.keep _ _ hp8, ?_, ?_⟩
      · rw [htold, List.map_append, List.map_cons]
        have h1 := ((racc6.mono e7).append (.one r9)).mono e8
        have h2 := (h1.append rys).mono a9.base
        rw [List.append_assoc (List.map PyData.int (toldAll none done))] at h2
        exact h2
      · rw [after_one]
        exact ((dk6.mono e7).mono e8).mono a9.base
  · have hge := of_decide_eq_false hb
    have hr : rest = [] := flats_pos (List.eq_nil_of_length_eq_zero (by
      rw [hcs, flats_append, List.length_append] at hge
      omega))
    rw [hr, List.append_nil] at hcs
    subst hcs
    have b2 := b.ex e2
    have hp2 := e2 _ _ hp
    exact ⟨_, rfl, q _ _ _ (b2.freeze hBp h0p hp2) (.lst upd_same (racc.mono (Ex.new hBp)))⟩
end
end Mw
end
section
set_option Elab.async false
set_option linter.all false
set_option maxRecDepth 100000
set_option maxHeartbeats 4000000
/-! # The walk's end: from the plain law to the statement -/
namespace Mw
open PySem PySem.Spec PyProof.Rows L2 Evl
open PySem.W (WData Codec OpenSpec Well WellAll ReadsW ReadsAllW)
open MwH (qv loose hookE dAns R)
/-- what is asked as calls, what is due as told -/
def PlainLaw : Prop := ∀ l : List Int, PyKv426.answers_asked l = true → ∃ cs : List CallIn, l = zs (flats cs) ∧ (∀ c ∈ cs, CallIn.Ok c) ∧ Fine cs ∧ (toldAll none cs).length ≤ 10000000 ∧ toldAll none cs = PyKv426.answers l
theorem room14 : Room 14 callerA := ⟨rfl, by decide, by decide⟩
theorem walk_law (law : PlainLaw) : PySem.W.WalkOS qv loose (PySem.W.XL qv []) hookE.says R dAns [] (fun f vs => PySem.call f vs) := by
  intro w s₀ s₁ mg mb G Y fa o pm cd doc dV kV ho hd hcd hD hmg hg args vals as hpre hlay hrd hwl hlo
  obtain ⟨a, e1, e2⟩ := PySem.W.os_pre_some hpre
  obtain ⟨e3, hwi⟩ := Codec.encAll_of_decAll R.args args a e1
  subst e3
  obtain ⟨K, KX, says⟩ := Y
  have T : Txt K mg := ⟨says, s₁.heap, KX, G.T.g⟩
  obtain ⟨f, fd, gm, kp, hb, hF⟩ := ok_answers (P := R.prog) (w := w) T
  have ef : fa = f := by
    have e : mg "answers" = some (.ref fa) := hmg
    rw [gm] at e
    injection (Option.some.inj e) with e
    exact e.symm
  subst ef
  refine PySem.W.enter_call (codeAny_mono (spec_call (R := []) (cl := classAt s₀.heap) (d0 := R.ret.enc (Codec.app R.args R.f a)) (ps := ["calls"]) (sp := spAns K) KX G.T.g G.T.b G.T.builtins G.T.nolimit hg hwl (pl_encAll _ _) (layable_weight hlay) room14 (fun base h1 h2 => (hF base).mono (by decide)) hb (by rw [encAll_len]; rfl)
    (fun H xs hO hS => ?_) fun H e s' z => z) fun r' s' hq => ?_)
  · obtain ⟨l, u⟩ := a
    obtain ⟨cs, el, hok, hfine, hbig, htold⟩ := law l e2
    have hS2 : DwAll K H xs [.list (l.map WData.int)] := hS
    cases hS2 with
    | cons h1 h2 =>
      cases h2
      cases h1 with
      | lst hs ha =>
        have ei := ints_dw _ _ ha
        subst ei
        refine ⟨H, _, cs, rfl, Ex.refl H, ?_, hok, hfine, hbig, fun v B' H' a' r' => ?_⟩
        · have e : vN (flats cs) = l.map V.int := by
            rw [el]
            unfold vN zs
            rw [List.map_map]
            rfl
          rw [e]
          exact hs
        · rw [htold] at r'
          obtain ⟨b, ys, rfl, hb2, ry⟩ := r'.isLst
          have e2 := ry.isInts
          subst e2
          exact Dw.lst (sq_of (a'.le _ _ hb2)) (dw_ints _)
  · obtain ⟨u, as', rfl, h1, h2, h3, h4⟩ := hq
    exact ⟨.inl ⟨u, _, as', rfl, fun _ => rfl, h1, (OpenSpec.post_iff (by decide +kernel) hwi _ _).mpr rfl, fun z => Bool.noConfusion (show false = true from z)⟩, h2, h3, h4⟩
end Mw
end
section
namespace Mw
open Kv414 (Q)
/-! ### products of chances -/
section
variable {n : Nat}
theorem row_slice {e : List Nat} (hl : e.length = n * n) {i : Nat} (hi : i < n) : (e.drop (i * n)).take n = (List.range n).map fun j => e.getD (i * n + j) 0 := by
  have hle : (i + 1) * n ≤ n * n := Nat.mul_le_mul_right n hi
  rw [Nat.add_mul, Nat.one_mul] at hle
  have len : ((e.drop (i * n)).take n).length = n := by
    rw [List.length_take, List.length_drop, hl]
    omega
  refine ext_getD (d := 0) (by simp [len]) fun j hj => ?_
  rw [len] at hj
  rw [getD_map_range hj, List.getD_eq_getElem?_getD, List.getD_eq_getElem?_getD, List.getElem?_take_of_lt hj, List.getElem?_drop]
theorem rowSum_eq {e : List Nat} (hl : e.length = n * n) {i : Nat} (hi : i < n) : rowSum n e i = ((List.range n).map fun j => e.getD (i * n + j) 0).sum := by
  unfold rowSum
  rw [row_slice hl hi]
theorem cut_row {e : List Nat} {i : Nat} (hi : i < n) : (Kv424.cutUp n e).getD i [] = (List.range n).map fun j => e.getD (i * n + j) 0 := by
  unfold Kv424.cutUp
  rw [getD_map_range hi]
theorem cut_row_slice {e : List Nat} (hl : e.length = n * n) {i : Nat} (hi : i < n) : (Kv424.cutUp n e).getD i [] = (e.drop (i * n)).take n := by
  rw [row_slice hl hi, cut_row hi]
theorem sum_pos_any : ∀ l : List Nat, (l.any fun v => v != 0) = decide (0 < l.sum)
  | [] => rfl
  | x :: r => by
    rw [List.any_cons, sum_pos_any r, List.sum_cons]
    by_cases h : x = 0
    · subst h
      rw [Nat.zero_add]
      rfl
    · rw [show (x != 0) = true from bne_iff_ne.mpr h, Bool.true_or, decide_eq_true (by omega)]
theorem okT_eq {e : List Nat} (hl : e.length = n * n) : Kv425.okT n (Kv424.cutUp n e) = noZeroRow n e := by
  unfold Kv425.okT noZeroRow Kv424.cutUp
  rw [List.all_map]
  rw [Bool.eq_iff_iff, List.all_eq_true, List.all_eq_true]
  refine forall_congr' fun i => ?_
  by_cases hi : i < n
  · show _ ∈ _ → (List.any _ _) = true ↔ _
    rw [rowSum_eq hl hi, sum_pos_any]
  · exact ⟨fun _ h => absurd (List.mem_range.mp h) hi, fun _ h => absurd (List.mem_range.mp h) hi⟩
theorem hasP_eq {ms : List (List Nat)} (hm : ∀ e ∈ ms, e.length = n * n) : (cut n ms).all (Kv425.okT n) = areChances n ms := by
  unfold cut areChances
  rw [List.all_map, Bool.eq_iff_iff, List.all_eq_true, List.all_eq_true]
  refine forall_congr' fun e => ?_
  by_cases he : e ∈ ms
  · show _ → Kv425.okT n (Kv424.cutUp n e) = true ↔ _
    rw [okT_eq (hm e he)]
  · exact ⟨fun _ h => absurd h he, fun _ h => absurd h he⟩
/-- a table of fractions: entries over one denominator -/
structure IsM (n : Nat) (M : Kv425.Chances) (x : List Nat) (b : Nat) : Prop where
  pos : 0 < b
  ent : ∀ i j, i < n → j < n → Is (Kv425.at_ M i j) (x.getD (i * n + j) 0) b
theorem at_grid {f : Nat → Nat → Q} {i j : Nat} (hi : i < n) (hj : j < n) : Kv425.at_ ((List.range n).map fun i => (List.range n).map fun j => f i j) i j = f i j := by
  unfold Kv425.at_
  rw [getD_map_range hi, getD_map_range hj]
theorem Is.fold {b : Nat} (hb : 0 < b) {α : Type} (f : α → Q) (g : α → Nat) : ∀ (l : List α), (∀ k ∈ l, Is (f k) (g k) b) → ∀ {q : Q} {a : Nat}, Is q a b → Is ((l.map f).foldl Q.add q) (a + (l.map g).sum) b
  | [], _, q, a, h => h
  | k :: r, hk, q, a, h => by
    rw [List.map_cons, List.foldl_cons, List.map_cons, List.sum_cons, ← Nat.add_assoc]
    exact Is.fold hb f g r (fun j hj => hk j (List.mem_cons_of_mem _ hj)) (h.add hb (hk k (List.mem_cons_self ..)))
theorem Is.sum {b : Nat} (hb : 0 < b) {α : Type} (f : α → Q) (g : α → Nat) (l : List α) (h : ∀ k ∈ l, Is (f k) (g k) b) : Is (Kv425.sum (l.map f)) ((l.map g).sum) b := by
  have e := Is.fold hb f g l h (q := ⟨0, 1⟩) (a := 0) Is.zero
  rw [Nat.zero_add] at e
  exact e
theorem IsM.one : IsM n (Kv425.one n) (identity n) 1 := ⟨Nat.one_pos, fun i j hi hj => by
  unfold Kv425.one identity
  rw [at_grid hi hj, getD_map_range (idx_lt hi hj), idx_div hj, idx_mod hj]
  by_cases e : i = j
  · rw [if_pos e, if_pos e]
    exact ⟨Nat.one_pos, rfl⟩
  · rw [if_neg e, if_neg e]
    exact Is.zero⟩
theorem IsM.mul {M N : Kv425.Chances} {x y : List Nat} {b d : Nat} (h : IsM n M x b) (k : IsM n N y d) : IsM n (Kv425.mul n M N) (productOf n x y) (b * d) := ⟨Nat.mul_pos h.pos k.pos, fun i j hi hj => by
  unfold Kv425.mul
  rw [at_grid hi hj, product_at x y hi hj]
  exact Is.sum (Nat.mul_pos h.pos k.pos) _ _ _ fun m hm => (h.ent i m hi (List.mem_range.mp hm)).mul h.pos k.pos (k.ent m j (List.mem_range.mp hm) hj)⟩
theorem fold_dvd (g : Nat → Nat) : ∀ (l : List Nat) (x : Nat), x ∣ l.foldl (fun f r => f * g r) x ∧ ∀ r ∈ l, g r ∣ l.foldl (fun f r => f * g r) x
  | [], x => ⟨Nat.dvd_refl x, fun r hr => by cases hr⟩
  | k :: r, x => by
    obtain ⟨h1, h2⟩ := fold_dvd g r (x * g k)
    rw [List.foldl_cons]
    refine ⟨Nat.dvd_trans (Nat.dvd_mul_right x (g k)) h1, fun j hj => ?_⟩
    rcases List.mem_cons.mp hj with e | e
    · rw [e]
      exact Nat.dvd_trans (Nat.dvd_mul_left (g k) x) h1
    · exact h2 j e
theorem fold_pos (g : Nat → Nat) : ∀ (l : List Nat) (x : Nat), 0 < x → (∀ r ∈ l, 0 < g r) → 0 < l.foldl (fun f r => f * g r) x
  | [], _, h, _ => h
  | k :: r, x, h, hg => fold_pos g r (x * g k) (Nat.mul_pos h (hg k (List.mem_cons_self ..))) fun j hj => hg j (List.mem_cons_of_mem _ hj)
theorem row_pos {e : List Nat} (h : noZeroRow n e = true) {i : Nat} (hi : i < n) : 0 < rowSum n e i :=
  of_decide_eq_true (List.all_eq_true.mp h i (List.mem_range.mpr hi))
theorem chance_den_pos {e : List Nat} (h : noZeroRow n e = true) : 0 < denominator n e := fold_pos _ _ _ Nat.one_pos fun _ hr => row_pos h (List.mem_range.mp hr)
theorem den_dvd {e : List Nat} {i : Nat} (hi : i < n) : rowSum n e i ∣ denominator n e := (fold_dvd (rowSum n e) (List.range n) 1).2 i (List.mem_range.mpr hi)
theorem scaled_at {e : List Nat} (hl : e.length = n * n) {i j : Nat} (hi : i < n) (hj : j < n) : (scaled n e).getD (i * n + j) 0 = e.getD (i * n + j) 0 * (denominator n e / rowSum n e i) := by
  unfold scaled
  rw [hl, getD_map_range (idx_lt hi hj), idx_div hj]
theorem IsM.tab {e : List Nat} (hl : e.length = n * n) (h : noZeroRow n e = true) : IsM n (Kv425.chances (Kv424.cutUp n e)) (scaled n e) (denominator n e) := ⟨chance_den_pos h, fun i j hi hj => by
  have e1 : Kv425.at_ (Kv425.chances (Kv424.cutUp n e)) i j = Q.red ⟨((e.getD (i * n + j) 0 : Nat) : Int), rowSum n e i⟩ := by
    unfold Kv425.at_ Kv425.chances Kv424.cutUp
    rw [List.map_map, getD_map_range hi]
    show (List.map _ ((List.range n).map _)).getD j _ = _
    rw [List.map_map, getD_map_range hj, rowSum_eq hl hi]
    rfl
  rw [e1, scaled_at hl hi hj]
  have hp := row_pos h hi
  have e2 : Is (Q.red ⟨((e.getD (i * n + j) 0 : Nat) : Int), rowSum n e i⟩) (e.getD (i * n + j) 0) (rowSum n e i) := Is.red hp ⟨hp, rfl⟩
  have e3 := e2.scale (k := denominator n e / rowSum n e i)
  rw [Nat.mul_div_cancel' (den_dvd hi)] at e3
  exact e3⟩
/-- the rows' sums are the denominator -/
def Even (n : Nat) (x : List Nat) (b : Nat) : Prop := ∀ i, i < n → ((List.range n).map fun j => x.getD (i * n + j) 0).sum = b
theorem sum_add_map {α : Type} (f g : α → Nat) : ∀ l : List α, (l.map fun k => f k + g k).sum = (l.map f).sum + (l.map g).sum
  | [] => rfl
  | k :: r => by
    rw [List.map_cons, List.map_cons, List.map_cons, List.sum_cons, List.sum_cons, List.sum_cons, sum_add_map f g r]
    omega
theorem sum_mul_map {α : Type} (f : α → Nat) (c : Nat) : ∀ l : List α, (l.map fun k => f k * c).sum = (l.map f).sum * c
  | [] => (Nat.zero_mul c).symm
  | k :: r => by
    rw [List.map_cons, List.map_cons, List.sum_cons, List.sum_cons, sum_mul_map f c r, Nat.add_mul]
theorem sum_mul_left {α : Type} (f : α → Nat) (c : Nat) : ∀ l : List α, (l.map fun k => c * f k).sum = c * (l.map f).sum
  | [] => rfl
  | k :: r => by
    rw [List.map_cons, List.map_cons, List.sum_cons, List.sum_cons, sum_mul_left f c r, Nat.mul_add]
theorem sum_zero_map {α : Type} : ∀ l : List α, (l.map fun _ => 0).sum = 0
  | [] => rfl
  | _ :: r => by
    rw [List.map_cons, List.sum_cons, sum_zero_map r]
theorem sum_swap {α β : Type} (f : α → β → Nat) (m : List β) : ∀ l : List α, (l.map fun j => (m.map fun k => f j k).sum).sum = (m.map fun k => (l.map fun j => f j k).sum).sum
  | [] => (sum_zero_map m).symm
  | j :: r => by
    rw [List.map_cons, List.sum_cons, sum_swap f m r, ← sum_add_map]
    rfl
theorem Even.mul {x y : List Nat} {b d : Nat} (h : Even n x b) (k : Even n y d) : Even n (productOf n x y) (b * d) := fun i hi => by
  rw [map_range_congr fun j hj => product_at x y hi hj, sum_swap]
  have e : ∀ m, m < n → ((List.range n).map fun j => x.getD (i * n + m) 0 * y.getD (m * n + j) 0).sum = x.getD (i * n + m) 0 * d := fun m hm => by
    rw [sum_mul_left, k m hm]
  rw [map_range_congr e, sum_mul_map, h i hi]
theorem Even.tab {e : List Nat} (hl : e.length = n * n) (h : noZeroRow n e = true) : Even n (scaled n e) (denominator n e) := fun i hi => by
  rw [map_range_congr fun j hj => scaled_at hl hi hj, sum_mul_map, ← rowSum_eq hl hi]
  exact Nat.mul_div_cancel' (den_dvd hi)
theorem Even.one (hs : Sz n) : Even n (identity n) 1 := by
  unfold Even
  rcases hs with rfl | rfl | rfl <;> decide
theorem word_chances {ms : List (List Nat)} (hm : ∀ e ∈ ms, e.length = n * n) (hc : areChances n ms = true) : ∀ {w : List Nat} {M : Kv425.Chances} {f : List Nat × Nat}, (∀ k ∈ w, k < ms.length) → IsM n M f.1 f.2 → Even n f.1 f.2 →
    IsM n (w.foldl (fun x k => Kv425.mul n x ((⟨n, cut n ms⟩ : Kv425.Now).tab k)) M) (w.foldl (chancesTurn n ms) f).1 (w.foldl (chancesTurn n ms) f).2 ∧ Even n (w.foldl (chancesTurn n ms) f).1 (w.foldl (chancesTurn n ms) f).2
  | [], _, _, _, h, k => ⟨h, k⟩
  | k :: r, M, f, hw, h, g => by
    have hk := hw k (List.mem_cons_self ..)
    have he := getD_mem (d := []) hk
    have hz : noZeroRow n (ms.getD k []) = true := List.all_eq_true.mp hc _ he
    rw [List.foldl_cons, List.foldl_cons]
    have et : (⟨n, cut n ms⟩ : Kv425.Now).tab k = Kv425.chances (Kv424.cutUp n (ms.getD k [])) := by
      unfold Kv425.Now.tab
      rw [← cut_get hk]
    refine word_chances hm hc (fun j hj => hw j (List.mem_cons_of_mem _ hj)) ?_ ?_
    · rw [et]
      exact h.mul (IsM.tab (hm _ he) hz)
    · exact g.mul (Even.tab (hm _ he) hz)
theorem chances_word (hs : Sz n) {ms : List (List Nat)} (hm : ∀ e ∈ ms, e.length = n * n) (hc : areChances n ms = true) {w : List Nat} (hw : ∀ k ∈ w, k < ms.length) :
    IsM n ((⟨n, cut n ms⟩ : Kv425.Now).word w) (chancesOfWord n ms w).1 (chancesOfWord n ms w).2 ∧ Even n (chancesOfWord n ms w).1 (chancesOfWord n ms w).2 :=
  word_chances hm hc hw IsM.one (Even.one hs)
theorem prob_told (hs : Sz n) {ms : List (List Nat)} (hm : ∀ e ∈ ms, e.length = n * n) (hc : areChances n ms = true) {w : List Nat} (hw : ∀ k ∈ w, k < ms.length) {i j : Nat} (hi : i < n) (hj : j < n) :
    (Kv425.at_ ((⟨n, cut n ms⟩ : Kv425.Now).word w) i j).told = zs (lowest ((chancesOfWord n ms w).1.getD (i * n + j) 0) (chancesOfWord n ms w).2) := by
  obtain ⟨h, _⟩ := chances_word hs hm hc hw
  exact (h.ent i j hi hj).told h.pos
/-! ### the coefficient -/
theorem Is.far {M : Kv425.Chances} {x : List Nat} {b i j : Nat} (h : IsM n M x b) (hi : i < n) (hj : j < n) : Is (Kv425.far n M (i, j)) (distance n x i j) b :=
  Is.sum h.pos _ _ _ fun c hc => (h.ent i c hi (List.mem_range.mp hc)).more h.pos (h.ent j c hj (List.mem_range.mp hc))
theorem Is.le_iff {x y : Q} {a c b : Nat} (hb : 0 < b) (hx : Is x a b) (hy : Is y c b) : x.le y = decide (a ≤ c) := by
  obtain ⟨m, e1, h1⟩ := hx.nat hb
  obtain ⟨k, e2, h2⟩ := hy.nat hb
  have p1 := hx.pos
  have p2 := hy.pos
  unfold Q.le
  rw [e1, e2]
  refine decide_eq_decide.mpr ?_
  have e3 : ((m : Int) * (y.d : Int) ≤ (k : Int) * (x.d : Int)) ↔ m * y.d ≤ k * x.d := by
    rw [← Int.natCast_mul, ← Int.natCast_mul]
    exact Int.ofNat_le
  rw [e3]
  have e4 : m * y.d ≤ k * x.d ↔ b * (m * y.d) ≤ b * (k * x.d) := ⟨fun z => Nat.mul_le_mul_left b z, fun z => Nat.le_of_mul_le_mul_left z hb⟩
  have e5 : b * (m * y.d) = a * (x.d * y.d) := by
    rw [← Nat.mul_assoc, Nat.mul_comm b m, h1, Nat.mul_assoc]
  have e6 : b * (k * x.d) = c * (x.d * y.d) := by
    rw [← Nat.mul_assoc, Nat.mul_comm b k, h2, Nat.mul_assoc, Nat.mul_comm y.d]
  rw [e4, e5, e6]
  exact ⟨fun z => Nat.le_of_mul_le_mul_right z (Nat.mul_pos p1 p2), fun z => Nat.mul_le_mul_right _ z⟩
theorem Is.great {b : Nat} (hb : 0 < b) {α : Type} (f : α → Q) (g : α → Nat) : ∀ (l : List α), (∀ k ∈ l, Is (f k) (g k) b) → ∀ {q : Q} {a : Nat}, Is q a b → Is ((l.map f).foldl (fun b x => if x.le b then b else x) q) ((l.map g).foldl max a) b
  | [], _, q, a, h => h
  | k :: r, hk, q, a, h => by
    have h1 := hk k (List.mem_cons_self ..)
    rw [List.map_cons, List.foldl_cons, List.map_cons, List.foldl_cons]
    refine Is.great hb f g r (fun j hj => hk j (List.mem_cons_of_mem _ hj)) ?_
    rw [h1.le_iff hb h]
    by_cases c : g k ≤ a
    · rw [decide_eq_true c, if_pos rfl, Nat.max_eq_left c]
      exact h
    · rw [decide_eq_false c, if_neg (by decide), Nat.max_eq_right (by omega)]
      exact h1
theorem sum_sub_map {α : Type} (f g : α → Nat) : ∀ l : List α, (l.map fun k => f k - g k).sum + (l.map g).sum = (l.map fun k => g k - f k).sum + (l.map f).sum
  | [] => rfl
  | k :: r => by
    rw [List.map_cons, List.map_cons, List.map_cons, List.map_cons, List.sum_cons, List.sum_cons, List.sum_cons, List.sum_cons]
    have := sum_sub_map f g r
    omega
theorem distance_symm {x : List Nat} {b i j : Nat} (h : Even n x b) (hi : i < n) (hj : j < n) : distance n x i j = distance n x j i := by
  have e := sum_sub_map (fun c => x.getD (i * n + c) 0) (fun c => x.getD (j * n + c) 0) (List.range n)
  rw [h i hi, h j hj] at e
  exact Nat.add_right_cancel e
theorem distance_self (x : List Nat) (i : Nat) : distance n x i i = 0 := by
  unfold distance
  rw [map_range_congr (g := fun _ => 0) fun c _ => Nat.sub_self _]
  exact sum_zero_map _
theorem greatest_pairs (hs : Sz n) {x : List Nat} {b : Nat} (h : Even n x b) : greatestDistance n x = ((Kv425.pairs n).map fun q => distance n x q.1 q.2).foldl max 0 := by
  have s : ∀ i j, i < n → j < n → distance n x i j = distance n x j i := fun i j hi hj => distance_symm h hi hj
  have z : ∀ i, distance n x i i = 0 := distance_self x
  rcases hs with rfl | rfl | rfl
  · show max 0 (distance 1 x 0 0) = 0
    rw [z]
    rfl
  · show max (max (max (max 0 (distance 2 x 0 0)) (distance 2 x 0 1)) (distance 2 x 1 0)) (distance 2 x 1 1) = max 0 (distance 2 x 0 1)
    rw [z, z, s 1 0 (by decide) (by decide)]
    omega
  · show max (max (max (max (max (max (max (max (max 0 (distance 3 x 0 0)) (distance 3 x 0 1)) (distance 3 x 0 2)) (distance 3 x 1 0)) (distance 3 x 1 1)) (distance 3 x 1 2)) (distance 3 x 2 0)) (distance 3 x 2 1)) (distance 3 x 2 2) = max (max (max 0 (distance 3 x 0 1)) (distance 3 x 0 2)) (distance 3 x 1 2)
    rw [z, z, z, s 1 0 (by decide) (by decide), s 2 0 (by decide) (by decide), s 2 1 (by decide) (by decide)]
    omega
theorem pairs_lt (hs : Sz n) : ∀ q ∈ Kv425.pairs n, q.1 < n ∧ q.2 < n := by
  rcases hs with rfl | rfl | rfl <;> decide
theorem coefficient_told (hs : Sz n) {ms : List (List Nat)} (hm : ∀ e ∈ ms, e.length = n * n) (hc : areChances n ms = true) {w : List Nat} (hw : ∀ k ∈ w, k < ms.length) :
    (Kv425.delta n ((⟨n, cut n ms⟩ : Kv425.Now).word w)).told = zs (coefficient n ms w) := by
  obtain ⟨h, g⟩ := chances_word hs hm hc hw
  have e : Is (Kv425.delta n ((⟨n, cut n ms⟩ : Kv425.Now).word w)) (greatestDistance n (chancesOfWord n ms w).1) (chancesOfWord n ms w).2 := by
    rw [greatest_pairs hs g]
    exact Is.great h.pos _ _ _ (fun q hq => Is.far h (pairs_lt hs q hq).1 (pairs_lt hs q hq).2) Is.zero
  exact e.told h.pos
end
end Mw
end
section
namespace Mw
/-! ### mixing -/
section
variable {n : Nat} {ps : List (List Nat)}
abbrev Two := Nat × Nat
/-- the specification's machine -/
abbrev S5 (n : Nat) (ms : List (List Nat)) : Kv425.Now := ⟨n, cut n ms⟩
theorem apart_bit {a b : Nat} (ha : a < 2 ^ n) : ((List.range n).any fun i => Kv423.bit a i && Kv423.bit b i) = !areApart (a, b) := by
  unfold areApart
  rw [Bool.eq_iff_iff, List.any_eq_true, Bool.not_eq_true', beq_eq_false_iff_ne]
  have bits : ∀ i, (Kv423.bit a i && Kv423.bit b i) = (a &&& b).testBit i := fun i => by
    rw [← hasIndex_eq, ← hasIndex_eq, hasIndex_bit, hasIndex_bit, Nat.testBit_and]
  constructor
  · rintro ⟨i, _, h⟩ e
    rw [bits, e, Nat.zero_testBit] at h
    cases h
  · intro h
    obtain ⟨i, hi⟩ := Nat.exists_testBit_of_ne_zero h
    refine ⟨i, List.mem_range.mpr ?_, by rw [bits, hi]⟩
    rw [Nat.testBit_and, Bool.and_eq_true] at hi
    exact Nat.lt_of_not_le fun z => by
      rw [Nat.testBit_lt_two_pow (Nat.lt_of_lt_of_le ha (Nat.pow_le_pow_right (by decide) z))] at hi
      exact absurd hi.1 (by decide)
/-- a pair of sets as they may be met -/
structure Ap (n : Nat) (q : Two) : Prop where
  l1 : q.1 < 2 ^ n
  l2 : q.2 < 2 ^ n
  p1 : 0 < q.1
  p2 : 0 < q.2
  no : areApart q = true
theorem keeps_eq (hs : Sz n) {ms : List (List Nat)} {k : Nat} (hk : k < ms.length) (x : Two) :
    (S5 n ms).keeps k x = if areApart (pairAfter ((patternsOf n ms).getD k []) x) = true then some (pairAfter ((patternsOf n ms).getD k []) x) else none := by
  have hp : Pat n ((patternsOf n ms).getD k []) := (Pats.of hs ms).get (by simpa [patternsOf] using hk)
  unfold Kv425.Now.keeps
  rw [plain5_eq]
  show (if ((List.range n).any fun i => Kv423.bit (Kv423.goes n ((patternsOf n ms).getD k []) x.1) i && Kv423.bit (Kv423.goes n ((patternsOf n ms).getD k []) x.2) i) = true then none else some (Kv423.goes n ((patternsOf n ms).getD k []) x.1, Kv423.goes n ((patternsOf n ms).getD k []) x.2)) = _
  rw [(mapped_goes hs hp).1, (mapped_goes hs hp).1, apart_bit (hp.mapped_lt hs _)]
  show _ = if areApart (mapped _ x.1, mapped _ x.2) = true then _ else _
  cases areApart (mapped ((patternsOf n ms).getD k []) x.1, mapped ((patternsOf n ms).getD k []) x.2) <;> rfl
theorem sets_all (hs : Sz n) : Kv425.sets n = allPairs n := by
  rcases hs with rfl | rfl | rfl <;> decide +kernel
theorem all_ap_lists : (∀ q ∈ allPairs 1, q.1 < 2 ∧ q.2 < 2 ∧ 0 < q.1 ∧ 0 < q.2 ∧ areApart q = true) ∧ (∀ q ∈ allPairs 2, q.1 < 4 ∧ q.2 < 4 ∧ 0 < q.1 ∧ 0 < q.2 ∧ areApart q = true) ∧ (∀ q ∈ allPairs 3, q.1 < 8 ∧ q.2 < 8 ∧ 0 < q.1 ∧ 0 < q.2 ∧ areApart q = true) := by decide +kernel
theorem all_ap (hs : Sz n) {q : Two} : q ∈ allPairs n ↔ Ap n q := by
  constructor
  · intro h
    have e : q.1 < 2 ^ n ∧ q.2 < 2 ^ n ∧ 0 < q.1 ∧ 0 < q.2 ∧ areApart q = true := by
      rcases hs with rfl | rfl | rfl
      · exact all_ap_lists.1 q h
      · exact all_ap_lists.2.1 q h
      · exact all_ap_lists.2.2 q h
    exact ⟨e.1, e.2.1, e.2.2.1, e.2.2.2.1, e.2.2.2.2⟩
  · intro h
    unfold allPairs
    refine List.mem_flatMap.mpr ⟨q.1 - 1, List.mem_range.mpr (by have := h.l1; have := h.p1; omega), List.mem_filter.mpr ⟨List.mem_map.mpr ⟨q.2 - 1, List.mem_range.mpr (by have := h.l2; have := h.p2; omega), ?_⟩, h.no⟩⟩
    have h1 := h.p1
    have h2 := h.p2
    exact Prod.ext (by show q.1 - 1 + 1 = q.1; omega) (by show q.2 - 1 + 1 = q.2; omega)
theorem all_nodup (hs : Sz n) : (allPairs n).Nodup := by
  rcases hs with rfl | rfl | rfl <;> decide +kernel
theorem all_short (hs : Sz n) : (allPairs n).length < 2 ^ (2 * n) := by
  rcases hs with rfl | rfl | rfl <;> decide +kernel
theorem first_pairs_eq (hs : Sz n) : firstPairs n = (Kv425.pairs n).map fun q => (2 ^ q.1, 2 ^ q.2) := by
  rcases hs with rfl | rfl | rfl <;> decide
theorem index_pairs_eq (hs : Sz n) : indexPairs n = Kv425.pairs n := by
  rcases hs with rfl | rfl | rfl <;> decide
theorem first_ap (hs : Sz n) : ∀ q ∈ firstPairs n, Ap n q := by
  have e : ∀ q ∈ firstPairs n, q ∈ allPairs n := by
    rcases hs with rfl | rfl | rfl <;> decide +kernel
  exact fun q hq => (all_ap hs).mp (e q hq)
/-! ### the pairs that last so many steps -/
/-- the specification's live, told by the mirror's words -/
def live (n : Nat) (ps : List (List Nat)) : Nat → List Two
  | 0 => allPairs n
  | m + 1 => (allPairs n).filter fun q => (firstMatrixInto ps q (live n ps m)).isSome
theorem into_iff {q : Two} {kept : List Two} : (firstMatrixInto ps q kept).isSome = true ↔ ∃ k, k < ps.length ∧ pairAfter (ps.getD k []) q ∈ kept := by
  unfold firstMatrixInto
  rw [List.find?_isSome]
  constructor
  · rintro ⟨k, hk, h⟩
    exact ⟨k, List.mem_range.mp hk, List.contains_iff_mem.mp h⟩
  · rintro ⟨k, hk, h⟩
    exact ⟨k, List.mem_range.mpr hk, List.contains_iff_mem.mpr h⟩
theorem live_sub : ∀ m, ∀ q ∈ live n ps m, q ∈ allPairs n
  | 0, _, h => h
  | _ + 1, _, h => (List.mem_filter.mp h).1
theorem live_eq (hs : Sz n) (ms : List (List Nat)) : ∀ m, (S5 n ms).live m = live n (patternsOf n ms) m
  | 0 => sets_all hs
  | m + 1 => by
    have ih := live_eq hs ms m
    show ((Kv425.sets n).filter fun x => (List.range (cut n ms).length).any fun k => match (S5 n ms).keeps k x with
      | none => false
      | some y => ((S5 n ms).live m).contains y) = (allPairs n).filter fun q => (firstMatrixInto (patternsOf n ms) q (live n (patternsOf n ms) m)).isSome
    rw [sets_all hs, ih]
    refine List.filter_congr fun q hq => ?_
    rw [Bool.eq_iff_iff, into_iff, List.any_eq_true]
    have el : (cut n ms).length = ms.length := List.length_map ..
    have el2 : (patternsOf n ms).length = ms.length := List.length_map ..
    rw [el, el2]
    constructor
    · rintro ⟨k, hk, h⟩
      refine ⟨k, List.mem_range.mp hk, ?_⟩
      rw [keeps_eq hs (List.mem_range.mp hk)] at h
      by_cases c : areApart (pairAfter ((patternsOf n ms).getD k []) q) = true
      · rw [if_pos c] at h
        exact List.contains_iff_mem.mp h
      · rw [if_neg c] at h
        cases h
    · rintro ⟨k, hk, h⟩
      refine ⟨k, List.mem_range.mpr hk, ?_⟩
      rw [keeps_eq hs hk, if_pos ((all_ap hs).mp (live_sub m _ h)).no]
      exact List.contains_iff_mem.mpr h
theorem live_mono : ∀ m, ∀ q ∈ live n ps (m + 1), q ∈ live n ps m
  | 0, q, h => live_sub 1 q h
  | m + 1, q, h => by
    obtain ⟨h1, h2⟩ := List.mem_filter.mp (show q ∈ (allPairs n).filter _ from h)
    obtain ⟨k, hk, h3⟩ := into_iff.mp h2
    exact List.mem_filter.mpr ⟨h1, into_iff.mpr ⟨k, hk, live_mono m _ h3⟩⟩
theorem filter_sub {α : Type} (p q : α → Bool) : ∀ l : List α, (∀ x ∈ l, q x = true → p x = true) → (l.filter p).filter q = l.filter q
  | [], _ => rfl
  | x :: r, h => by
    have ih := filter_sub p q r fun y hy => h y (List.mem_cons_of_mem _ hy)
    cases e : p x with
    | true =>
      rw [List.filter_cons_of_pos e]
      cases f : q x with
      | true => rw [List.filter_cons_of_pos f, List.filter_cons_of_pos f, ih]
      | false => rw [List.filter_cons_of_neg (by rw [f]; decide), List.filter_cons_of_neg (by rw [f]; decide), ih]
    | false =>
      have f : q x = false := by
        cases g : q x with
        | false => rfl
        | true => rw [h x (List.mem_cons_self ..) g] at e; cases e
      rw [List.filter_cons_of_neg (by rw [e]; decide), List.filter_cons_of_neg (by rw [f]; decide), ih]
theorem kept_live : ∀ m, keptFewer ps (live n ps m) = live n ps (m + 1)
  | 0 => rfl
  | m + 1 => by
    show ((allPairs n).filter fun q => (firstMatrixInto ps q (live n ps m)).isSome).filter (fun q => (firstMatrixInto ps q (live n ps (m + 1))).isSome) = (allPairs n).filter fun q => (firstMatrixInto ps q (live n ps (m + 1))).isSome
    refine filter_sub _ _ _ fun q _ h => ?_
    obtain ⟨k, hk, h3⟩ := into_iff.mp h
    exact into_iff.mpr ⟨k, hk, live_mono m _ h3⟩
theorem live_still {m : Nat} (h : live n ps (m + 1) = live n ps m) : ∀ d, live n ps (m + d) = live n ps m
  | 0 => rfl
  | d + 1 => by
    have ih := live_still h d
    show live n ps (m + d + 1) = _
    rw [← kept_live, ih, kept_live, h]
theorem lasting_live : ∀ (f m : Nat), (live n ps m).length < f → ∀ M, m + f ≤ M → lastingLoop ps f (live n ps m) = live n ps M ∧ keptFewer ps (live n ps M) = live n ps M
  | 0, _, h, _, _ => absurd h (Nat.not_lt_zero _)
  | f + 1, m, h, M, hM => by
    show (if (keptFewer ps (live n ps m)).length = (live n ps m).length then live n ps m else lastingLoop ps f (keptFewer ps (live n ps m))) = _ ∧ _
    by_cases c : (keptFewer ps (live n ps m)).length = (live n ps m).length
    · rw [if_pos c]
      have e : keptFewer ps (live n ps m) = live n ps m := by
        unfold keptFewer at c ⊢
        exact List.filter_eq_self.mpr (List.length_filter_eq_length_iff.mp c)
      have e2 := e
      rw [kept_live] at e2
      obtain ⟨d, rfl⟩ := Nat.exists_eq_add_of_le (show m ≤ M by omega)
      rw [live_still e2 d]
      exact ⟨rfl, e⟩
    · rw [if_neg c, kept_live]
      have hlt : (keptFewer ps (live n ps m)).length < (live n ps m).length := Nat.lt_of_le_of_ne (List.length_filter_le _ _) c
      rw [kept_live] at hlt
      exact lasting_live f (m + 1) (by omega) M (by omega)
theorem lasting_eq (hs : Sz n) : lastingPairs n ps = live n ps (2 ^ (2 * n)) ∧ keptFewer ps (live n ps (2 ^ (2 * n))) = live n ps (2 ^ (2 * n)) := by
  have h := all_short hs
  exact lasting_live (n := n) (ps := ps) ((allPairs n).length + 1) 0 (Nat.lt_succ_self _) (2 ^ (2 * n)) (by omega)
/-! ### the mixing index -/
theorem add_apart {known : List Two} {x q : Two} : q ∈ addApart known x ↔ q ∈ known ∨ (q = x ∧ areApart x = true) := by
  unfold addApart
  cases c : areApart x with
  | false =>
    rw [if_neg (by decide)]
    exact ⟨.inl, fun h => h.elim id fun z => absurd z.2 (by decide)⟩
  | true =>
    rw [if_pos rfl]
    by_cases d : x ∈ known
    · rw [if_pos d]
      exact ⟨.inl, fun h => h.elim id fun z => by rw [z.1]; exact d⟩
    · rw [if_neg d, List.mem_append, List.mem_singleton]
      exact ⟨fun h => h.elim .inl fun z => .inr ⟨z, rfl⟩, fun h => h.elim .inl fun z => .inr z.1⟩
theorem fold_one {q r : Two} : ∀ (l : List (List Nat)) {known : List Two}, r ∈ l.foldl (fun k p => addApart k (pairAfter p q)) known ↔ r ∈ known ∨ ∃ p ∈ l, r = pairAfter p q ∧ areApart r = true
  | [], known => by
    constructor
    · exact .inl
    · rintro (h | ⟨p, hp, _⟩)
      · exact h
      · cases hp
  | p :: l, known => by
    rw [List.foldl_cons, fold_one l, add_apart]
    constructor
    · rintro ((h | ⟨h, a⟩) | ⟨p2, hp, h⟩)
      · exact .inl h
      · exact .inr ⟨p, List.mem_cons_self .., h, by rw [h]; exact a⟩
      · exact .inr ⟨p2, List.mem_cons_of_mem _ hp, h⟩
    · rintro (h | ⟨p2, hp, h, a⟩)
      · exact .inl (.inl h)
      · rcases List.mem_cons.mp hp with e | e
        · subst e
          exact .inl (.inr ⟨h, by rw [← h]; exact a⟩)
        · exact .inr ⟨p2, e, h, a⟩
theorem next_fold {r : Two} : ∀ (l : List Two) {known : List Two}, r ∈ l.foldl (fun known q => ps.foldl (fun k p => addApart k (pairAfter p q)) known) known ↔ r ∈ known ∨ ∃ q ∈ l, ∃ p ∈ ps, r = pairAfter p q ∧ areApart r = true
  | [], known => by
    constructor
    · exact .inl
    · rintro (h | ⟨p, hp, _⟩)
      · exact h
      · cases hp
  | q :: l, known => by
    rw [List.foldl_cons, next_fold l, fold_one]
    constructor
    · rintro ((h | ⟨p, hp, h⟩) | ⟨q2, hq, h⟩)
      · exact .inl h
      · exact .inr ⟨q, List.mem_cons_self .., p, hp, h⟩
      · exact .inr ⟨q2, List.mem_cons_of_mem _ hq, h⟩
    · rintro (h | ⟨q2, hq, p, hp, h⟩)
      · exact .inl (.inl h)
      · rcases List.mem_cons.mp hq with e | e
        · subst e
          exact .inl (.inr ⟨p, hp, h⟩)
        · exact .inr ⟨q2, e, p, hp, h⟩
theorem next_mem {r : Two} {l : List Two} : r ∈ nextPairs ps l ↔ ∃ q ∈ l, ∃ p ∈ ps, r = pairAfter p q ∧ areApart r = true := by
  unfold nextPairs
  rw [next_fold]
  exact ⟨fun h => h.elim (fun z => by cases z) id, .inr⟩
/-- no row of a pattern is empty -/
def Rich (n : Nat) (ps : List (List Nat)) : Prop := ∀ p ∈ ps, Pat n p ∧ ∀ r ∈ p, 0 < r
theorem rich_pos {p : List Nat} (hp : Pat n p) (hr : ∀ r ∈ p, 0 < r) {s : Nat} (hs : s < 2 ^ n) (h0 : 0 < s) : 0 < mapped p s := by
  obtain ⟨i, hi⟩ := Nat.exists_testBit_of_ne_zero (Nat.ne_of_gt h0)
  have hin : i < n := Nat.lt_of_not_le fun z => by
    rw [Nat.testBit_lt_two_pow (Nat.lt_of_lt_of_le hs (Nat.pow_le_pow_right (by decide) z))] at hi
    cases hi
  have hg : 0 < p.getD i 0 := hr _ (getD_mem (by rw [hp.len]; exact hin))
  obtain ⟨j, hj⟩ := Nat.exists_testBit_of_ne_zero (Nat.ne_of_gt hg)
  have e := (mapped_bit p s j).mpr ⟨i, by rw [hp.len]; exact hin, hi, hj⟩
  rcases Nat.eq_zero_or_pos (mapped p s) with z | z
  · rw [z, Nat.zero_testBit] at e
    cases e
  · exact z
theorem after_ap (hs : Sz n) {p : List Nat} (hp : Pat n p) (hr : ∀ r ∈ p, 0 < r) {q : Two} (h : Ap n q) (ha : areApart (pairAfter p q) = true) : Ap n (pairAfter p q) :=
  ⟨hp.mapped_lt hs _, hp.mapped_lt hs _, rich_pos hp hr h.l1 h.p1, rich_pos hp hr h.l2 h.p2, ha⟩
/-- from these on, so many steps -/
def onFrom (ps : List (List Nat)) (l : List Two) : Nat → List Two
  | 0 => l
  | m + 1 => nextPairs ps (onFrom ps l m)
theorem on_first : ∀ m, pairsAt n ps m = onFrom ps (firstPairs n) m
  | 0 => rfl
  | m + 1 => congrArg (nextPairs ps) (on_first m)
theorem on_next (l : List Two) : ∀ m, onFrom ps (nextPairs ps l) m = onFrom ps l (m + 1)
  | 0 => rfl
  | m + 1 => congrArg (nextPairs ps) (on_next l m)
theorem on_ne (hs : Sz n) (hp : Rich n ps) : ∀ (m : Nat) (l : List Two), (∀ q ∈ l, Ap n q) → (onFrom ps l m ≠ [] ↔ ∃ q ∈ l, q ∈ live n ps m)
  | 0, l, hl => by
    constructor
    · intro h
      cases l with
      | nil => exact absurd rfl h
      | cons q r => exact ⟨q, List.mem_cons_self .., (all_ap hs).mpr (hl q (List.mem_cons_self ..))⟩
    · rintro ⟨q, hq, _⟩ h
      rw [show l = [] from h] at hq
      cases hq
  | m + 1, l, hl => by
    rw [← on_next, on_ne hs hp m (nextPairs ps l) fun r hr => by
      obtain ⟨q, hq, p, hpp, e, a⟩ := next_mem.mp hr
      rw [e] at a ⊢
      exact after_ap hs (hp p hpp).1 (hp p hpp).2 (hl q hq) a]
    constructor
    · rintro ⟨r, hr, hlv⟩
      obtain ⟨q, hq, p, hpp, e, a⟩ := next_mem.mp hr
      refine ⟨q, hq, List.mem_filter.mpr ⟨(all_ap hs).mpr (hl q hq), into_iff.mpr ?_⟩⟩
      obtain ⟨k, hk, ek⟩ := List.mem_iff_getElem.mp hpp
      refine ⟨k, hk, ?_⟩
      rw [getD_of_lt hk, ek, ← e]
      exact hlv
    · rintro ⟨q, hq, hlv⟩
      obtain ⟨h1, h2⟩ := List.mem_filter.mp (show q ∈ (allPairs n).filter _ from hlv)
      obtain ⟨k, hk, h3⟩ := into_iff.mp h2
      exact ⟨_, next_mem.mpr ⟨q, hq, _, getD_mem hk, rfl, ((all_ap hs).mp (live_sub m _ h3)).no⟩, h3⟩
/-- the pairs of places that last so long -/
def begun (n : Nat) (ps : List (List Nat)) (m : Nat) : List Two := (Kv425.pairs n).filter fun q => (live n ps m).contains (2 ^ q.1, 2 ^ q.2)
theorem begun_eq (hs : Sz n) (ms : List (List Nat)) (m : Nat) : (S5 n ms).begun m = begun n (patternsOf n ms) m := by
  unfold Kv425.Now.begun begun
  rw [live_eq hs]
theorem empty_iff (hs : Sz n) (hp : Rich n ps) (m : Nat) : (pairsAt n ps m).isEmpty = (begun n ps m).isEmpty := by
  have e : pairsAt n ps m ≠ [] ↔ begun n ps m ≠ [] := by
    rw [on_first, on_ne hs hp m _ (first_ap hs), first_pairs_eq hs]
    constructor
    · rintro ⟨q, hq, hl⟩ h
      obtain ⟨r, hr, rfl⟩ := List.mem_map.mp hq
      have : r ∈ begun n ps m := List.mem_filter.mpr ⟨hr, List.contains_iff_mem.mpr hl⟩
      rw [h] at this
      cases this
    · intro h
      obtain ⟨r, hr⟩ := List.exists_mem_of_ne_nil _ h
      obtain ⟨h1, h2⟩ := List.mem_filter.mp hr
      exact ⟨_, List.mem_map.mpr ⟨r, h1, rfl⟩, List.contains_iff_mem.mp h2⟩
  cases a : pairsAt n ps m <;> cases b : begun n ps m
  · rfl
  · rw [a, b] at e
    exact absurd rfl (e.mpr (by simp))
  · rw [a, b] at e
    exact absurd rfl (e.mp (by simp))
  · rfl
theorem steps_eq (hs : Sz n) {ms : List (List Nat)} (hp : Rich n (patternsOf n ms)) : (S5 n ms).steps = mixingIndex n (patternsOf n ms) := by
  unfold Kv425.Now.steps mixingIndex
  congr 1
  funext m
  rw [begun_eq hs, empty_iff hs hp]
/-! ### the separating words -/
theorem begun_none (hs : Sz n) (hp : Rich n ps) (h : mixingIndex n ps = none) : begun n ps (2 ^ (2 * n)) ≠ [] := by
  have e := List.find?_eq_none.mp h (2 ^ (2 * n)) (List.mem_range.mpr (Nat.lt_succ_self _))
  rw [empty_iff hs hp] at e
  intro z
  rw [z] at e
  exact e rfl
theorem head_find {α : Type} (p : α → Bool) : ∀ l : List α, (l.filter p).head? = l.find? p
  | [] => rfl
  | x :: r => by
    cases e : p x with
    | true =>
      rw [List.filter_cons_of_pos e, List.find?_cons_of_pos e]
      rfl
    | false => rw [List.filter_cons_of_neg (by rw [e]; decide), List.find?_cons_of_neg (by rw [e]; decide), head_find p r]
/-- the specification's search for a step that keeps them -/
theorem spec_next (hs : Sz n) (ms : List (List Nat)) (M : Nat) (x : Two) :
    ((List.range (S5 n ms).t.length).findSome? fun k => match (S5 n ms).keeps k x with
      | none => none
      | some y => if (live n (patternsOf n ms) M).contains y then some (k, y) else none) =
    (firstMatrixInto (patternsOf n ms) x (live n (patternsOf n ms) M)).map fun k => (k, pairAfter ((patternsOf n ms).getD k []) x) := by
  unfold firstMatrixInto
  rw [show (S5 n ms).t.length = ms.length from List.length_map .., show (patternsOf n ms).length = ms.length from List.length_map ..]
  have key : ∀ l : List Nat, (∀ k ∈ l, k < ms.length) → (l.findSome? fun k => match (S5 n ms).keeps k x with
      | none => none
      | some y => if (live n (patternsOf n ms) M).contains y then some (k, y) else none) = (l.find? fun k => (live n (patternsOf n ms) M).contains (pairAfter ((patternsOf n ms).getD k []) x)).map fun k => (k, pairAfter ((patternsOf n ms).getD k []) x) := by
    intro l
    induction l with
    | nil => exact fun _ => rfl
    | cons k r ih =>
      intro hl
      have hk := hl k (List.mem_cons_self ..)
      have ih := ih fun j hj => hl j (List.mem_cons_of_mem _ hj)
      rw [List.findSome?_cons, keeps_eq hs hk]
      cases c : (live n (patternsOf n ms) M).contains (pairAfter ((patternsOf n ms).getD k []) x) with
      | true =>
        rw [List.find?_cons_of_pos (p := fun k => (live n (patternsOf n ms) M).contains (pairAfter ((patternsOf n ms).getD k []) x)) c, if_pos ((all_ap hs).mp (live_sub M _ (List.contains_iff_mem.mp c))).no]
        dsimp only
        rw [if_pos c]
        rfl
      | false =>
        rw [List.find?_cons_of_neg (p := fun k => (live n (patternsOf n ms) M).contains (pairAfter ((patternsOf n ms).getD k []) x)) (by rw [c]; decide)]
        by_cases a : areApart (pairAfter ((patternsOf n ms).getD k []) x) = true
        · rw [if_pos a]
          dsimp only
          rw [if_neg (by rw [c]; decide)]
          exact ih
        · rw [if_neg a]
          exact ih
  exact key _ fun k hk => List.mem_range.mp hk
theorem run_eq (hs : Sz n) (ms : List (List Nat)) (M : Nat) (hfix : keptFewer (patternsOf n ms) (live n (patternsOf n ms) M) = live n (patternsOf n ms) M) :
    ∀ (f F : Nat) (s : List (Nat × Two)) (x : Two), f < F → x ∈ live n (patternsOf n ms) M → (s.map Prod.snd ++ [x]).Nodup → (∀ y ∈ s.map Prod.snd, y ∈ live n (patternsOf n ms) M) → s.length + 1 + f = (live n (patternsOf n ms) M).length + 1 →
      (S5 n ms).run (live n (patternsOf n ms) M) F s x = walkLoop (patternsOf n ms) (live n (patternsOf n ms) M) f (s.map Prod.snd ++ [x]) (s.map Prod.fst)
  | 0, F, s, x, _, hx, hn, hin, hl => by
    exfalso
    have h1 : (s.map Prod.snd ++ [x]).length ≤ (live n (patternsOf n ms) M).length := by
      refine List.Nodup.length_le_of_subset hn ?_
      intro y hy
      rcases List.mem_append.mp hy with q | q
      · exact hin y q
      · rw [List.mem_singleton.mp q]
        exact hx
    rw [List.length_append, List.length_map] at h1
    have h2 : s.length + 1 ≤ (live n (patternsOf n ms) M).length := h1
    omega
  | f + 1, 0, _, _, h, _, _, _, _ => absurd h (Nat.not_lt_zero _)
  | f + 1, F + 1, s, x, hF, hx, hn, hin, hl => by
    obtain ⟨n1, n2, n3⟩ := List.nodup_append.mp hn
    have hnot : ¬ x ∈ s.map Prod.snd := fun z => n3 x z x (List.mem_singleton.mpr rfl) rfl
    have hany : (s.any fun z => z.2 == x) = false := by
      cases c : s.any fun z => z.2 == x with
      | false => rfl
      | true =>
        obtain ⟨z, hz, e⟩ := List.any_eq_true.mp c
        exact absurd (List.mem_map.mpr ⟨z, hz, eq_of_beq e⟩) hnot
    have hsome : ∃ k, firstMatrixInto (patternsOf n ms) x (live n (patternsOf n ms) M) = some k := by
      rw [← hfix] at hx
      exact Option.isSome_iff_exists.mp (List.mem_filter.mp hx).2
    obtain ⟨k, hk⟩ := hsome
    have hy : pairAfter ((patternsOf n ms).getD k []) x ∈ live n (patternsOf n ms) M := List.contains_iff_mem.mp (List.find?_some (p := fun k => (live n (patternsOf n ms) M).contains (pairAfter ((patternsOf n ms).getD k []) x)) hk)
    have e1 : (S5 n ms).run (live n (patternsOf n ms) M) (F + 1) s x = (S5 n ms).run (live n (patternsOf n ms) M) F (s ++ [(k, x)]) (pairAfter ((patternsOf n ms).getD k []) x) := by
      rw [Kv425.Now.run, if_neg (by rw [hany]; decide)]
      have es := spec_next hs ms M x
      rw [hk] at es
      generalize hg : List.findSome? _ (List.range _) = o
      have eo : o = some (k, pairAfter ((patternsOf n ms).getD k []) x) := hg.symm.trans es
      rw [eo]
    rw [e1]
    have hlast : (s.map Prod.snd ++ [x]).getLast?.getD (0, 0) = x := by rw [List.getLast?_concat] <;> rfl
    show _ = (if pairAfter ((patternsOf n ms).getD ((firstMatrixInto (patternsOf n ms) ((s.map Prod.snd ++ [x]).getLast?.getD (0, 0)) (live n (patternsOf n ms) M)).getD 0) []) ((s.map Prod.snd ++ [x]).getLast?.getD (0, 0)) ∈ s.map Prod.snd ++ [x] then _ else _)
    rw [hlast, hk]
    show _ = (if pairAfter ((patternsOf n ms).getD k []) x ∈ s.map Prod.snd ++ [x] then ((s.map Prod.fst ++ [k]).take ((s.map Prod.snd ++ [x]).idxOf (pairAfter ((patternsOf n ms).getD k []) x)), (s.map Prod.fst ++ [k]).drop ((s.map Prod.snd ++ [x]).idxOf (pairAfter ((patternsOf n ms).getD k []) x))) else walkLoop (patternsOf n ms) (live n (patternsOf n ms) M) f (s.map Prod.snd ++ [x] ++ [pairAfter ((patternsOf n ms).getD k []) x]) (s.map Prod.fst ++ [k]))
    generalize pairAfter ((patternsOf n ms).getD k []) x = y at *
    have es : (s ++ [(k, x)]).map Prod.snd = s.map Prod.snd ++ [x] := by rw [List.map_append] <;> rfl
    have ef : (s ++ [(k, x)]).map Prod.fst = s.map Prod.fst ++ [k] := by rw [List.map_append] <;> rfl
    by_cases c : y ∈ s.map Prod.snd ++ [x]
    · rw [if_pos c]
      obtain ⟨F2, rfl⟩ : ∃ F2, F = F2 + 1 := ⟨F - 1, by omega⟩
      have hany2 : ((s ++ [(k, x)]).any fun z => z.2 == y) = true := by
        rw [← es] at c
        obtain ⟨z, hz, e⟩ := List.mem_map.mp c
        exact List.any_eq_true.mpr ⟨z, hz, by rw [e]; exact beq_self_eq_true y⟩
      rw [Kv425.Now.run, if_pos hany2]
      show (((s ++ [(k, x)]).take (((s ++ [(k, x)]).map Prod.snd).idxOf y)).map Prod.fst, ((s ++ [(k, x)]).drop (((s ++ [(k, x)]).map Prod.snd).idxOf y)).map Prod.fst) = _
      rw [List.map_take, List.map_drop, es, ef]
    · rw [if_neg c]
      have ih := run_eq hs ms M hfix f F (s ++ [(k, x)]) y (by omega) hy (by
        rw [es]
        refine List.nodup_append.mpr ⟨hn, by simp, fun a ha b hb => ?_⟩
        rw [List.mem_singleton.mp hb]
        intro e
        exact c (by rw [← e]; exact ha)) (by
        rw [es]
        intro z hz
        rcases List.mem_append.mp hz with q | q
        · exact hin z q
        · rw [List.mem_singleton.mp q]
          exact hx) (by rw [List.length_append]; show s.length + 1 + 1 + f = _; omega)
      rw [es, ef] at ih
      exact ih
theorem kept_eq (hs : Sz n) {ms : List (List Nat)} (hp : Rich n (patternsOf n ms)) (hno : mixingIndex n (patternsOf n ms) = none) :
    (∃ z, separatingWords n (patternsOf n ms) = some z) ∧ (S5 n ms).kept = (separatingWords n (patternsOf n ms)).map fun z => ((z.1, z.2.1), z.2.2) := by
  obtain ⟨el, hfix⟩ := lasting_eq (ps := patternsOf n ms) hs
  have hne := begun_none hs hp hno
  obtain ⟨q, hq⟩ : ∃ q, (begun n (patternsOf n ms) (2 ^ (2 * n))).head? = some q := by
    cases b : begun n (patternsOf n ms) (2 ^ (2 * n)) with
    | nil => exact absurd b hne
    | cons q r => exact ⟨q, rfl⟩
  have hq2 : ((indexPairs n).find? fun q => (lastingPairs n (patternsOf n ms)).contains (2 ^ q.1, 2 ^ q.2)) = some q := by
    rw [el, index_pairs_eq hs, ← head_find]
    exact hq
  have hmem : (2 ^ q.1, 2 ^ q.2) ∈ live n (patternsOf n ms) (2 ^ (2 * n)) := by
    have := List.find?_some hq2
    rw [el] at this
    exact List.contains_iff_mem.mp this
  have e1 : separatingWords n (patternsOf n ms) = some (q.1, q.2, walkApart (patternsOf n ms) (lastingPairs n (patternsOf n ms)) (2 ^ q.1, 2 ^ q.2)) := by
    unfold separatingWords
    rw [hq2]
    rfl
  refine ⟨⟨_, e1⟩, ?_⟩
  rw [e1]
  unfold Kv425.Now.kept
  rw [steps_eq hs hp, hno, if_neg (by decide)]
  show (match ((S5 n ms).begun (2 ^ (2 * n))).head? with
    | none => none
    | some q => some (q, (S5 n ms).run ((S5 n ms).live (2 ^ (2 * n))) (2 ^ (2 * n) + 1) [] (2 ^ q.1, 2 ^ q.2))) = _
  rw [begun_eq hs, hq, live_eq hs]
  show some (q, _) = some (q, _)
  have hlen : (live n (patternsOf n ms) (2 ^ (2 * n))).length ≤ (allPairs n).length := by
    rw [← hfix]
    unfold keptFewer
    refine Nat.le_trans (List.length_filter_le _ _) ?_
    cases 2 ^ (2 * n) with
    | zero => exact Nat.le_refl _
    | succ m => exact List.length_filter_le _ _
  have hshort := all_short hs
  have e2 := run_eq hs ms (2 ^ (2 * n)) hfix (live n (patternsOf n ms) (2 ^ (2 * n))).length (2 ^ (2 * n) + 1) [] (2 ^ q.1, 2 ^ q.2) (by omega) hmem (by simp) (fun y hy => by cases hy) (by show 0 + 1 + _ = _; omega)
  rw [e2, el]
  rfl
theorem le_sum_of_mem {x : Nat} : ∀ {l : List Nat}, x ∈ l → x ≤ l.sum
  | y :: r, h => by
    rw [List.sum_cons]
    rcases List.mem_cons.mp h with e | e
    · omega
    · have := le_sum_of_mem e
      omega
/-- chances make the patterns rich -/
theorem rich_of (hs : Sz n) {ms : List (List Nat)} (hm : ∀ e ∈ ms, e.length = n * n) (hc : areChances n ms = true) : Rich n (patternsOf n ms) := fun p hp => by
  obtain ⟨e, he, rfl⟩ := List.mem_map.mp hp
  refine ⟨Pat.of hs e, fun r hr => ?_⟩
  obtain ⟨i, hi, rfl⟩ := List.mem_map.mp hr
  have hi := List.mem_range.mp hi
  have hz : 0 < rowSum n e i := of_decide_eq_true (List.all_eq_true.mp (List.all_eq_true.mp hc e he) i (List.mem_range.mpr hi))
  rw [rowSum_eq (hm e he) hi] at hz
  obtain ⟨c, hc2, hpos⟩ : ∃ c, c < n ∧ 0 < e.getD (i * n + c) 0 := by
    apply Classical.byContradiction
    intro h
    have : ∀ c, c < n → e.getD (i * n + c) 0 = 0 := fun c hcn => Nat.eq_zero_of_not_pos fun z => h ⟨c, hcn, z⟩
    rw [map_range_congr this, sum_zero_map] at hz
    exact absurd hz (Nat.lt_irrefl 0)
  unfold setOfRow
  have hin : 2 ^ c ∈ ((List.range n).filter fun c => decide (0 < e.getD (i * n + c) 0)).map fun c => 2 ^ c :=
    List.mem_map.mpr ⟨c, List.mem_filter.mpr ⟨List.mem_range.mpr hc2, decide_eq_true hpos⟩, rfl⟩
  exact Nat.lt_of_lt_of_le (Nat.two_pow_pos c) (le_sum_of_mem hin)
end
end Mw
end
section
namespace Mw
/-! ### growth: what is come to -/
section
inductive Star {α : Type} (R : α → α → Prop) (x : α) : α → Prop
  | refl : Star R x x
  | tail {y z : α} : Star R x y → R y z → Star R x z
inductive Plus {α : Type} (R : α → α → Prop) (x : α) : α → Prop
  | one {y : α} : R x y → Plus R x y
  | tail {y z : α} : Plus R x y → R y z → Plus R x z
theorem Star.head {α : Type} {R : α → α → Prop} {x y z : α} (h : R x y) (k : Star R y z) : Star R x z := by
  induction k with
  | refl => exact .tail .refl h
  | tail _ r ih => exact .tail ih r
theorem Plus.trans {α : Type} {R : α → α → Prop} {x y z : α} (h : Plus R x y) (k : Plus R y z) : Plus R x z := by
  induction k with
  | one r => exact .tail h r
  | tail _ r ih => exact .tail ih r
theorem star_iff {α : Type} {R : α → α → Prop} {x y : α} : Star R x y ↔ y = x ∨ Plus R x y := by
  constructor
  · intro h
    induction h with
    | refl => exact .inl rfl
    | tail _ r ih =>
      rcases ih with e | e
      · rw [e] at r
        exact .inr (.one r)
      · exact .inr (.tail e r)
  · rintro (e | e)
    · rw [e]
      exact .refl
    · induction e with
      | one r => exact .tail .refl r
      | tail _ r ih => exact .tail ih r
theorem plus_iff {α : Type} {R : α → α → Prop} {x y : α} : Plus R x y ↔ ∃ z, R x z ∧ Star R z y := by
  constructor
  · intro h
    induction h with
    | one r => exact ⟨_, r, .refl⟩
    | tail _ r ih =>
      obtain ⟨z, h1, h2⟩ := ih
      exact ⟨z, h1, .tail h2 r⟩
  · rintro ⟨z, h1, h2⟩
    induction h2 with
    | refl => exact .one h1
    | tail _ r ih => exact .tail ih r
theorem Plus.map {α β : Type} {R : α → α → Prop} {S : β → β → Prop} (f : α → β) (hf : ∀ a b, R a b → S (f a) (f b)) {x y : α} (h : Plus R x y) : Plus S (f x) (f y) := by
  induction h with
  | one r => exact .one (hf _ _ r)
  | tail _ r ih => exact .tail ih (hf _ _ r)
theorem Star.mono {α : Type} {R S : α → α → Prop} (h : ∀ a b, R a b → S a b) {x y : α} (k : Star R x y) : Star S x y := by
  induction k with
  | refl => exact .refl
  | tail _ r ih => exact .tail ih (h _ _ r)
theorem Plus.last {α : Type} {R : α → α → Prop} {x y : α} (h : Plus R x y) : ∃ z, R z y := by
  cases h with
  | one r => exact ⟨_, r⟩
  | tail _ r => exact ⟨_, r⟩
theorem Plus.first {α : Type} {R : α → α → Prop} {x y : α} (h : Plus R x y) : ∃ z, R x z := by
  obtain ⟨z, h1, _⟩ := plus_iff.mp h
  exact ⟨z, h1⟩
/-- along a picture -/
theorem plus_image {α β : Type} {R : α → α → Prop} {S : β → β → Prop} (f : α → β) (hf : ∀ a y, S (f a) y ↔ ∃ b, y = f b ∧ R a b) {x : α} {y : β} : Plus S (f x) y ↔ ∃ b, y = f b ∧ Plus R x b := by
  constructor
  · intro h
    induction h with
    | one r =>
      obtain ⟨b, e, r2⟩ := (hf _ _).mp r
      exact ⟨b, e, .one r2⟩
    | tail _ r ih =>
      obtain ⟨b, e, p⟩ := ih
      rw [e] at r
      obtain ⟨c, e2, r2⟩ := (hf _ _).mp r
      exact ⟨c, e2, .tail p r2⟩
  · rintro ⟨b, e, p⟩
    rw [e]
    exact p.map f fun a b r => (hf a _).mpr ⟨b, rfl, r⟩
/-! ### the specification's search -/
theorem full_of_len {α : Type} {s all : List α} (hs : s.Nodup) (hsub : ∀ x ∈ s, x ∈ all) (hl : all.length ≤ s.length) : ∀ x ∈ all, x ∈ s := fun x hx => by
  apply Classical.byContradiction
  intro hn
  have h1 : (x :: s).Nodup := List.nodup_cons.mpr ⟨hn, hs⟩
  have h2 : (x :: s).length ≤ all.length := List.Nodup.length_le_of_subset h1 fun y hy => by
    rcases List.mem_cons.mp hy with e | e
    · rw [e]
      exact hx
    · exact hsub y e
  rw [List.length_cons] at h2
  omega
theorem spread_mem {α : Type} [BEq α] [LawfulBEq α] {all : List α} {go : α → α → Bool} (nd : all.Nodup) : ∀ (f : Nat) (s : List α), s.Nodup → (∀ x ∈ s, x ∈ all) → all.length ≤ f + s.length →
    ∀ y, y ∈ Kv424.spread all go f s ↔ ∃ x ∈ s, Star (fun a b => b ∈ all ∧ go a b = true) x y := by
  have closed : ∀ s : List α, (∀ x ∈ s, x ∈ all) → (∀ x ∈ s, ∀ z ∈ all, go x z = true → z ∈ s) → ∀ y, y ∈ s ↔ ∃ x ∈ s, Star (fun a b => b ∈ all ∧ go a b = true) x y := fun s _ hc y => by
    constructor
    · exact fun h => ⟨y, h, .refl⟩
    · rintro ⟨x, hx, h⟩
      induction h with
      | refl => exact hx
      | tail _ r ih => exact hc _ ih _ r.1 r.2
  intro f
  induction f with
  | zero =>
    intro s hs hsub hl y
    have hfull := full_of_len hs hsub (by omega)
    show y ∈ s ↔ _
    exact closed s hsub (fun _ _ z hz _ => hfull z hz) y
  | succ f ih =>
    intro s hs hsub hl y
    have hz : ∀ y, y ∈ all.filter (fun y => s.contains y || s.any fun x => go x y) ↔ y ∈ all ∧ (y ∈ s ∨ ∃ x ∈ s, go x y = true) := fun y => by
      rw [List.mem_filter, Bool.or_eq_true, List.contains_iff_mem, List.any_eq_true]
    have hnd : (all.filter (fun y => s.contains y || s.any fun x => go x y)).Nodup := nd.filter _
    have hsz : ∀ x ∈ s, x ∈ all.filter (fun y => s.contains y || s.any fun x => go x y) := fun x hx => (hz x).mpr ⟨hsub x hx, .inl hx⟩
    show y ∈ (if (all.filter (fun y => s.contains y || s.any fun x => go x y)).length = s.length then s else Kv424.spread all go f (all.filter (fun y => s.contains y || s.any fun x => go x y))) ↔ _
    generalize all.filter (fun y => s.contains y || s.any fun x => go x y) = z at *
    by_cases c : z.length = s.length
    · rw [if_pos c]
      have hfull := full_of_len hs hsz (by omega)
      exact closed s hsub (fun x hx w hw hg => hfull w ((hz w).mpr ⟨hw, .inr ⟨x, hx, hg⟩⟩)) y
    · rw [if_neg c]
      have hle : s.length ≤ z.length := List.Nodup.length_le_of_subset hs hsz
      rw [ih z hnd (fun x hx => ((hz x).mp hx).1) (by omega)]
      constructor
      · rintro ⟨x, hx, h⟩
        obtain ⟨h1, h2 | ⟨w, hw, h2⟩⟩ := (hz x).mp hx
        · exact ⟨x, h2, h⟩
        · exact ⟨w, hw, h.head ⟨h1, h2⟩⟩
      · rintro ⟨x, hx, h⟩
        exact ⟨x, hsz x hx, h⟩
/-! ### the program's search -/
variable {n k : Nat} {ps ms : List (List Nat)}
/-- one step of a state by some pattern -/
def stepR (n : Nat) (ps : List (List Nat)) (a b : List Nat) : Prop := ∃ p ∈ ps, b ∈ stepsBy n p a
structure Grew (L : List Nat → Prop) (s t : Seen) : Prop where
  k : ∀ x ∈ s.1, x ∈ t.1
  l : ∀ x ∈ s.2, x ∈ t.2
  nk : ∀ x ∈ t.1, x ∈ s.1 ∨ (x ∈ t.2 ∧ L x)
  nl : ∀ x ∈ t.2, x ∈ s.2 ∨ x ∈ t.1
  all : ∀ x, L x → x ∈ t.1
theorem Grew.nil {L : List Nat → Prop} (s : Seen) (h : ∀ x, ¬ L x) : Grew L s s := ⟨fun _ h => h, fun _ h => h, fun _ h => .inl h, fun _ h => .inl h, fun x hx => absurd hx (h x)⟩
theorem Grew.step {L M N : List Nat → Prop} {s t u : Seen} (h : Grew L s t) (g : Grew M t u) (hn : ∀ x, N x ↔ L x ∨ M x) : Grew N s u where
  k x hx := g.k x (h.k x hx)
  l x hx := g.l x (h.l x hx)
  nk x hx := by
    rcases g.nk x hx with a | ⟨a, b⟩
    · rcases h.nk x a with c | ⟨c, d⟩
      · exact .inl c
      · exact .inr ⟨g.l x c, (hn x).mpr (.inl d)⟩
    · exact .inr ⟨a, (hn x).mpr (.inr b)⟩
  nl x hx := by
    rcases g.nl x hx with a | a
    · rcases h.nl x a with c | c
      · exact .inl c
      · exact .inr (g.k x c)
    · exact .inr a
  all x hx := by
    rcases (hn x).mp hx with a | a
    · exact g.k x (h.all x a)
    · exact g.all x a
theorem grew_visit (s : Seen) (x : List Nat) : Grew (· = x) s (visit s x) := by
  unfold visit
  by_cases c : x ∈ s.1
  · rw [if_pos c]
    exact ⟨fun _ h => h, fun _ h => h, fun _ h => .inl h, fun _ h => .inl h, fun y hy => by rw [hy]; exact c⟩
  · rw [if_neg c]
    refine ⟨fun _ h => List.mem_append_left _ h, fun _ h => List.mem_append_left _ h, fun y hy => ?_, fun y hy => ?_, fun y hy => ?_⟩
    · rcases List.mem_append.mp hy with a | a
      · exact .inl a
      · exact .inr ⟨List.mem_append_right _ a, List.mem_singleton.mp a⟩
    · rcases List.mem_append.mp hy with a | a
      · exact .inl a
      · exact .inr (List.mem_append_right _ a)
    · rw [hy]
      exact List.mem_append_right _ (List.mem_singleton.mpr rfl)
theorem grew_visits : ∀ (l : List (List Nat)) (s : Seen), Grew (· ∈ l) s (l.foldl visit s)
  | [], s => Grew.nil s fun x hx => by cases hx
  | x :: r, s => (grew_visit s x).step (grew_visits r (visit s x)) fun y => List.mem_cons
theorem grew_ones (here : List Nat) : ∀ (ps : List (List Nat)) (s : Seen), Grew (stepR n ps here) s (ps.foldl (behindOne n here) s)
  | [], s => Grew.nil s fun x hx => by
    obtain ⟨p, hp, _⟩ := hx
    cases hp
  | p :: r, s => (grew_visits (stepsBy n p here) s).step (grew_ones here r (behindOne n here s p)) fun y => by
    constructor
    · rintro ⟨q, hq, h⟩
      rcases List.mem_cons.mp hq with e | e
      · rw [e] at h
        exact .inl h
      · exact .inr ⟨q, e, h⟩
    · rintro (h | ⟨q, hq, h⟩)
      · exact ⟨p, List.mem_cons_self .., h⟩
      · exact ⟨q, List.mem_cons_of_mem _ hq, h⟩
structure Srch (R : List Nat → List Nat → Prop) (st : List Nat) (s : Seen) : Prop where
  sound : ∀ x ∈ s.1, Plus R st x
  src : ∀ x ∈ s.2, x = st ∨ x ∈ s.1
  done : ∀ x, (x = st ∨ x ∈ s.1) → x ∈ s.2 ∨ ∀ y, R x y → y ∈ s.1
theorem Srch.turn {st : List Nat} {s : Seen} (h : Srch (stepR n ps) st s) (hne : s.2 ≠ []) : Srch (stepR n ps) st (behindTurn n ps s) := by
  have hl := List.getLast?_eq_some_getLast hne
  have hm : s.2.getLast hne ∈ s.2 := List.getLast_mem hne
  have hsplit := List.dropLast_concat_getLast hne
  unfold behindTurn
  rw [hl]
  show Srch (stepR n ps) st (ps.foldl (behindOne n (s.2.getLast hne)) (s.1, s.2.dropLast))
  have g := grew_ones (n := n) (s.2.getLast hne) ps (s.1, s.2.dropLast)
  have hsrc := h.src _ hm
  have hdrop : ∀ x ∈ s.2, x ∈ s.2.dropLast ∨ x = s.2.getLast hne := fun x hx => by
    rw [← hsplit] at hx
    rcases List.mem_append.mp hx with a | a
    · exact .inl a
    · exact .inr (List.mem_singleton.mp a)
  generalize s.2.getLast hne = here at *
  generalize ps.foldl (behindOne n here) (s.1, s.2.dropLast) = t at *
  refine ⟨fun x hx => ?_, fun x hx => ?_, fun x hx => ?_⟩
  · rcases g.nk x hx with a | ⟨_, a⟩
    · exact h.sound x a
    · rcases hsrc with e | e
      · rw [e] at a
        exact .one a
      · exact .tail (h.sound _ e) a
  · rcases g.nl x hx with a | a
    · rcases h.src x (List.dropLast_subset _ a) with e | e
      · exact .inl e
      · exact .inr (g.k x e)
    · exact .inr a
  · have old : (x = st ∨ x ∈ s.1) → x ∈ t.2 ∨ ∀ y, stepR n ps x y → y ∈ t.1 := fun hx => by
      rcases h.done x hx with a | a
      · rcases hdrop x a with b | b
        · exact .inl (g.l x b)
        · refine .inr fun y hy => ?_
          rw [b] at hy
          exact g.all y hy
      · exact .inr fun y hy => g.k y (a y hy)
    rcases hx with e | e
    · exact old (.inl e)
    · rcases g.nk x e with a | a
      · exact old (.inr a)
      · exact .inl a.1
theorem Srch.stop {st : List Nat} {s : Seen} (h : Srch (stepR n ps) st s) (he : s.2 = []) (y : List Nat) : y ∈ s.1 ↔ Plus (stepR n ps) st y := by
  have hc : ∀ x, (x = st ∨ x ∈ s.1) → ∀ y, stepR n ps x y → y ∈ s.1 := fun x hx => by
    rcases h.done x hx with a | a
    · rw [he] at a
      cases a
    · exact a
  constructor
  · exact h.sound y
  · intro p
    induction p with
    | one r => exact hc _ (.inl rfl) _ r
    | tail _ r ih => exact hc _ (.inr ih) _ r
theorem loop_mem (hn : n ≤ 3) (hk : k ≤ 3) {st : List Nat} : ∀ (f : Nat) (s : Seen), SeenOk n k s → Srch (stepR n ps) st s → 27 + s.2.length ≤ f + s.1.length → ∀ y, y ∈ behindLoop n ps f s ↔ Plus (stepR n ps) st y
  | 0, s, ok, h, hl, y => by
    have := ok.short hn hk
    have he : s.2 = [] := List.eq_nil_of_length_eq_zero (by omega)
    exact h.stop he y
  | f + 1, s, ok, h, hl, y => by
    show y ∈ (if s.2 = [] then s.1 else behindLoop n ps f (behindTurn n ps s)) ↔ _
    by_cases c : s.2 = []
    · rw [if_pos c]
      exact h.stop c y
    · rw [if_neg c]
      obtain ⟨ok2, e⟩ := turn_ok (ps := ps) ok c
      exact loop_mem hn hk f _ ok2 (h.turn c) (by omega) y
theorem behind_iff (hn : n ≤ 3) (hk : k ≤ 3) {st : List Nat} (h : State n k st) (y : List Nat) : y ∈ statesBehind n ps st ↔ Plus (stepR n ps) st y :=
  loop_mem hn hk 28 ([], [st]) ⟨List.nodup_nil, (fun x hx => by cases hx), fun x hx => by rw [List.mem_singleton.mp hx]; exact h⟩
    ⟨fun x hx => (by cases hx), fun x hx => .inl (List.mem_singleton.mp hx), fun x hx => by
      rcases hx with e | e
      · exact .inl (List.mem_singleton.mpr e)
      · cases e⟩ (Nat.le_refl 28) y
/-! ### both by one relation -/
/-- an entry above 0 -/
def En (n : Nat) (e : List Nat) (i j : Nat) : Prop := i < n ∧ j < n ∧ 0 < e.getD (i * n + j) 0
theorem at_en {e : List Nat} {i j : Nat} : (Kv424.at_ (Kv424.cutUp n e) i j != 0) = true ↔ En n e i j := by
  rw [bne_iff_ne]
  by_cases hi : i < n
  · by_cases hj : j < n
    · rw [at_cut hi hj]
      exact ⟨fun h => ⟨hi, hj, Nat.pos_of_ne_zero h⟩, fun h => Nat.ne_of_gt h.2.2⟩
    · refine ⟨fun h => absurd ?_ h, fun h => absurd h.2.1 hj⟩
      unfold Kv424.at_ Kv424.cutUp
      rw [getD_map_range hi, getD_of_ge (by simp; omega)]
  · refine ⟨fun h => absurd ?_ h, fun h => absurd h.1 hi⟩
    unfold Kv424.at_ Kv424.cutUp
    rw [getD_of_ge (l := List.map _ _) (by simp; omega)]
    rfl
theorem bit_row (hs : Sz n) {e : List Nat} {i j : Nat} (hj : j < n) : hasIndex (setOfRow n e i) j = decide (0 < e.getD (i * n + j) 0) := by
  unfold setOfRow
  rw [← sum_map_if]
  rcases hs with rfl | rfl | rfl
  · obtain rfl : j = 0 := by omega
    simp only [List.range_succ, List.range_zero, List.nil_append, List.map_cons, List.map_nil, List.sum_cons, List.sum_nil]
    cases decide (0 < e.getD (i * 1 + 0) 0) <;> decide
  · have : j = 0 ∨ j = 1 := by omega
    rcases this with rfl | rfl
    all_goals
      simp only [List.range_succ, List.range_zero, List.nil_append, List.map_cons, List.map_nil, List.sum_cons, List.sum_nil, List.cons_append]
      cases decide (0 < e.getD (i * 2 + 0) 0) <;> cases decide (0 < e.getD (i * 2 + 1) 0) <;> decide
  · have : j = 0 ∨ j = 1 ∨ j = 2 := by omega
    rcases this with rfl | rfl | rfl
    all_goals
      simp only [List.range_succ, List.range_zero, List.nil_append, List.map_cons, List.map_nil, List.sum_cons, List.sum_nil, List.cons_append]
      cases decide (0 < e.getD (i * 3 + 0) 0) <;> cases decide (0 < e.getD (i * 3 + 1) 0) <;> cases decide (0 < e.getD (i * 3 + 2) 0) <;> decide
theorem idx_en (hs : Sz n) {e : List Nat} {i j : Nat} : j ∈ indicesIn n ((patternOf n e).getD i 0) ↔ En n e i j := by
  unfold indicesIn
  rw [List.mem_filter, List.mem_range]
  by_cases hi : i < n
  · have e1 : (patternOf n e).getD i 0 = setOfRow n e i := by
      unfold patternOf
      exact getD_map_range hi
    rw [e1]
    constructor
    · rintro ⟨hj, h⟩
      rw [bit_row hs hj] at h
      exact ⟨hi, hj, of_decide_eq_true h⟩
    · rintro ⟨_, hj, h⟩
      exact ⟨hj, by rw [bit_row hs hj]; exact decide_eq_true h⟩
  · have e1 : (patternOf n e).getD i 0 = 0 := getD_of_ge (by simp [patternOf]; omega)
    rw [e1]
    constructor
    · rintro ⟨_, h⟩
      rw [hasIndex_bit, Nat.zero_testBit] at h
      cases h
    · exact fun h => absurd h.1 hi
abbrev Trio := Nat × Nat × Nat
def Go1 (n : Nat) (ms : List (List Nat)) (i j : Nat) : Prop := ∃ e ∈ ms, En n e i j
def Go2 (n : Nat) (ms : List (List Nat)) (x y : Nat × Nat) : Prop := ∃ e ∈ ms, En n e x.1 y.1 ∧ En n e x.2 y.2
def Go3 (n : Nat) (ms : List (List Nat)) (x y : Trio) : Prop := ∃ e ∈ ms, En n e x.1 y.1 ∧ En n e x.2.1 y.2.1 ∧ En n e x.2.2 y.2.2
theorem steps1 {p : List Nat} {i : Nat} {y : List Nat} : y ∈ stepsBy n p [i] ↔ ∃ c, y = [c] ∧ c ∈ indicesIn n (p.getD i 0) := by
  unfold stepsBy stepsLonger
  simp only [List.foldl_cons, List.foldl_nil, List.mem_flatMap, List.mem_map, List.mem_singleton]
  constructor
  · rintro ⟨b, rfl, c, hc, rfl⟩
    exact ⟨c, rfl, hc⟩
  · rintro ⟨c, rfl, hc⟩
    exact ⟨[], rfl, c, hc, rfl⟩
theorem steps_more {p st : List Nat} {i : Nat} {y : List Nat} : y ∈ stepsBy n p (st ++ [i]) ↔ ∃ b ∈ stepsBy n p st, ∃ c, y = b ++ [c] ∧ c ∈ indicesIn n (p.getD i 0) := by
  unfold stepsBy
  rw [List.foldl_append]
  show y ∈ stepsLonger n p _ i ↔ _
  unfold stepsLonger
  simp only [List.mem_flatMap, List.mem_map]
  constructor
  · rintro ⟨b, hb, c, hc, rfl⟩
    exact ⟨b, hb, c, rfl, hc⟩
  · rintro ⟨b, hb, c, rfl, hc⟩
    exact ⟨b, hb, c, hc, rfl⟩
theorem steps2 {p : List Nat} {i j : Nat} {y : List Nat} : y ∈ stepsBy n p [i, j] ↔ ∃ c d, y = [c, d] ∧ c ∈ indicesIn n (p.getD i 0) ∧ d ∈ indicesIn n (p.getD j 0) := by
  show y ∈ stepsBy n p ([i] ++ [j]) ↔ _
  rw [steps_more]
  constructor
  · rintro ⟨b, hb, d, rfl, hd⟩
    obtain ⟨c, rfl, hc⟩ := steps1.mp hb
    exact ⟨c, d, rfl, hc, hd⟩
  · rintro ⟨c, d, rfl, hc, hd⟩
    exact ⟨[c], steps1.mpr ⟨c, rfl, hc⟩, d, rfl, hd⟩
theorem steps3 {p : List Nat} {i j m : Nat} {y : List Nat} : y ∈ stepsBy n p [i, j, m] ↔ ∃ c d g, y = [c, d, g] ∧ c ∈ indicesIn n (p.getD i 0) ∧ d ∈ indicesIn n (p.getD j 0) ∧ g ∈ indicesIn n (p.getD m 0) := by
  show y ∈ stepsBy n p ([i, j] ++ [m]) ↔ _
  rw [steps_more]
  constructor
  · rintro ⟨b, hb, d, rfl, hd⟩
    obtain ⟨c, g, rfl, hc, hg⟩ := steps2.mp hb
    exact ⟨c, g, d, rfl, hc, hg, hd⟩
  · rintro ⟨c, d, g, rfl, hc, hd, hg⟩
    exact ⟨[c, d], steps2.mpr ⟨c, d, rfl, hc, hd⟩, g, rfl, hg⟩
theorem exists_pattern {P : List Nat → Prop} : (∃ p ∈ patternsOf n ms, P p) ↔ ∃ e ∈ ms, P (patternOf n e) := by
  constructor
  · rintro ⟨p, hp, h⟩
    obtain ⟨e, he, rfl⟩ := List.mem_map.mp hp
    exact ⟨e, he, h⟩
  · rintro ⟨e, he, h⟩
    exact ⟨_, List.mem_map.mpr ⟨e, he, rfl⟩, h⟩
theorem behind1 (hs : Sz n) {i : Nat} (hi : i < n) {y : List Nat} : y ∈ statesBehind n (patternsOf n ms) [i] ↔ ∃ j, y = [j] ∧ Plus (Go1 n ms) i j := by
  rw [behind_iff (k := 1) hs.le (by decide) ⟨rfl, fun x hx => by rw [List.mem_singleton.mp hx]; exact hi⟩]
  refine plus_image (fun i : Nat => [i]) fun a y => ?_
  unfold stepR Go1
  rw [exists_pattern]
  constructor
  · rintro ⟨e, he, h⟩
    obtain ⟨c, rfl, hc⟩ := steps1.mp h
    exact ⟨c, rfl, e, he, (idx_en hs).mp hc⟩
  · rintro ⟨c, rfl, e, he, hc⟩
    exact ⟨e, he, steps1.mpr ⟨c, rfl, (idx_en hs).mpr hc⟩⟩
theorem behind2 (hs : Sz n) {i j : Nat} (hi : i < n) (hj : j < n) {y : List Nat} : y ∈ statesBehind n (patternsOf n ms) [i, j] ↔ ∃ q : Nat × Nat, y = [q.1, q.2] ∧ Plus (Go2 n ms) (i, j) q := by
  rw [behind_iff (k := 2) hs.le (by decide) ⟨rfl, fun x hx => by
    rcases List.mem_cons.mp hx with e | e
    · rw [e]; exact hi
    · rw [List.mem_singleton.mp e]; exact hj⟩]
  refine plus_image (fun q : Nat × Nat => [q.1, q.2]) (x := (i, j)) fun a y => ?_
  unfold stepR Go2
  rw [exists_pattern]
  constructor
  · rintro ⟨e, he, h⟩
    obtain ⟨c, d, rfl, hc, hd⟩ := steps2.mp h
    exact ⟨(c, d), rfl, e, he, (idx_en hs).mp hc, (idx_en hs).mp hd⟩
  · rintro ⟨q, rfl, e, he, hc, hd⟩
    exact ⟨e, he, steps2.mpr ⟨_, _, rfl, (idx_en hs).mpr hc, (idx_en hs).mpr hd⟩⟩
theorem behind3 (hs : Sz n) {i j m : Nat} (hi : i < n) (hj : j < n) (hm : m < n) {y : List Nat} : y ∈ statesBehind n (patternsOf n ms) [i, j, m] ↔ ∃ q : Trio, y = [q.1, q.2.1, q.2.2] ∧ Plus (Go3 n ms) (i, j, m) q := by
  rw [behind_iff (k := 3) hs.le (by decide) ⟨rfl, fun x hx => by
    rcases List.mem_cons.mp hx with e | e
    · rw [e]; exact hi
    · rcases List.mem_cons.mp e with e | e
      · rw [e]; exact hj
      · rw [List.mem_singleton.mp e]; exact hm⟩]
  refine plus_image (fun q : Trio => [q.1, q.2.1, q.2.2]) (x := (i, j, m)) fun a y => ?_
  unfold stepR Go3
  rw [exists_pattern]
  constructor
  · rintro ⟨e, he, h⟩
    obtain ⟨c, d, g, rfl, hc, hd, hg⟩ := steps3.mp h
    exact ⟨(c, d, g), rfl, e, he, (idx_en hs).mp hc, (idx_en hs).mp hd, (idx_en hs).mp hg⟩
  · rintro ⟨q, rfl, e, he, hc, hd, hg⟩
    exact ⟨e, he, steps3.mpr ⟨_, _, _, rfl, (idx_en hs).mpr hc, (idx_en hs).mpr hd, (idx_en hs).mpr hg⟩⟩
/-! ### the specification's searches by the same relations -/
abbrev S4 (n : Nat) (ms : List (List Nat)) : Kv424.Now := ⟨n, cut n ms⟩
theorem any_cut {P : List Nat → Prop} {f : List (List Nat) → Bool} (h : ∀ e ∈ ms, f (Kv424.cutUp n e) = true ↔ P e) : (cut n ms).any f = true ↔ ∃ e ∈ ms, P e := by
  rw [List.any_eq_true]
  constructor
  · rintro ⟨t, ht, hf⟩
    obtain ⟨e, he, rfl⟩ := List.mem_map.mp ht
    exact ⟨e, he, (h e he).mp hf⟩
  · rintro ⟨e, he, hp⟩
    exact ⟨_, List.mem_map.mpr ⟨e, he, rfl⟩, (h e he).mpr hp⟩
theorem step1_iff {i j : Nat} : (S4 n ms).step i j = true ↔ Go1 n ms i j := any_cut fun _ _ => at_en
theorem step2_iff {x y : Nat × Nat} : (S4 n ms).step2 x y = true ↔ Go2 n ms x y := any_cut fun _ _ => by
  rw [Bool.and_eq_true, at_en, at_en]
theorem step3_iff {x y : Trio} : (S4 n ms).step3 x y = true ↔ Go3 n ms x y := any_cut fun _ _ => by
  rw [Bool.and_eq_true, Bool.and_eq_true, at_en, at_en, at_en]
  exact and_assoc
theorem star_in {α : Type} {all : List α} {go : α → α → Bool} {R : α → α → Prop} (h : ∀ x y, go x y = true ↔ R x y) (hin : ∀ x y, R x y → y ∈ all) {x y : α} : Star (fun a b => b ∈ all ∧ go a b = true) x y ↔ Star R x y :=
  ⟨fun s => s.mono fun a b r => (h a b).mp r.2, fun s => s.mono fun a b r => ⟨hin a b r, (h a b).mpr r⟩⟩
theorem spread_one {α : Type} [BEq α] [LawfulBEq α] {all : List α} {go : α → α → Bool} {R : α → α → Prop} (h : ∀ x y, go x y = true ↔ R x y) (hin : ∀ x y, R x y → y ∈ all) (nd : all.Nodup) {f : Nat} (hf : all.length ≤ f) {x y : α} (hx : x ∈ all) :
    y ∈ Kv424.spread all go f [x] ↔ Star R x y := by
  rw [spread_mem nd f [x] (by simp) (fun z hz => by rw [List.mem_singleton.mp hz]; exact hx) (by simp; omega)]
  constructor
  · rintro ⟨z, hz, s⟩
    rw [List.mem_singleton.mp hz] at s
    exact (star_in h hin).mp s
  · exact fun s => ⟨x, List.mem_singleton.mpr rfl, (star_in h hin).mpr s⟩
theorem spread_next {α : Type} [BEq α] [LawfulBEq α] {all : List α} {go : α → α → Bool} {R : α → α → Prop} (h : ∀ x y, go x y = true ↔ R x y) (hin : ∀ x y, R x y → y ∈ all) (nd : all.Nodup) {f : Nat} (hf : all.length ≤ f) {x y : α} :
    y ∈ Kv424.spread all go f (all.filter (go x)) ↔ Plus R x y := by
  rw [spread_mem nd f _ (nd.filter _) (fun z hz => (List.mem_filter.mp hz).1) (by omega), plus_iff]
  constructor
  · rintro ⟨z, hz, s⟩
    exact ⟨z, (h _ _).mp (List.mem_filter.mp hz).2, (star_in h hin).mp s⟩
  · rintro ⟨z, hz, s⟩
    exact ⟨z, List.mem_filter.mpr ⟨hin _ _ hz, (h _ _).mpr hz⟩, (star_in h hin).mpr s⟩
theorem places_nodup (n : Nat) : (Kv424.places n).Nodup := List.nodup_range
theorem mem_pairs {q : Nat × Nat} : q ∈ Kv424.pairs n ↔ q.1 < n ∧ q.2 < n := by
  unfold Kv424.pairs
  rw [List.mem_flatMap]
  constructor
  · rintro ⟨i, hi, h⟩
    obtain ⟨j, hj, rfl⟩ := List.mem_map.mp h
    exact ⟨List.mem_range.mp hi, List.mem_range.mp hj⟩
  · rintro ⟨hi, hj⟩
    exact ⟨q.1, List.mem_range.mpr hi, List.mem_map.mpr ⟨q.2, List.mem_range.mpr hj, rfl⟩⟩
theorem mem_threes {q : Trio} : q ∈ Kv424.threes n ↔ q.1 < n ∧ q.2.1 < n ∧ q.2.2 < n := by
  unfold Kv424.threes
  rw [List.mem_flatMap]
  constructor
  · rintro ⟨i, hi, h⟩
    obtain ⟨j, hj, rfl⟩ := List.mem_map.mp h
    exact ⟨List.mem_range.mp hi, mem_pairs.mp hj⟩
  · rintro ⟨hi, hj⟩
    exact ⟨q.1, List.mem_range.mpr hi, List.mem_map.mpr ⟨q.2, mem_pairs.mpr hj, rfl⟩⟩
theorem pairs_list (hs : Sz n) : (Kv424.pairs n).Nodup ∧ (Kv424.pairs n).length ≤ n * n := by
  rcases hs with rfl | rfl | rfl <;> decide
theorem threes_list (hs : Sz n) : (Kv424.threes n).Nodup ∧ (Kv424.threes n).length ≤ n * n * n := by
  rcases hs with rfl | rfl | rfl <;> decide
theorem onward_iff {i p : Nat} : p ∈ (S4 n ms).onward i ↔ Plus (Go1 n ms) i p :=
  spread_next (fun _ _ => step1_iff) (fun x y h => by
    obtain ⟨e, _, h⟩ := h
    exact List.mem_range.mpr h.2.1) (places_nodup n) (by rw [Kv424.places, List.length_range]; exact Nat.le_refl n)
theorem two_in {x y : Nat × Nat} (h : Go2 n ms x y) : y ∈ Kv424.pairs n := by
  obtain ⟨e, _, h1, h2⟩ := h
  exact mem_pairs.mpr ⟨h1.2.1, h2.2.1⟩
theorem three_in {x y : Trio} (h : Go3 n ms x y) : y ∈ Kv424.threes n := by
  obtain ⟨e, _, h1, h2, h3⟩ := h
  exact mem_threes.mpr ⟨h1.2.1, h2.2.1, h3.2.1⟩
/-! ### follows, leaks -/
def Fw (n : Nat) (ms : List (List Nat)) (i j : Nat) : Prop := j = i ∨ Plus (Go1 n ms) i j
def Lk (n : Nat) (ms : List (List Nat)) (i j : Nat) : Prop := i ≠ j ∧ Plus (Go3 n ms) (i, i, j) (i, j, j)
theorem Lk.lt {i j : Nat} (h : Lk n ms i j) : i < n ∧ j < n := by
  obtain ⟨z, e, _, h1, _, h3⟩ := h.2.last
  obtain ⟨z, e, _, h4, _, h6⟩ := h.2.first
  exact ⟨h4.1, h6.1⟩
theorem Lk.way {i j : Nat} (h : Lk n ms i j) : Plus (Go1 n ms) i j := h.2.map (fun t => t.2.1) fun a b r => by
  obtain ⟨e, he, _, h2, _⟩ := r
  exact ⟨e, he, h2⟩
theorem table_iff (hs : Sz n) {i j : Nat} (hi : i < n) : isOrFollows (followTable n (patternsOf n ms)) i j = true ↔ Fw n ms i j := by
  unfold isOrFollows followTable Fw
  rw [getD_map_range hi, Bool.or_eq_true, beq_iff_eq, List.contains_iff_mem, behind1 hs hi]
  constructor
  · rintro (h | ⟨c, e, h⟩)
    · exact .inl h.symm
    · cases e
      exact .inr h
  · rintro (h | h)
    · exact .inl h.symm
    · exact .inr ⟨j, rfl, h⟩
theorem spec_follow {i p : Nat} : (p == i || ((S4 n ms).onward i).contains p) = true ↔ Fw n ms i p := by
  rw [Bool.or_eq_true, beq_iff_eq, List.contains_iff_mem, onward_iff]
  exact Iff.rfl
theorem spec_follow2 {i q : Nat} : (q == i || ((S4 n ms).onward q).contains i) = true ↔ Fw n ms q i := by
  rw [Bool.or_eq_true, beq_iff_eq, List.contains_iff_mem, onward_iff]
  unfold Fw
  exact ⟨fun h => h.imp Eq.symm id, fun h => h.imp Eq.symm id⟩
theorem leak_iff (hs : Sz n) {i j : Nat} : (S4 n ms).leak i j = true ↔ Lk n ms i j := by
  unfold Kv424.Now.leak Lk
  rw [Bool.and_eq_true, bne_iff_ne, List.contains_iff_mem]
  have e := spread_next (go := (S4 n ms).step3) (R := Go3 n ms) (all := Kv424.threes n) (fun _ _ => step3_iff) (fun _ _ h => three_in h) (threes_list hs).1 (threes_list hs).2 (x := (i, i, j)) (y := (i, j, j))
  exact and_congr_right fun _ => e
theorem leaks_iff (hs : Sz n) {q : Nat × Nat} : q ∈ leaksOf n (patternsOf n ms) ↔ Lk n ms q.1 q.2 := by
  unfold leaksOf
  rw [List.mem_flatMap]
  constructor
  · rintro ⟨i, hi, h⟩
    obtain ⟨j, hj, rfl⟩ := List.mem_map.mp h
    obtain ⟨h1, h2⟩ := List.mem_filter.mp hj
    rw [Bool.and_eq_true, bne_iff_ne, List.contains_iff_mem, behind3 hs (List.mem_range.mp hi) (List.mem_range.mp hi) (List.mem_range.mp h1)] at h2
    obtain ⟨h3, t, e, h4⟩ := h2
    injection e with e1 e
    injection e with e2 e
    injection e with e3 e
    obtain ⟨t1, t2, t3⟩ := t
    dsimp only at e1 e2 e3
    subst e1 e2 e3
    exact ⟨h3, h4⟩
  · intro h
    obtain ⟨hi, hj⟩ := h.lt
    refine ⟨q.1, List.mem_range.mpr hi, List.mem_map.mpr ⟨q.2, List.mem_filter.mpr ⟨List.mem_range.mpr hj, ?_⟩, rfl⟩⟩
    rw [Bool.and_eq_true, bne_iff_ne, List.contains_iff_mem, behind3 hs hi hi hj]
    exact ⟨h.1, _, rfl, h.2⟩
/-! ### exponential growth -/
def Twice (n : Nat) (ms : List (List Nat)) (i : Nat) : Prop := ∃ q : Nat × Nat, q.1 ≠ q.2 ∧ Plus (Go2 n ms) (i, i) q ∧ Plus (Go2 n ms) q (i, i)
def Double (n : Nat) (ms : List (List Nat)) (i : Nat) : Prop := ∃ e ∈ ms, ∃ p q, p < n ∧ q < n ∧ 2 ≤ e.getD (p * n + q) 0 ∧ Fw n ms i p ∧ Fw n ms q i
theorem parts_iff (hs : Sz n) {i : Nat} (hi : i < n) : partsAndMeets n (patternsOf n ms) i = true ↔ Twice n ms i := by
  unfold partsAndMeets Twice
  rw [List.any_eq_true]
  constructor
  · rintro ⟨s, h1, h2⟩
    obtain ⟨q, rfl, hq⟩ := (behind2 hs hi hi).mp h1
    obtain ⟨z, ⟨e, _, hl1, hl2⟩⟩ := hq.last
    rw [Bool.and_eq_true, bne_iff_ne, List.contains_iff_mem, behind2 hs hl1.2.1 hl2.2.1] at h2
    obtain ⟨h3, t, e, h4⟩ := h2
    injection e with e1 e
    injection e with e2 e
    obtain ⟨t1, t2⟩ := t
    dsimp only at e1 e2
    subst e1 e2
    exact ⟨q, h3, hq, h4⟩
  · rintro ⟨q, h3, hq, h4⟩
    obtain ⟨z, ⟨e, _, hl1, hl2⟩⟩ := hq.last
    refine ⟨[q.1, q.2], (behind2 hs hi hi).mpr ⟨q, rfl, hq⟩, ?_⟩
    rw [Bool.and_eq_true, bne_iff_ne, List.contains_iff_mem, behind2 hs hl1.2.1 hl2.2.1]
    exact ⟨h3, _, rfl, h4⟩
theorem doubles_iff (hs : Sz n) (hm : ∀ e ∈ ms, e.length = n * n) {i : Nat} (hi : i < n) : doublesOnWay n ms (followTable n (patternsOf n ms)) i = true ↔ Double n ms i := by
  unfold doublesOnWay Double
  rw [List.any_eq_true]
  refine exists_congr fun e => and_congr_right fun he => ?_
  rw [List.any_eq_true]
  constructor
  · rintro ⟨p, hp, h⟩
    rw [hm e he, List.mem_range] at hp
    rw [Bool.and_eq_true, Bool.and_eq_true] at h
    have h1 : p / n < n := Nat.div_lt_of_lt_mul hp
    have h2 : p % n < n := Nat.mod_lt _ hs.pos
    rw [table_iff hs hi, table_iff hs h2] at h
    refine ⟨p / n, p % n, h1, h2, ?_, h.2⟩
    rw [Nat.mul_comm, Nat.div_add_mod]
    exact of_decide_eq_true h.1
  · rintro ⟨p, q, hp, hq, h2, h3, h4⟩
    refine ⟨p * n + q, by rw [hm e he, List.mem_range]; exact idx_lt hp hq, ?_⟩
    rw [Bool.and_eq_true, Bool.and_eq_true, idx_div hq, idx_mod hq, table_iff hs hi, table_iff hs hq]
    exact ⟨decide_eq_true h2, h3, h4⟩
theorem twice_iff (hs : Sz n) {i : Nat} (hi : i < n) : (S4 n ms).twice i = true ↔ Twice n ms i ∨ Double n ms i := by
  unfold Kv424.Now.twice
  dsimp only
  rw [Bool.or_eq_true]
  have sp : ∀ {x y : Nat × Nat}, x ∈ Kv424.pairs n → (y ∈ Kv424.spread (Kv424.pairs n) (S4 n ms).step2 (n * n) [x] ↔ Star (Go2 n ms) x y) := fun hx =>
    spread_one (fun _ _ => step2_iff) (fun _ _ h => two_in h) (pairs_list hs).1 (pairs_list hs).2 hx
  have hii : (i, i) ∈ Kv424.pairs n := mem_pairs.mpr ⟨hi, hi⟩
  refine or_congr ?_ ?_
  · rw [List.any_eq_true]
    constructor
    · rintro ⟨q, hq, h⟩
      rw [sp hii] at hq
      rw [Bool.and_eq_true, bne_iff_ne, List.contains_iff_mem] at h
      obtain ⟨h1, h2⟩ := h
      have ne1 : q ≠ (i, i) := fun z => by rw [z] at h1; exact h1 rfl
      have hq2 : Plus (Go2 n ms) (i, i) q := (star_iff.mp hq).resolve_left ne1
      have hqin : q ∈ Kv424.pairs n := by
        obtain ⟨z, hz⟩ := hq2.last
        exact two_in hz
      rw [sp hqin] at h2
      exact ⟨q, h1, hq2, (star_iff.mp h2).resolve_left fun z => ne1 z.symm⟩
    · rintro ⟨q, h1, h2, h3⟩
      have hqin : q ∈ Kv424.pairs n := by
        obtain ⟨z, hz⟩ := h2.last
        exact two_in hz
      refine ⟨q, (sp hii).mpr (star_iff.mpr (.inr h2)), ?_⟩
      rw [Bool.and_eq_true, bne_iff_ne, List.contains_iff_mem, sp hqin]
      exact ⟨h1, star_iff.mpr (.inr h3)⟩
  · unfold Double
    refine any_cut (P := fun e => ∃ p q, p < n ∧ q < n ∧ 2 ≤ e.getD (p * n + q) 0 ∧ Fw n ms i p ∧ Fw n ms q i) fun e _ => ?_
    rw [List.any_eq_true]
    refine exists_congr fun p => ?_
    rw [List.any_eq_true]
    constructor
    · rintro ⟨hp, q, hq, h⟩
      have hp2 := List.mem_range.mp hp
      have hq2 := List.mem_range.mp hq
      rw [Bool.and_eq_true, Bool.and_eq_true, spec_follow, spec_follow2, at_cut hp2 hq2] at h
      exact ⟨q, hp2, hq2, of_decide_eq_true h.1.1, h.1.2, h.2⟩
    · rintro ⟨q, hp, hq, h1, h2, h3⟩
      refine ⟨List.mem_range.mpr hp, q, List.mem_range.mpr hq, ?_⟩
      rw [Bool.and_eq_true, Bool.and_eq_true, spec_follow, spec_follow2, at_cut hp hq]
      exact ⟨⟨decide_eq_true h1, h2⟩, h3⟩
theorem exp_eq (hs : Sz n) (hm : ∀ e ∈ ms, e.length = n * n) : isExponential n ms (patternsOf n ms) (followTable n (patternsOf n ms)) = (Kv424.places n).any (S4 n ms).twice := by
  unfold isExponential Kv424.places
  rw [Bool.eq_iff_iff, List.any_eq_true, List.any_eq_true]
  refine exists_congr fun i => and_congr_right fun hi => ?_
  have hi2 := List.mem_range.mp hi
  rw [twice_iff hs hi2, Bool.or_eq_true, parts_iff hs hi2, doubles_iff hs hm hi2]
/-- a leak that can be led back is exponential -/
theorem Lk.back {p q : Nat} (h : Lk n ms p q) (k : Fw n ms q p) : Twice n ms p := by
  have k2 : Plus (Go1 n ms) q p := k.resolve_left h.1
  refine ⟨(p, q), h.1, h.2.map (fun t => (t.1, t.2.1)) fun a b r => ?_, (h.2.map (fun t => (t.2.1, t.2.2)) fun a b r => ?_ : Plus (Go2 n ms) (p, q) (q, q)).trans (k2.map (fun i => (i, i)) fun a b r => ?_)⟩
  · obtain ⟨e, he, h1, h2, _⟩ := r
    exact ⟨e, he, h1, h2⟩
  · obtain ⟨e, he, _, h1, h2⟩ := r
    exact ⟨e, he, h1, h2⟩
  · obtain ⟨e, he, h1⟩ := r
    exact ⟨e, he, h1, h1⟩
/-! ### the degree -/
/-- so many leaks one behind another, from a place on -/
def Ch (n : Nat) (ms : List (List Nat)) : Nat → Nat → Prop
  | 0, _ => True
  | d + 1, i => ∃ p q, Fw n ms i p ∧ Lk n ms p q ∧ Ch n ms d q
theorem le_max {d : Nat} : ∀ (l : List Nat) (a : Nat), d + 1 ≤ l.foldl max a ↔ d + 1 ≤ a ∨ ∃ x ∈ l, d + 1 ≤ x
  | [], a => by simp
  | x :: r, a => by
    rw [List.foldl_cons, le_max r]
    constructor
    · rintro (h | ⟨y, hy, h⟩)
      · rcases Nat.lt_or_ge d a with c | c
        · exact .inl c
        · exact .inr ⟨x, List.mem_cons_self .., by omega⟩
      · exact .inr ⟨y, List.mem_cons_of_mem _ hy, h⟩
    · rintro (h | ⟨y, hy, h⟩)
      · exact .inl (by omega)
      · rcases List.mem_cons.mp hy with e | e
        · subst e
          exact .inl (by omega)
        · exact .inr ⟨y, e, h⟩
theorem le_max0 {d : Nat} {l : List Nat} : d + 1 ≤ l.foldl max 0 ↔ ∃ x ∈ l, d + 1 ≤ x := by
  rw [le_max]
  exact ⟨fun h => h.resolve_left (by omega), .inr⟩
theorem Fw.lt {i p : Nat} (h : Fw n ms i p) (hi : i < n) : p < n := by
  rcases h with e | e
  · rw [e]
    exact hi
  · obtain ⟨z, e, _, h⟩ := e.last
    exact h.2.1
theorem spec_leaks (hs : Sz n) : ∀ (f d i : Nat), d ≤ (S4 n ms).leaks f i ↔ d = 0 ∨ (d ≤ f ∧ Ch n ms d i)
  | 0, d, i => by
    show d ≤ 0 ↔ _
    constructor
    · exact fun h => .inl (Nat.le_zero.mp h)
    · rintro (h | ⟨h, _⟩)
      · exact Nat.le_of_eq h
      · exact h
  | f + 1, 0, i => ⟨fun _ => .inl rfl, fun _ => Nat.zero_le _⟩
  | f + 1, d + 1, i => by
    show d + 1 ≤ ((Kv424.places n).map fun p => if (p == i || ((S4 n ms).onward i).contains p) = true then ((Kv424.places n).map fun q => if (S4 n ms).leak p q = true then 1 + (S4 n ms).leaks f q else 0).foldl max 0 else 0).foldl max 0 ↔ _
    rw [le_max0]
    constructor
    · rintro ⟨x, hx, h⟩
      obtain ⟨p, hp, rfl⟩ := List.mem_map.mp hx
      by_cases c : (p == i || ((S4 n ms).onward i).contains p) = true
      · rw [if_pos c, le_max0] at h
        obtain ⟨y, hy, h⟩ := h
        obtain ⟨q, hq, rfl⟩ := List.mem_map.mp hy
        by_cases c2 : (S4 n ms).leak p q = true
        · rw [if_pos c2] at h
          have h2 : d ≤ (S4 n ms).leaks f q := by omega
          rw [spec_leaks hs f d q] at h2
          rcases h2 with e | ⟨e1, e2⟩
          · subst e
            exact .inr ⟨by omega, p, q, spec_follow.mp c, (leak_iff hs).mp c2, trivial⟩
          · exact .inr ⟨by omega, p, q, spec_follow.mp c, (leak_iff hs).mp c2, e2⟩
        · rw [if_neg c2] at h
          omega
      · rw [if_neg c] at h
        omega
    · rintro (h | ⟨h, p, q, h1, h2, h3⟩)
      · cases h
      · obtain ⟨hp, hq⟩ := h2.lt
        refine ⟨_, List.mem_map.mpr ⟨p, List.mem_range.mpr hp, rfl⟩, ?_⟩
        rw [if_pos (spec_follow.mpr h1), le_max0]
        refine ⟨_, List.mem_map.mpr ⟨q, List.mem_range.mpr hq, rfl⟩, ?_⟩
        rw [if_pos ((leak_iff hs).mpr h2)]
        have := (spec_leaks hs f d q).mpr (.inr ⟨by omega, h3⟩)
        omega
theorem spec_degree (hs : Sz n) (d : Nat) : d + 1 ≤ ((Kv424.places n).map ((S4 n ms).leaks n)).foldl max 0 ↔ d < n ∧ ∃ i, i < n ∧ Ch n ms (d + 1) i := by
  rw [le_max0]
  constructor
  · rintro ⟨x, hx, h⟩
    obtain ⟨i, hi, rfl⟩ := List.mem_map.mp hx
    rw [spec_leaks hs] at h
    rcases h with e | ⟨h1, h2⟩
    · cases e
    · exact ⟨h1, i, List.mem_range.mp hi, h2⟩
  · rintro ⟨h1, i, hi, h2⟩
    exact ⟨_, List.mem_map.mpr ⟨i, List.mem_range.mpr hi, rfl⟩, (spec_leaks hs n (d + 1) i).mpr (.inr ⟨h1, h2⟩)⟩
/-- the leaks that end so many -/
def ends (n : Nat) (ms : List (List Nat)) : Nat → List (Nat × Nat)
  | 0 => leaksOf n (patternsOf n ms)
  | k + 1 => (leaksOf n (patternsOf n ms)).filter (continues_ (followTable n (patternsOf n ms)) (ends n ms k))
def Bk (n : Nat) (ms : List (List Nat)) : Nat → Nat × Nat → Prop
  | 0, _ => True
  | k + 1, e => ∃ b : Nat × Nat, Lk n ms b.1 b.2 ∧ Fw n ms b.2 e.1 ∧ Bk n ms k b
theorem ends_iff (hs : Sz n) : ∀ (k : Nat) (e : Nat × Nat), e ∈ ends n ms k ↔ Lk n ms e.1 e.2 ∧ Bk n ms k e
  | 0, e => by
    show e ∈ leaksOf n (patternsOf n ms) ↔ _
    rw [leaks_iff hs]
    exact ⟨fun h => ⟨h, trivial⟩, fun h => h.1⟩
  | k + 1, e => by
    show e ∈ (leaksOf n (patternsOf n ms)).filter _ ↔ _
    rw [List.mem_filter, leaks_iff hs]
    refine and_congr_right fun _ => ?_
    unfold continues_
    rw [List.any_eq_true]
    constructor
    · rintro ⟨b, hb, h⟩
      obtain ⟨h1, h2⟩ := (ends_iff hs k b).mp hb
      exact ⟨b, h1, (table_iff hs h1.lt.2).mp h, h2⟩
    · rintro ⟨b, h1, h, h2⟩
      exact ⟨b, (ends_iff hs k b).mpr ⟨h1, h2⟩, (table_iff hs h1.lt.2).mpr h⟩
theorem chain_turn : ∀ (k m : Nat), (∃ e : Nat × Nat, Lk n ms e.1 e.2 ∧ Bk n ms k e ∧ Ch n ms m e.2) ↔ ∃ e : Nat × Nat, Lk n ms e.1 e.2 ∧ Ch n ms (k + m) e.2
  | 0, m => by
    rw [Nat.zero_add]
    exact ⟨fun ⟨e, h1, _, h2⟩ => ⟨e, h1, h2⟩, fun ⟨e, h1, h2⟩ => ⟨e, h1, trivial, h2⟩⟩
  | k + 1, m => by
    rw [show k + 1 + m = k + (m + 1) by omega, ← chain_turn k (m + 1)]
    constructor
    · rintro ⟨e, h1, ⟨b, h2, h3, h4⟩, h5⟩
      exact ⟨b, h2, h4, e.1, e.2, h3, h1, h5⟩
    · rintro ⟨b, h2, h4, p, q, h3, h1, h5⟩
      exact ⟨(p, q), h1, ⟨b, h2, h3, h4⟩, h5⟩
theorem ends_ne (hs : Sz n) (k : Nat) : ends n ms k ≠ [] ↔ ∃ i, i < n ∧ Ch n ms (k + 1) i := by
  have e : ends n ms k ≠ [] ↔ ∃ e : Nat × Nat, Lk n ms e.1 e.2 ∧ Bk n ms k e ∧ Ch n ms 0 e.2 := by
    constructor
    · intro h
      obtain ⟨e, he⟩ := List.exists_mem_of_ne_nil _ h
      obtain ⟨h1, h2⟩ := (ends_iff hs k e).mp he
      exact ⟨e, h1, h2, trivial⟩
    · rintro ⟨e, h1, h2, _⟩ z
      have := (ends_iff hs k e).mpr ⟨h1, h2⟩
      rw [z] at this
      cases this
  rw [e, chain_turn]
  constructor
  · rintro ⟨e, h1, h2⟩
    exact ⟨e.1, h1.lt.1, e.1, e.2, .inl rfl, h1, h2⟩
  · rintro ⟨i, _, p, q, _, h1, h2⟩
    exact ⟨(p, q), h1, h2⟩
theorem Ch.less : ∀ {d i : Nat}, Ch n ms (d + 1) i → Ch n ms d i
  | 0, _, _ => trivial
  | _ + 1, _, ⟨p, q, h1, h2, h3⟩ => ⟨p, q, h1, h2, Ch.less h3⟩
theorem ends_less (hs : Sz n) {k : Nat} : ∀ m, ends n ms (k + m) ≠ [] → ends n ms k ≠ []
  | 0, h => h
  | m + 1, h => by
    refine ends_less hs m ?_
    rw [ends_ne hs] at h ⊢
    obtain ⟨i, hi, h⟩ := h
    exact ⟨i, hi, Ch.less h⟩
theorem loop_degree (hs : Sz n) : ∀ (f m d : Nat), d + 1 ≤ degreeLoop (followTable n (patternsOf n ms)) (leaksOf n (patternsOf n ms)) f m (ends n ms m) ↔ d < m ∨ (d < m + f ∧ ends n ms d ≠ [])
  | 0, m, d => by
    show d + 1 ≤ m ↔ _
    constructor
    · exact .inl
    · rintro (h | ⟨h, _⟩)
      · exact h
      · exact h
  | f + 1, m, d => by
    show d + 1 ≤ (if ends n ms m = [] then m else degreeLoop _ _ f (m + 1) (ends n ms (m + 1))) ↔ _
    by_cases c : ends n ms m = []
    · rw [if_pos c]
      constructor
      · exact .inl
      · rintro (h | ⟨_, h⟩)
        · exact h
        · rcases Nat.lt_or_ge d m with a | a
          · exact a
          · obtain ⟨j, rfl⟩ := Nat.exists_eq_add_of_le a
            exact absurd c (ends_less hs j h)
    · rw [if_neg c, loop_degree hs f (m + 1) d]
      constructor
      · rintro (h | ⟨h, k⟩)
        · rcases Nat.lt_or_ge d m with a | a
          · exact .inl a
          · obtain rfl : d = m := by omega
            exact .inr ⟨by omega, c⟩
        · exact .inr ⟨by omega, k⟩
      · rintro (h | ⟨h, k⟩)
        · exact .inl (by omega)
        · exact .inr ⟨by omega, k⟩
theorem Fw.trans {i j m : Nat} (h : Fw n ms i j) (k : Fw n ms j m) : Fw n ms i m := by
  rcases h with e | e
  · rw [e] at k
    exact k
  · rcases k with z | z
    · rw [z]
      exact .inr e
    · exact .inr (e.trans z)
/-- no way back: the leaks of a row are distinct -/
theorem chain_list (hno : ∀ p q, Lk n ms p q → ¬ Fw n ms q p) : ∀ {d i : Nat}, Ch n ms d i → ∃ l : List (Nat × Nat), l.length = d ∧ (∀ e ∈ l, Lk n ms e.1 e.2) ∧ (l.map Prod.fst).Nodup ∧ ∀ e ∈ l, Fw n ms i e.1
  | 0, _, _ => ⟨[], rfl, (fun e he => by cases he), List.nodup_nil, (fun e he => by cases he)⟩
  | d + 1, i, ⟨p, q, h1, h2, h3⟩ => by
    obtain ⟨l, e1, e2, e3, e4⟩ := chain_list hno h3
    refine ⟨(p, q) :: l, by rw [List.length_cons, e1], fun e he => ?_, ?_, fun e he => ?_⟩
    · rcases List.mem_cons.mp he with z | z
      · rw [z]
        exact h2
      · exact e2 e z
    · rw [List.map_cons]
      refine List.nodup_cons.mpr ⟨fun z => ?_, e3⟩
      obtain ⟨e, he, ee⟩ := List.mem_map.mp z
      have h4 := e4 e he
      rw [ee] at h4
      exact hno p q h2 h4
    · rcases List.mem_cons.mp he with z | z
      · rw [z]
        exact h1
      · exact h1.trans (Fw.trans (.inr h2.way) (e4 e z))
theorem nodup_of_map {α β : Type} (f : α → β) : ∀ {l : List α}, (l.map f).Nodup → l.Nodup
  | [], _ => List.nodup_nil
  | x :: r, h => by
    rw [List.map_cons] at h
    obtain ⟨h1, h2⟩ := List.nodup_cons.mp h
    exact List.nodup_cons.mpr ⟨fun z => h1 (List.mem_map.mpr ⟨x, z, rfl⟩), nodup_of_map f h2⟩
theorem degree_eq (hs : Sz n) (hno : ∀ p q, Lk n ms p q → ¬ Fw n ms q p) : degreeOf (followTable n (patternsOf n ms)) (leaksOf n (patternsOf n ms)) = ((Kv424.places n).map ((S4 n ms).leaks n)).foldl max 0 := by
  have key : ∀ d, d + 1 ≤ degreeOf (followTable n (patternsOf n ms)) (leaksOf n (patternsOf n ms)) ↔ d + 1 ≤ ((Kv424.places n).map ((S4 n ms).leaks n)).foldl max 0 := fun d => by
    rw [spec_degree hs]
    unfold degreeOf
    have e := loop_degree (ms := ms) hs (leaksOf n (patternsOf n ms)).length 0 d
    rw [show ends n ms 0 = leaksOf n (patternsOf n ms) from rfl] at e
    rw [e, ends_ne hs]
    constructor
    · rintro (h | ⟨_, i, hi, h⟩)
      · exact absurd h (Nat.not_lt_zero _)
      · refine ⟨?_, i, hi, h⟩
        obtain ⟨l, e1, e2, e3, _⟩ := chain_list hno h
        have : (l.map Prod.fst).length ≤ (List.range n).length := List.Nodup.length_le_of_subset e3 fun x hx => by
          obtain ⟨e, he, rfl⟩ := List.mem_map.mp hx
          exact List.mem_range.mpr (e2 e he).lt.1
        rw [List.length_map, List.length_range] at this
        omega
    · rintro ⟨_, i, hi, h⟩
      refine .inr ⟨?_, i, hi, h⟩
      obtain ⟨l, e1, e2, e3, _⟩ := chain_list hno h
      have : l.length ≤ (leaksOf n (patternsOf n ms)).length := List.Nodup.length_le_of_subset (nodup_of_map _ e3) fun x hx => (leaks_iff hs).mpr (e2 x hx)
      omega
  generalize degreeOf (followTable n (patternsOf n ms)) (leaksOf n (patternsOf n ms)) = a at *
  generalize ((Kv424.places n).map ((S4 n ms).leaks n)).foldl max 0 = b at *
  rcases Nat.lt_trichotomy a b with h | h | h
  · have := (key (b - 1)).mpr (by omega)
    omega
  · exact h
  · have := (key (a - 1)).mp (by omega)
    omega
theorem growth_eq (hs : Sz n) (hm : ∀ e ∈ ms, e.length = n * n) : growthOf n ms (patternsOf n ms) = (S4 n ms).grows := by
  unfold growthOf Kv424.Now.grows
  rw [exp_eq hs hm]
  show _ = if (Kv424.places n).any (S4 n ms).twice = true then _ else _
  by_cases c : (Kv424.places n).any (S4 n ms).twice = true
  · rw [if_pos c, if_pos c]
  · rw [if_neg c, if_neg c]
    have hno : ∀ p q, Lk n ms p q → ¬ Fw n ms q p := fun p q h1 h2 => c (by
      have hp := h1.lt.1
      exact List.any_eq_true.mpr ⟨p, List.mem_range.mpr hp, (twice_iff hs hp).mpr (.inl (h1.back h2))⟩)
    have e1 : ((List.range n).filter (fun i => ((followTable n (patternsOf n ms)).getD i []).contains [i]) = []) ↔ (!(Kv424.places n).any (S4 n ms).round) = true := by
      rw [List.filter_eq_nil_iff, Bool.not_eq_true', List.any_eq_false]
      refine forall_congr' fun i => ?_
      show _ → _ ↔ i ∈ List.range n → _
      refine forall_congr' fun hi => ?_
      have hi2 := List.mem_range.mp hi
      refine not_congr ?_
      unfold followTable Kv424.Now.round
      rw [getD_map_range hi2, List.contains_iff_mem, List.contains_iff_mem, behind1 hs hi2, onward_iff]
      constructor
      · rintro ⟨j, e, h⟩
        cases e
        exact h
      · exact fun h => ⟨i, rfl, h⟩
    have e2 := degree_eq hs hno
    by_cases d : (!(Kv424.places n).any (S4 n ms).round) = true
    · rw [if_pos (e1.mpr d), if_pos d]
    · rw [if_neg (fun z => d (e1.mp z)), if_neg d, e2]
end
end Mw
end
section
namespace Mw
/-! ### the model as the specification has it -/
section
def modelOf (n : Nat) (p : Past) : Kv426.Model := ⟨n, cut n p.matrices, p.guarantees, p.position, p.steps⟩
def sessionOf (m : Model) : Kv426.Session := ⟨modelOf m.size m.now, m.history.reverse.map (modelOf m.size)⟩
/-- every matrix has n times n entries -/
def Lens (n : Nat) (ms : List (List Nat)) : Prop := ∀ e ∈ ms, e.length = n * n
theorem Ms.lens {n : Nat} {ms : List (List Nat)} (h : Ms n ms) : Lens n ms := fun e he => (h e he).len
theorem boolean_eq (n : Nat) (p : Past) : (modelOf n p).boolean = ⟨n, patternsOf n p.matrices⟩ := plain_eq n p.matrices
theorem has_eq {n : Nat} {p : Past} (h : Lens n p.matrices) : (modelOf n p).hasProbabilities = areChances n p.matrices := hasP_eq h
theorem satisfies_eq {n : Nat} (hs : Sz n) {p : Past} (h : Lens n p.matrices) (g : Nat × Nat) : (modelOf n p).satisfies g = isSatisfied n p.matrices g.1 g.2 := by
  unfold Kv426.Model.satisfies isSatisfied
  by_cases c : g.1 = 0
  · rw [if_pos c, if_pos c, boolean_eq, ← zeroWord_ok hs (Pats.of hs _), Option.isNone_map]
  · rw [if_neg c, if_neg c]
    by_cases d : g.1 = 1
    · rw [if_pos d, if_pos d, growth_eq hs h]
      rfl
    · rw [if_neg d, if_neg d, has_eq h]
      cases e : areChances n p.matrices with
      | false => rfl
      | true =>
        rw [if_pos rfl, Bool.true_and, ← steps_eq hs (rich_of hs h e)]
        rfl
theorem all_satisfied {n : Nat} (hs : Sz n) {p : Past} (h : Lens n p.matrices) : (modelOf n p).satisfiesAll = areSatisfied n p.matrices p.guarantees := by
  unfold Kv426.Model.satisfiesAll areSatisfied
  show p.guarantees.all _ = _
  congr 1
  funext g
  exact satisfies_eq hs h g
theorem history_eq {α β : Type} (f : α → β) (l : List α) (x : α) (h : β) (e : f x = h) : (h :: l.reverse.map f).take 10 = ((l ++ [x]).drop ((l ++ [x]).length - 10)).reverse.map f := by
  rw [← List.take_reverse, List.reverse_append, List.map_take, ← e]
  rfl
/-- both answer the same -/
structure Agree (R : Kv426.Session × Kv426.Response) (t : Told) : Prop where
  st : R.1 = sessionOf t.1
  tl : Kv426Neutral.resultRow R.2 = t.2
section
variable {m : Model}
theorem Agree.err (z : Int) : Agree (sessionOf m, .error z) (m, [z]) := ⟨rfl, rfl⟩
theorem Agree.same {r : Kv426.Response} {z : List Int} (h : Kv426Neutral.resultRow r = z) : Agree (sessionOf m, r) (m, z) := ⟨rfl, h⟩
theorem Agree.replace {p : Past} {r : Kv426.Response} {z : List Int} (h : Kv426Neutral.resultRow r = z) : Agree ((sessionOf m).replace (modelOf m.size p) r) (m.take p, z) :=
  ⟨congrArg (Kv426.Session.mk (modelOf m.size p)) (history_eq (modelOf m.size) m.history m.now _ rfl), h⟩
theorem Agree.ite {c d : Prop} [Decidable c] [Decidable d] {A B : Kv426.Session × Kv426.Response} {X Y : Told} (h : c ↔ d) (hp : d → Agree A X) (hn : ¬ d → Agree B Y) : Agree (if c then A else B) (if d then X else Y) := by
  by_cases k : d
  · rw [if_pos (h.mpr k), if_pos k]
    exact hp k
  · rw [if_neg (fun z => k (h.mp z)), if_neg k]
    exact hn k
theorem Agree.change (h : Good m) {ms : List (List Nat)} (hm : Lens m.size ms) {cms : List (List (List Nat))} (hc : cms = cut m.size ms) {r : Kv426.Response} {z : List Int} (hr : Kv426Neutral.resultRow r = z) :
    Agree ((sessionOf m).changeMatrices cms r) (if areSatisfied m.size ms m.now.guarantees = false then (m, [-30]) else (m.take { m.now with matrices := ms }, z)) := by
  subst hc
  have e : ({ (sessionOf m).model with matrices := cut m.size ms } : Kv426.Model) = modelOf m.size { m.now with matrices := ms } := rfl
  have e2 := all_satisfied h.sz (p := { m.now with matrices := ms }) hm
  unfold Kv426.Session.changeMatrices
  dsimp only
  rw [e]
  exact Agree.ite (by rw [e2]) (fun _ => Agree.err _) fun _ => Agree.replace hr
theorem noMatrix_iff {n : Nat} {p : Past} {k : Nat} : (modelOf n p).noMatrix k = true ↔ p.matrices.length ≤ k := by
  unfold Kv426.Model.noMatrix
  rw [decide_eq_true_iff]
  show (cut n p.matrices).length ≤ k ↔ _
  rw [show (cut n p.matrices).length = p.matrices.length from List.length_map ..]
theorem noIndex_iff {n : Nat} {p : Past} {k : Nat} : (modelOf n p).noIndex k = true ↔ n ≤ k := by
  unfold Kv426.Model.noIndex
  exact decide_eq_true_iff
theorem cuts_len (n : Nat) (ms : List (List Nat)) : (cut n ms).length = ms.length := List.length_map ..
/-! ### the deeds -/
theorem addMatrix_ok (h : Good m) (items : List Nat) : Agree ((sessionOf m).run (.addMatrix items)) (addMatrix m items) := by
  refine Agree.ite ?_ (fun _ => Agree.err _) fun h1 => Agree.ite ?_ (fun _ => Agree.err _) fun _ => Agree.change h ?_ ?_ ?_
  · show (items.length ≠ m.size * m.size ∨ (items.any fun v => decide (9 < v)) = true) ↔ areEntries m.size items = false
    unfold areEntries
    rw [Bool.and_eq_false_iff, beq_eq_false_iff_ne, List.all_eq_false, List.any_eq_true]
    refine or_congr Iff.rfl (exists_congr fun x => and_congr_right fun _ => ?_)
    rw [decide_eq_true_iff, decide_eq_true_iff]
    omega
  · show 3 ≤ (cut m.size m.now.matrices).length ↔ m.now.matrices.length = 3
    rw [cuts_len]
    have := h.now.ml
    omega
  · have e := Bool.not_eq_false _ ▸ h1
    unfold areEntries at h1
    rw [Bool.not_eq_false, Bool.and_eq_true, beq_iff_eq] at h1
    intro e he
    rcases List.mem_append.mp he with a | a
    · exact h.now.ms.lens e a
    · rw [List.mem_singleton.mp a]
      exact h1.1
  · show cut m.size m.now.matrices ++ [Kv424.cutUp m.size items] = cut m.size (m.now.matrices ++ [items])
    unfold cut
    rw [List.map_append]
    rfl
  · show [(((cut m.size m.now.matrices).length : Nat) : Int)] = _
    rw [cuts_len]
theorem withItem_set {α : Type} (l : List α) (i : Nat) (x : α) (h : i < l.length) : withItem l i x = l.set i x := by
  unfold withItem
  rw [List.set_eq_take_append_cons_drop, if_pos h, List.append_assoc]
  rfl
theorem withoutItem_erase {α : Type} (l : List α) (i : Nat) : withoutItem l i = l.eraseIdx i := (List.eraseIdx_eq_take_drop_succ l i).symm
theorem getD_set {α : Type} {l : List α} {i j : Nat} {x d : α} (h : i < l.length) : (l.set i x).getD j d = if i = j then x else l.getD j d := by
  rw [List.getD_eq_getElem?_getD, List.getElem?_set, List.getD_eq_getElem?_getD]
  by_cases c : i = j
  · subst c
    rw [if_pos rfl, if_pos h, if_pos rfl]
    rfl
  · rw [if_neg c, if_neg c]
theorem cut_set {n : Nat} {e : List Nat} (he : e.length = n * n) {r c v : Nat} (hr : r < n) (hc : c < n) :
    Kv424.cutUp n (e.set (r * n + c) v) = (Kv424.cutUp n e).set r (((Kv424.cutUp n e).getD r []).set c v) := by
  have ll : (Kv424.cutUp n e).length = n := by simp [Kv424.cutUp]
  refine ext_getD (d := []) (by simp [Kv424.cutUp]) fun i hi => ?_
  have hi2 : i < n := by simpa [Kv424.cutUp] using hi
  rw [cut_row hi2, getD_set (by rw [ll]; exact hr)]
  by_cases q : r = i
  · subst q
    rw [if_pos rfl, cut_row hr]
    refine ext_getD (d := 0) (by simp) fun j hj => ?_
    have hj2 : j < n := by simpa using hj
    rw [getD_map_range hj2, getD_set (by rw [he]; exact idx_lt hr hc), getD_set (by rw [List.length_map, List.length_range]; exact hc), getD_map_range hj2]
    by_cases z : c = j
    · rw [if_pos z, if_pos (by rw [z])]
    · rw [if_neg z, if_neg (by omega)]
  · rw [if_neg q, cut_row hi2]
    refine map_range_congr fun j hj => ?_
    rw [getD_set (by rw [he]; exact idx_lt hr hc), if_neg]
    intro z
    have e1 := idx_div (n := n) (i := r) hc
    rw [z, idx_div hj] at e1
    exact q e1.symm
theorem setEntry_ok (h : Good m) (k r c v : Nat) : Agree ((sessionOf m).run (.setEntry k r c v)) (setEntry m k r c v) := by
  refine Agree.ite ?_ (fun _ => Agree.err _) fun h1 => Agree.ite Iff.rfl (fun _ => Agree.err _) fun _ => Agree.change h ?_ ?_ ?_
  · show ((modelOf m.size m.now).noMatrix k = true ∨ (modelOf m.size m.now).noIndex r = true ∨ (modelOf m.size m.now).noIndex c = true) ↔ _
    rw [noMatrix_iff, noIndex_iff, noIndex_iff]
  all_goals
    have hk : k < m.now.matrices.length := Nat.lt_of_not_le fun z => h1 (.inl z)
    have hr : r < m.size := Nat.lt_of_not_le fun z => h1 (.inr (.inl z))
    have hc : c < m.size := Nat.lt_of_not_le fun z => h1 (.inr (.inr z))
    have hl : (m.now.matrices.getD k []).length = m.size * m.size := h.now.ms.lens _ (getD_mem hk)
  · intro e he
    unfold entrySet at he
    rw [withItem_set _ _ _ hk] at he
    rcases List.mem_or_eq_of_mem_set he with a | a
    · exact h.now.ms.lens e a
    · rw [a, withItem_set _ _ _ (by rw [hl]; exact idx_lt hr hc), List.length_set]
      exact hl
  · show (cut m.size m.now.matrices).set k (((cut m.size m.now.matrices).getD k []).set r ((((cut m.size m.now.matrices).getD k []).getD r []).set c v)) = _
    unfold entrySet
    rw [withItem_set _ _ _ hk, withItem_set _ _ _ (by rw [hl]; exact idx_lt hr hc), cut_get hk, ← cut_set hl hr hc]
    unfold cut
    rw [List.map_set]
  · show [(((((cut m.size m.now.matrices).getD k []).getD r []).getD c 0 : Nat) : Int)] = _
    rw [cut_get hk]
    have e := at_cut (n := m.size) (e := m.now.matrices.getD k []) hr hc
    unfold Kv424.at_ at e
    rw [e]
theorem removeMatrix_ok (h : Good m) (k : Nat) : Agree ((sessionOf m).run (.removeMatrix k)) (removeMatrix m k) := by
  refine Agree.ite ?_ (fun _ => Agree.err _) fun h1 => Agree.change h ?_ ?_ ?_
  · exact noMatrix_iff
  · intro e he
    rw [withoutItem_erase] at he
    exact h.now.ms.lens e (List.mem_of_mem_eraseIdx he)
  · show (cut m.size m.now.matrices).eraseIdx k = _
    rw [withoutItem_erase]
    unfold cut
    rw [List.eraseIdx_eq_take_drop_succ, List.eraseIdx_eq_take_drop_succ, List.map_append, List.map_take, List.map_drop]
  · show [(((cut m.size m.now.matrices).length - 1 : Nat) : Int)] = _
    rw [cuts_len, withoutItem_erase, List.length_eraseIdx_of_lt (by omega)]
theorem guarantee_eq (kind bound : Nat) : Kv426.isGuarantee kind bound = isGuarantee kind bound := by
  unfold Kv426.isGuarantee isGuarantee
  by_cases c : kind = 0
  · subst c
    rfl
  · by_cases d : kind = 1
    · subst d
      rfl
    · rw [if_neg c, if_neg c, if_neg d, if_neg d]
      by_cases e : kind = 2
      · subst e
        rfl
      · rw [decide_eq_false (by omega), beq_eq_false_iff_ne.mpr e, Bool.false_and]
theorem addGuarantee_ok (h : Good m) (kind bound : Nat) : Agree ((sessionOf m).run (.addGuarantee kind bound)) (addGuarantee m kind bound) := by
  refine Agree.ite ?_ (fun _ => Agree.err _) fun _ => Agree.ite ?_ (fun _ => Agree.err _) fun _ => Agree.ite ?_ (fun _ => Agree.err _) fun _ => Agree.ite ?_ (fun _ => Agree.err _) fun _ => Agree.replace (p := { m.now with guarantees := m.now.guarantees ++ [(kind, bound)] }) rfl
  · rw [guarantee_eq]
  · exact List.contains_iff_mem
  · show (modelOf m.size m.now).satisfies (kind, bound) = false ↔ _
    rw [satisfies_eq h.sz h.now.ms.lens]
  · show 3 ≤ m.now.guarantees.length ↔ _
    have := h.now.gl
    omega
theorem removeGuarantee_ok (m : Model) (i : Nat) : Agree ((sessionOf m).run (.removeGuarantee i)) (removeGuarantee m i) := by
  refine Agree.ite Iff.rfl (fun _ => Agree.err _) fun h1 => ?_
  rw [withoutItem_erase]
  refine Agree.replace (p := { m.now with guarantees := m.now.guarantees.eraseIdx i }) ?_
  show [((m.now.guarantees.length - 1 : Nat) : Int)] = _
  rw [List.length_eraseIdx_of_lt (by omega)]
theorem setPosition_ok (m : Model) (i : Nat) : Agree ((sessionOf m).run (.setPosition i)) (setPosition m i) :=
  Agree.ite noIndex_iff (fun _ => Agree.err _) fun _ => Agree.replace (p := { m.now with position := i, steps := [] }) rfl
theorem find_congr {α : Type} {p q : α → Bool} : ∀ {l : List α}, (∀ x ∈ l, p x = q x) → l.find? p = l.find? q
  | [], _ => rfl
  | x :: r, h => by
    rw [List.find?_cons, List.find?_cons, h x (List.mem_cons_self ..), find_congr fun y hy => h y (List.mem_cons_of_mem _ hy)]
theorem next_eq (h : Good m) {k chance : Nat} (hk : k < m.now.matrices.length) (hc : chance ≤ 999) :
    (modelOf m.size m.now).nextPosition k m.now.position chance = if isStuck m k = true then none else some (nextPosition m k chance) := by
  have hl : (m.now.matrices.getD k []).length = m.size * m.size := h.now.ms.lens _ (getD_mem hk)
  have er : ((cut m.size m.now.matrices).getD k []).getD m.now.position [] = ((m.now.matrices.getD k []).drop (m.now.position * m.size)).take m.size := by
    rw [cut_get hk, cut_row_slice hl h.now.pos]
  unfold Kv426.Model.nextPosition isStuck nextPosition rowSum
  show (if (((cut m.size m.now.matrices).getD k []).getD m.now.position []).sum = 0 then none else (List.range m.size).find? fun j => decide (chance * (((cut m.size m.now.matrices).getD k []).getD m.now.position []).sum < 1000 * ((((cut m.size m.now.matrices).getD k []).getD m.now.position []).take (j + 1)).sum)) = _
  rw [er]
  generalize hrow : (m.now.matrices.getD k []).drop (m.now.position * m.size) = row
  by_cases z : (row.take m.size).sum = 0
  · rw [if_pos z, if_pos (beq_iff_eq.mpr z)]
  · rw [if_neg z, if_neg (fun w => z (beq_iff_eq.mp w))]
    have e1 : ((List.range m.size).find? fun j => decide (chance * (row.take m.size).sum < 1000 * ((row.take m.size).take (j + 1)).sum)) = (List.range m.size).find? fun i => decide (chance * (row.take m.size).sum < 1000 * (row.take (i + 1)).sum) := by
      refine find_congr fun j hj => ?_
      have hj := List.mem_range.mp hj
      rw [List.take_take, Nat.min_eq_left (by omega)]
    rw [e1]
    have hsome : ((List.range m.size).find? fun i => decide (chance * (row.take m.size).sum < 1000 * (row.take (i + 1)).sum)).isSome = true := by
      rw [List.find?_isSome]
      have hp := h.sz.pos
      refine ⟨m.size - 1, List.mem_range.mpr (by omega), ?_⟩
      rw [show m.size - 1 + 1 = m.size by omega]
      refine decide_eq_true ?_
      have : chance * (row.take m.size).sum ≤ 999 * (row.take m.size).sum := Nat.mul_le_mul_right _ hc
      omega
    obtain ⟨j, hj⟩ := Option.isSome_iff_exists.mp hsome
    rw [hj]
    rfl
theorem refusal_cases (m : Model) (k chance : Nat) : (m.now.matrices.length ≤ k ∧ stepRefusal m k chance = [-2]) ∨ (¬ m.now.matrices.length ≤ k ∧ 999 < chance ∧ stepRefusal m k chance = [-22]) ∨ (¬ m.now.matrices.length ≤ k ∧ ¬ 999 < chance ∧ stepRefusal m k chance = []) := by
  unfold stepRefusal
  by_cases c : m.now.matrices.length ≤ k
  · exact .inl ⟨c, if_pos c⟩
  · by_cases d : 999 < chance
    · exact .inr (.inl ⟨c, d, by rw [if_neg c, if_pos d]⟩)
    · exact .inr (.inr ⟨c, d, by rw [if_neg c, if_neg d]⟩)
theorem walk_ok (h : Good m) (k chance : Nat) : Agree ((sessionOf m).run (.walk k chance)) (walk m k chance) := by
  show Agree (if (modelOf m.size m.now).noMatrix k = true then (sessionOf m, .error (-2)) else if 999 < chance then (sessionOf m, .error (-22)) else if 12 ≤ m.now.steps.length then (sessionOf m, .error (-28)) else match (modelOf m.size m.now).nextPosition k m.now.position chance with
    | none => (sessionOf m, .error (-33))
    | some j => (sessionOf m).replace { (sessionOf m).model with position := j, log := (sessionOf m).model.log ++ [(k, (sessionOf m).model.position, j)] } (.number j)) _
  unfold walk
  rcases refusal_cases m k chance with ⟨c, e⟩ | ⟨c, d, e⟩ | ⟨c, d, e⟩
  · rw [if_pos (noMatrix_iff.mpr c), e, if_pos (List.cons_ne_nil _ _)]
    exact Agree.err _
  · rw [if_neg (fun z => c (noMatrix_iff.mp z)), if_pos d, e, if_pos (List.cons_ne_nil _ _)]
    exact Agree.err _
  · rw [if_neg (fun z => c (noMatrix_iff.mp z)), if_neg d, e, if_neg (show ¬ (([] : List Int) ≠ []) from fun z => z rfl)]
    refine Agree.ite ?_ (fun _ => Agree.err _) fun _ => ?_
    · have := h.now.sl
      omega
    · rw [next_eq h (by omega) (by omega)]
      by_cases s : isStuck m k = true
      · rw [if_pos s, if_pos s]
        exact Agree.err _
      · rw [if_neg s, if_neg s]
        exact Agree.replace (p := { m.now with position := nextPosition m k chance, steps := m.now.steps ++ [(k, m.now.position, nextPosition m k chance)] }) rfl
theorem preview_ok (h : Good m) (k chance : Nat) : Agree ((sessionOf m).run (.previewWalk k chance)) (m, previewWalk m k chance) := by
  show Agree (if (modelOf m.size m.now).noMatrix k = true then (sessionOf m, .error (-2)) else if 999 < chance then (sessionOf m, .error (-22)) else match (modelOf m.size m.now).nextPosition k m.now.position chance with
    | none => (sessionOf m, .error (-33))
    | some j => (sessionOf m, .number j)) _
  unfold previewWalk
  rcases refusal_cases m k chance with ⟨c, e⟩ | ⟨c, d, e⟩ | ⟨c, d, e⟩
  · rw [if_pos (noMatrix_iff.mpr c), e, if_pos (List.cons_ne_nil _ _)]
    exact Agree.err _
  · rw [if_neg (fun z => c (noMatrix_iff.mp z)), if_pos d, e, if_pos (List.cons_ne_nil _ _)]
    exact Agree.err _
  · rw [if_neg (fun z => c (noMatrix_iff.mp z)), if_neg d, e, if_neg (show ¬ (([] : List Int) ≠ []) from fun z => z rfl), next_eq h (by omega) (by omega)]
    by_cases s : isStuck m k = true
    · rw [if_pos s, if_pos s]
      exact Agree.err _
    · rw [if_neg s, if_neg s]
      exact Agree.same rfl
theorem undo_ok (m : Model) : Agree ((sessionOf m).run .undo) (undo m) := by
  unfold undo
  by_cases c : m.history = []
  · rw [if_pos c]
    have e : (sessionOf m).history = [] := by
      show m.history.reverse.map _ = []
      rw [c]
      rfl
    show Agree (match (sessionOf m).history with
      | [] => (sessionOf m, .error (-6))
      | model :: rest => (⟨model, rest⟩, .number rest.length)) _
    rw [e]
    exact Agree.err _
  · rw [if_neg c]
    obtain ⟨l, x, e⟩ : ∃ l x, m.history = l ++ [x] := ⟨_, _, (List.dropLast_concat_getLast c).symm⟩
    have e2 : (sessionOf m).history = modelOf m.size x :: l.reverse.map (modelOf m.size) := by
      show m.history.reverse.map _ = _
      rw [e, List.reverse_append]
      rfl
    have e3 : m.back = ⟨m.size, x, l⟩ := by
      unfold Model.back
      rw [e, List.getLast?_concat, List.dropLast_concat]
      rfl
    show Agree (match (sessionOf m).history with
      | [] => (sessionOf m, .error (-6))
      | model :: rest => (⟨model, rest⟩, .number rest.length)) _
    rw [e2, e3]
    refine ⟨rfl, ?_⟩
    show [(((l.reverse.map (modelOf m.size)).length : Nat) : Int)] = [((l.length : Nat) : Int)]
    rw [List.length_map, List.length_reverse]
end
end
end Mw
end
section
namespace Mw
/-! ### the questions -/
section
variable {m : Model}
open Kv426Neutral (resultRow)
theorem rows_flat (n : Nat) (e : List Nat) : ∀ k, ((List.range k).map fun i => (List.range n).map fun j => e.getD (i * n + j) 0).flatten = (List.range (k * n)).map fun p => e.getD p 0
  | 0 => by rw [Nat.zero_mul] <;> rfl
  | k + 1 => by
    rw [List.range_succ, List.map_append, List.flatten_append, rows_flat n e k, Nat.add_mul, Nat.one_mul, List.range_add, List.map_append, List.map_map]
    simp
theorem flat_cut {n : Nat} {e : List Nat} (h : e.length = n * n) : (Kv424.cutUp n e).flatten = e := by
  unfold Kv424.cutUp
  rw [rows_flat, ← h, map_range_getD]
theorem getMatrix_ok (h : Good m) (k : Nat) : Agree ((sessionOf m).run (.getMatrix k)) (m, getMatrix m k) := by
  unfold getMatrix
  show Agree (if (modelOf m.size m.now).noMatrix k = true then (sessionOf m, .error (-2)) else (sessionOf m, .list ((cut m.size m.now.matrices).getD k []).flatten)) _
  by_cases c : m.now.matrices.length ≤ k
  · rw [if_pos (noMatrix_iff.mpr c), if_pos c]
    exact Agree.err _
  · rw [if_neg (fun z => c (noMatrix_iff.mp z)), if_neg c, cut_get (by omega), flat_cut (h.now.ms.lens _ (getD_mem (by omega)))]
    exact Agree.same rfl
theorem listGuarantees_ok : Agree ((sessionOf m).run .listGuarantees) (m, listGuarantees m) := Agree.same rfl
theorem flag_row (b : Bool) : resultRow (.number (Kv426.flag b)) = [if b = true then 1 else 0] := by
  cases b <;> rfl
theorem isSatisfied_ok (h : Good m) (kind bound : Nat) : Agree ((sessionOf m).run (.isSatisfied kind bound)) (m, answerIsSatisfied m kind bound) := by
  unfold answerIsSatisfied
  show Agree (if Kv426.isGuarantee kind bound = false then (sessionOf m, .error (-22)) else (sessionOf m, .number (Kv426.flag ((modelOf m.size m.now).satisfies (kind, bound))))) _
  rw [guarantee_eq]
  by_cases c : isGuarantee kind bound = false
  · rw [if_pos c, if_pos c]
    exact Agree.err _
  · rw [if_neg c, if_neg c, satisfies_eq h.sz h.now.ms.lens]
    exact Agree.same (flag_row _)
theorem word_iff {w : List Nat} : (w.any (modelOf m.size m.now).noMatrix) = true ↔ hasWord m w = false := by
  unfold hasWord
  rw [List.any_eq_true, List.all_eq_false]
  refine exists_congr fun k => and_congr_right fun _ => ?_
  rw [noMatrix_iff, decide_eq_true_iff]
  omega
theorem word_lt {w : List Nat} (h : ¬ hasWord m w = false) : ∀ k ∈ w, k < m.now.matrices.length := fun k hk => by
  unfold hasWord at h
  rw [Bool.not_eq_false, List.all_eq_true] at h
  exact of_decide_eq_true (h k hk)
theorem word_lt2 {w : List Nat} (h : ¬ hasWord m w = false) : ∀ k ∈ w, k < (patternsOf m.size m.now.matrices).length := fun k hk => by
  rw [show (patternsOf m.size m.now.matrices).length = m.now.matrices.length from List.length_map ..]
  exact word_lt h k hk
/-- what a pair and a word are refused for -/
abbrev Bad (m : Model) (i j : Nat) (w : List Nat) : Prop := m.size ≤ i ∨ m.size ≤ j ∨ hasWord m w = false
theorem bad_iff {i j : Nat} {w : List Nat} : ((modelOf m.size m.now).noIndex i = true ∨ (modelOf m.size m.now).noIndex j = true ∨ (w.any (modelOf m.size m.now).noMatrix) = true) ↔ Bad m i j w := by
  rw [noIndex_iff, noIndex_iff, word_iff]
theorem pair_cases (m : Model) (i j : Nat) (w : List Nat) (most : Nat) : (Bad m i j w ∧ pairRefusal m i j w most = [-2]) ∨ (¬ Bad m i j w ∧ most < w.length ∧ pairRefusal m i j w most = [-22]) ∨ (¬ Bad m i j w ∧ ¬ most < w.length ∧ pairRefusal m i j w most = []) := by
  unfold pairRefusal
  by_cases c : Bad m i j w
  · exact .inl ⟨c, if_pos c⟩
  · by_cases d : most < w.length
    · exact .inr (.inl ⟨c, d, by rw [if_neg c, if_pos d]⟩)
    · exact .inr (.inr ⟨c, d, by rw [if_neg c, if_neg d]⟩)
theorem Bad.i {i j : Nat} {w : List Nat} (h : ¬ Bad m i j w) : i < m.size := Nat.lt_of_not_le fun z => h (.inl z)
theorem Bad.j {i j : Nat} {w : List Nat} (h : ¬ Bad m i j w) : j < m.size := Nat.lt_of_not_le fun z => h (.inr (.inl z))
theorem Bad.w {i j : Nat} {w : List Nat} (h : ¬ Bad m i j w) : ¬ hasWord m w = false := fun z => h (.inr (.inr z))
theorem isReachable_ok (h : Good m) (i j : Nat) (w : List Nat) : Agree ((sessionOf m).run (.isReachable i j w)) (m, isReachable m i j w) := by
  unfold isReachable
  show Agree (if (modelOf m.size m.now).noIndex i = true ∨ (modelOf m.size m.now).noIndex j = true ∨ (w.any (modelOf m.size m.now).noMatrix) = true then (sessionOf m, .error (-2)) else if 40 < w.length then (sessionOf m, .error (-22)) else (sessionOf m, .number (Kv426.flag (Kv423.bit (((modelOf m.size m.now).boolean.word w).getD i 0) j)))) _
  rcases pair_cases m i j w 40 with ⟨c, e⟩ | ⟨c, d, e⟩ | ⟨c, d, e⟩
  · rw [if_pos (bad_iff.mpr c), e, if_pos (List.cons_ne_nil _ _)]
    exact Agree.err _
  · rw [if_neg (fun z => c (bad_iff.mp z)), if_pos d, e, if_pos (List.cons_ne_nil _ _)]
    exact Agree.err _
  · rw [if_neg (fun z => c (bad_iff.mp z)), if_neg d, e, if_neg (show ¬ (([] : List Int) ≠ []) from fun z => z rfl), boolean_eq, reach_eq h.sz (Pats.of h.sz _) (Bad.i c) (word_lt2 (Bad.w c))]
    exact Agree.same (flag_row _)
theorem countPaths_ok (i j : Nat) (w : List Nat) : Agree ((sessionOf m).run (.countPaths i j w)) (m, countPaths m i j w) := by
  unfold countPaths
  show Agree (if (modelOf m.size m.now).noIndex i = true ∨ (modelOf m.size m.now).noIndex j = true ∨ (w.any (modelOf m.size m.now).noMatrix) = true then (sessionOf m, .error (-2)) else if 40 < w.length then (sessionOf m, .error (-22)) else (sessionOf m, .number (Kv424.at_ ((S4 m.size m.now.matrices).word w) i j))) _
  rcases pair_cases m i j w 40 with ⟨c, e⟩ | ⟨c, d, e⟩ | ⟨c, d, e⟩
  · rw [if_pos (bad_iff.mpr c), e, if_pos (List.cons_ne_nil _ _)]
    exact Agree.err _
  · rw [if_neg (fun z => c (bad_iff.mp z)), if_pos d, e, if_pos (List.cons_ne_nil _ _)]
    exact Agree.err _
  · rw [if_neg (fun z => c (bad_iff.mp z)), if_neg d, e, if_neg (show ¬ (([] : List Int) ≠ []) from fun z => z rfl), paths_eq (Bad.i c) (Bad.j c) (word_lt (Bad.w c))]
    exact Agree.same rfl
theorem pathProbability_ok (h : Good m) (i j : Nat) (w : List Nat) : Agree ((sessionOf m).run (.pathProbability i j w)) (m, pathProbability m i j w) := by
  unfold pathProbability
  show Agree (if (modelOf m.size m.now).noIndex i = true ∨ (modelOf m.size m.now).noIndex j = true ∨ (w.any (modelOf m.size m.now).noMatrix) = true then (sessionOf m, .error (-2)) else if 8 < w.length then (sessionOf m, .error (-22)) else if (modelOf m.size m.now).hasProbabilities = false then (sessionOf m, .error (-33)) else (sessionOf m, ⟨0, (Kv425.at_ ((S5 m.size m.now.matrices).word w) i j).told⟩)) _
  rcases pair_cases m i j w 8 with ⟨c, e⟩ | ⟨c, d, e⟩ | ⟨c, d, e⟩
  · rw [if_pos (bad_iff.mpr c), e, if_pos (List.cons_ne_nil _ _)]
    exact Agree.err _
  · rw [if_neg (fun z => c (bad_iff.mp z)), if_pos d, e, if_pos (List.cons_ne_nil _ _)]
    exact Agree.err _
  · rw [if_neg (fun z => c (bad_iff.mp z)), if_neg d, e, if_neg (show ¬ (([] : List Int) ≠ []) from fun z => z rfl), has_eq h.now.ms.lens]
    by_cases a : areChances m.size m.now.matrices = false
    · rw [if_pos a, if_pos a]
      exact Agree.err _
    · rw [if_neg a, if_neg a, prob_told h.sz h.now.ms.lens (by simpa using a) (word_lt (Bad.w c)) (Bad.i c) (Bad.j c)]
      exact Agree.same rfl
theorem reachableSet_ok (h : Good m) (s : Nat) (w : List Nat) : Agree ((sessionOf m).run (.reachableSet s w)) (m, reachableSet m s w) := by
  unfold reachableSet
  show Agree (if (w.any (modelOf m.size m.now).noMatrix) = true then (sessionOf m, .error (-2)) else if decide (s < 2 ^ m.size) = false ∨ 40 < w.length then (sessionOf m, .error (-22)) else (sessionOf m, .number (Kv423.goes m.size ((modelOf m.size m.now).boolean.word w) s))) _
  by_cases c : hasWord m w = false
  · rw [if_pos (word_iff.mpr c), if_pos c]
    exact Agree.err _
  · rw [if_neg (fun z => c (word_iff.mp z)), if_neg c]
    have e : (decide (s < 2 ^ m.size) = false ∨ 40 < w.length) ↔ (2 ^ m.size ≤ s ∨ 40 < w.length) := by
      rw [decide_eq_false_iff_not]
      omega
    by_cases d : 2 ^ m.size ≤ s ∨ 40 < w.length
    · rw [if_pos (e.mpr d), if_pos d]
      exact Agree.err _
    · rw [if_neg (fun z => d (e.mp z)), if_neg d, boolean_eq, set_eq h.sz (Pats.of h.sz _) (by omega) (word_lt2 c)]
      exact Agree.same rfl
theorem countPatterns_ok (h : Good m) : Agree ((sessionOf m).run .countPatterns) (m, countPatterns m) := by
  unfold countPatterns
  show Agree (sessionOf m, .number (modelOf m.size m.now).boolean.all.length) _
  rw [boolean_eq, count_ok h.sz (Pats.of h.sz _)]
  exact Agree.same rfl
theorem told_first {o : Option (List Nat × List Nat)} : Agree (match o with
    | none => (sessionOf m, .error (-33))
    | some found => (sessionOf m, .list found.2)) (m, toldWord (o.map Prod.snd)) := by
  cases o with
  | none => exact Agree.err _
  | some z => exact Agree.same rfl
theorem zeroWord_agree (h : Good m) : Agree ((sessionOf m).run .zeroWord) (m, answerZeroWord m) := by
  unfold answerZeroWord
  rw [← zeroWord_ok h.sz (Pats.of h.sz _), ← boolean_eq]
  exact told_first
theorem columnWord_agree (h : Good m) : Agree ((sessionOf m).run .positiveColumnWord) (m, answerPositiveColumnWord m) := by
  unfold answerPositiveColumnWord
  rw [← columnWord_ok h.sz (Pats.of h.sz _), ← boolean_eq]
  exact told_first
theorem growth_ok (h : Good m) : Agree ((sessionOf m).run .growth) (m, growth m) := by
  unfold growth
  rw [growth_eq h.sz h.now.ms.lens]
  exact Agree.same rfl
theorem maxPaths_ok (len : Nat) : Agree ((sessionOf m).run (.maxPaths len)) (m, maxPaths m len) := by
  unfold maxPaths
  show Agree (if 4 < len then (sessionOf m, .error (-22)) else (sessionOf m, ⟨(((S4 m.size m.now.matrices).most len : Nat) : Int), ((S4 m.size m.now.matrices).best len).map Int.ofNat⟩)) _
  by_cases c : 4 < len
  · rw [if_pos c, if_pos c]
    exact Agree.err _
  · rw [if_neg c, if_neg c]
    have e := greatest_eq (n := m.size) m.now.matrices len
    have e1 : (S4 m.size m.now.matrices).most len = _ := (congrArg Prod.fst e).symm
    have e2 : (S4 m.size m.now.matrices).best len = _ := (congrArg Prod.snd e).symm
    rw [e1, e2]
    cases greatestTotal m.size m.now.matrices len with
    | none => exact Agree.same rfl
    | some b => exact Agree.same rfl
theorem ergodicity_ok (h : Good m) (w : List Nat) : Agree ((sessionOf m).run (.ergodicityCoefficient w)) (m, ergodicity m w) := by
  unfold ergodicity
  show Agree (if (w.any (modelOf m.size m.now).noMatrix) = true then (sessionOf m, .error (-2)) else if 8 < w.length then (sessionOf m, .error (-22)) else if (modelOf m.size m.now).hasProbabilities = false then (sessionOf m, .error (-33)) else (sessionOf m, ⟨0, (Kv425.delta m.size ((S5 m.size m.now.matrices).word w)).told⟩)) _
  by_cases c : hasWord m w = false
  · rw [if_pos (word_iff.mpr c), if_pos c]
    exact Agree.err _
  · rw [if_neg (fun z => c (word_iff.mp z)), if_neg c]
    by_cases d : 8 < w.length
    · rw [if_pos d, if_pos d]
      exact Agree.err _
    · rw [if_neg d, if_neg d, has_eq h.now.ms.lens]
      by_cases a : areChances m.size m.now.matrices = false
      · rw [if_pos a, if_pos a]
        exact Agree.err _
      · rw [if_neg a, if_neg a, coefficient_told h.sz h.now.ms.lens (by simpa using a) (word_lt c)]
        exact Agree.same rfl
theorem mixingIndex_ok (h : Good m) : Agree ((sessionOf m).run .mixingIndex) (m, answerMixingIndex m) := by
  unfold answerMixingIndex
  show Agree (if (modelOf m.size m.now).hasProbabilities = false then (sessionOf m, .error (-33)) else match (S5 m.size m.now.matrices).steps with
    | none => (sessionOf m, .error (-34))
    | some index => (sessionOf m, .number index)) _
  rw [has_eq h.now.ms.lens]
  by_cases a : areChances m.size m.now.matrices = false
  · rw [if_pos a, if_pos a]
    exact Agree.err _
  · rw [if_neg a, if_neg a, steps_eq h.sz (rich_of h.sz h.now.ms.lens (by simpa using a))]
    cases mixingIndex m.size (patternsOf m.size m.now.matrices) with
    | none => exact Agree.err _
    | some k => exact Agree.same rfl
theorem separatingWords_ok (h : Good m) : Agree ((sessionOf m).run .separatingWords) (m, answerSeparatingWords m) := by
  unfold answerSeparatingWords
  show Agree (if (modelOf m.size m.now).hasProbabilities = false then (sessionOf m, .error (-33)) else match (S5 m.size m.now.matrices).kept with
    | none => (sessionOf m, .error (-34))
    | some found => (sessionOf m, ⟨((found.1.1 : Nat) : Int), (found.1.2 :: found.2.1.length :: found.2.1 ++ found.2.2.length :: found.2.2).map Int.ofNat⟩)) _
  rw [has_eq h.now.ms.lens]
  by_cases a : areChances m.size m.now.matrices = false
  · rw [if_pos a, if_pos a]
    exact Agree.err _
  · rw [if_neg a, if_neg a]
    have hr := rich_of h.sz h.now.ms.lens (by simpa using a)
    cases e : mixingIndex m.size (patternsOf m.size m.now.matrices) with
    | some k =>
      have e1 : (S5 m.size m.now.matrices).kept = none := by
        unfold Kv425.Now.kept
        rw [steps_eq h.sz hr, e]
        rfl
      rw [e1, if_pos (show (some k).isSome = true from rfl)]
      exact Agree.err _
    | none =>
      obtain ⟨⟨z, hz⟩, e1⟩ := kept_eq h.sz hr e
      rw [e1, hz, if_neg (by decide)]
      exact Agree.same rfl
theorem getPosition_ok : Agree ((sessionOf m).run .getPosition) (m, getPosition m) := Agree.same rfl
theorem getLogEntry_ok (i : Nat) : Agree ((sessionOf m).run (.getLogEntry i)) (m, getLogEntry m i) := by
  unfold getLogEntry
  show Agree (match m.now.steps[i]? with
    | none => (sessionOf m, .error (-2))
    | some entry => (sessionOf m, ⟨((entry.1 : Nat) : Int), [((entry.2.1 : Nat) : Int), ((entry.2.2 : Nat) : Int)]⟩)) _
  cases m.now.steps[i]? with
  | none => exact Agree.err _
  | some s => exact Agree.same rfl
theorem getState_ok : Agree ((sessionOf m).run .getState) (m, getState m) := by
  refine Agree.same ?_
  show [((m.size : Nat) : Int), (((cut m.size m.now.matrices).length : Nat) : Int), ((m.now.guarantees.length : Nat) : Int), (((m.history.reverse.map (modelOf m.size)).length : Nat) : Int)] = _
  rw [cuts_len, List.length_map, List.length_reverse]
  rfl
/-! ### what is kept -/
theorem Good.take (h : Good m) {p : Past} (hp : GoodP m.size p) : Good (m.take p) where
  sz := h.sz
  now := hp
  past q hq := by
    have hq2 : q ∈ m.history ++ [m.now] := List.mem_of_mem_drop hq
    rcases List.mem_append.mp hq2 with a | a
    · exact h.past q a
    · rw [List.mem_singleton.mp a]
      exact h.now
  hl := by
    show (List.drop _ _).length ≤ 10
    rw [List.length_drop]
    omega
theorem Good.fresh {n : Nat} (h : Sz n) : Good (fresh n) := ⟨h, ⟨(fun e he => by cases he), Nat.zero_le _, Nat.zero_le _, h.pos, Nat.zero_le _⟩, fun p hp => (by cases hp), Nat.zero_le _⟩
theorem Good.ite {c : Prop} [Decidable c] {X Y : Told} (hp : c → Good X.1) (hn : ¬ c → Good Y.1) : Good (if c then X else Y).1 := by
  by_cases k : c
  · rw [if_pos k]
    exact hp k
  · rw [if_neg k]
    exact hn k
theorem GoodP.matrices {n : Nat} {p : Past} (h : GoodP n p) {ms : List (List Nat)} (h1 : Ms n ms) (h2 : ms.length ≤ 3) : GoodP n { p with matrices := ms } := ⟨h1, h2, h.gl, h.pos, h.sl⟩
theorem GoodP.guarantees {n : Nat} {p : Past} (h : GoodP n p) {gs : List (Nat × Nat)} (h2 : gs.length ≤ 3) : GoodP n { p with guarantees := gs } := ⟨h.ms, h.ml, h2, h.pos, h.sl⟩
theorem addMatrix_good (h : Good m) (items : List Nat) : Good (addMatrix m items).1 := by
  refine Good.ite (fun _ => h) fun h1 => Good.ite (fun _ => h) fun h2 => Good.ite (fun _ => h) fun _ => h.take (h.now.matrices ?_ ?_)
  · unfold areEntries at h1
    rw [Bool.not_eq_false, Bool.and_eq_true, beq_iff_eq, List.all_eq_true] at h1
    intro e he
    rcases List.mem_append.mp he with a | a
    · exact h.now.ms e a
    · rw [List.mem_singleton.mp a]
      exact ⟨h1.1, fun x hx => of_decide_eq_true (h1.2 x hx)⟩
  · have := h.now.ml
    rw [List.length_append]
    show _ + 1 ≤ 3
    omega
theorem setEntry_good (h : Good m) (k r c v : Nat) : Good (setEntry m k r c v).1 := by
  refine Good.ite (fun _ => h) fun h1 => Good.ite (fun _ => h) fun h2 => Good.ite (fun _ => h) fun _ => h.take (h.now.matrices ?_ ?_)
  all_goals
    have hk : k < m.now.matrices.length := Nat.lt_of_not_le fun z => h1 (.inl z)
    have hr : r < m.size := Nat.lt_of_not_le fun z => h1 (.inr (.inl z))
    have hc : c < m.size := Nat.lt_of_not_le fun z => h1 (.inr (.inr z))
    have hmat := h.now.ms _ (getD_mem (d := []) hk)
    unfold entrySet
    rw [withItem_set _ _ _ hk, withItem_set _ _ _ (by rw [hmat.len]; exact idx_lt hr hc)]
  · intro e he
    rcases List.mem_or_eq_of_mem_set he with a | a
    · exact h.now.ms e a
    · rw [a]
      refine ⟨by rw [List.length_set]; exact hmat.len, fun x hx => ?_⟩
      rcases List.mem_or_eq_of_mem_set hx with b | b
      · exact hmat.le x b
      · rw [b]
        omega
  · rw [List.length_set]
    exact h.now.ml
theorem removeMatrix_good (h : Good m) (k : Nat) : Good (removeMatrix m k).1 := by
  refine Good.ite (fun _ => h) fun h1 => Good.ite (fun _ => h) fun _ => h.take (h.now.matrices ?_ ?_)
  all_goals rw [withoutItem_erase]
  · exact fun e he => h.now.ms e (List.mem_of_mem_eraseIdx he)
  · exact Nat.le_trans (List.length_eraseIdx_le _ _) h.now.ml
theorem addGuarantee_good (h : Good m) (kind bound : Nat) : Good (addGuarantee m kind bound).1 := by
  refine Good.ite (fun _ => h) fun _ => Good.ite (fun _ => h) fun _ => Good.ite (fun _ => h) fun _ => Good.ite (fun _ => h) fun h1 => h.take (h.now.guarantees ?_)
  have := h.now.gl
  rw [List.length_append]
  show _ + 1 ≤ 3
  omega
theorem removeGuarantee_good (h : Good m) (i : Nat) : Good (removeGuarantee m i).1 := by
  refine Good.ite (fun _ => h) fun _ => h.take (h.now.guarantees ?_)
  rw [withoutItem_erase]
  exact Nat.le_trans (List.length_eraseIdx_le _ _) h.now.gl
theorem setPosition_good (h : Good m) (i : Nat) : Good (setPosition m i).1 :=
  Good.ite (fun _ => h) fun h1 => h.take ⟨h.now.ms, h.now.ml, h.now.gl, Nat.lt_of_not_le h1, Nat.zero_le _⟩
theorem next_lt (h : Good m) (k chance : Nat) : nextPosition m k chance < m.size := by
  unfold nextPosition
  cases e : (List.range m.size).find? fun i => decide (chance * rowSum m.size (m.now.matrices.getD k []) m.now.position <
    1000 * (((m.now.matrices.getD k []).drop (m.now.position * m.size)).take (i + 1)).sum) with
  | none => exact h.now.pos
  | some j => exact List.mem_range.mp (List.mem_of_find?_eq_some e)
theorem walk_good (h : Good m) (k chance : Nat) : Good (walk m k chance).1 := by
  refine Good.ite (fun _ => h) fun _ => Good.ite (fun _ => h) fun h1 => Good.ite (fun _ => h) fun _ => h.take ⟨h.now.ms, h.now.ml, h.now.gl, next_lt h k chance, ?_⟩
  have := h.now.sl
  show (m.now.steps ++ [_]).length ≤ 12
  rw [List.length_append]
  show _ + 1 ≤ 12
  omega
theorem undo_good (h : Good m) : Good (undo m).1 := by
  refine Good.ite (fun _ => h) fun c => ?_
  obtain ⟨l, x, e⟩ : ∃ l x, m.history = l ++ [x] := ⟨_, _, (List.dropLast_concat_getLast c).symm⟩
  have e3 : m.back = ⟨m.size, x, l⟩ := by
    unfold Model.back
    rw [e, List.getLast?_concat, List.dropLast_concat]
    rfl
  have hl := h.hl
  rw [e, List.length_append] at hl
  show Good m.back
  rw [e3]
  exact ⟨h.sz, h.past x (by rw [e]; exact List.mem_append_right _ (List.mem_singleton.mpr rfl)), fun p hp => h.past p (by rw [e]; exact List.mem_append_left _ hp), by show l.length ≤ 10; omega⟩
end
end Mw
end
section
namespace Mw
/-! ### the calls as the specification has them -/
section
open Kv426Neutral (resultRow)
def callOf (c : CallIn) : List (List Int) := if withList c.num then [(c.num : Int) :: zs c.nums, zs c.items] else [(c.num : Int) :: zs c.nums]
theorem naturals_zs : ∀ l : List Nat, Kv426Neutral.naturals (zs l) = l
  | [] => rfl
  | x :: r => congrArg (x :: ·) (naturals_zs r)
theorem len4 {α : Type} {l : List α} (h : l.length = 4) : ∃ a b c d, l = [a, b, c, d] := by
  match l, h with
  | [a, b, c, d], _ => exact ⟨a, b, c, d, rfl⟩
def opOf (num : Nat) (a items : List Nat) : Kv426.Operation := match num with
  | 0 => .create (a.getD 0 0)
  | 1 => .addMatrix items
  | 2 => .setEntry (a.getD 0 0) (a.getD 1 0) (a.getD 2 0) (a.getD 3 0)
  | 3 => .removeMatrix (a.getD 0 0)
  | 4 => .addGuarantee (a.getD 0 0) (a.getD 1 0)
  | 5 => .removeGuarantee (a.getD 0 0)
  | 6 => .setPosition (a.getD 0 0)
  | 7 => .walk (a.getD 0 0) (a.getD 1 0)
  | 8 => .getMatrix (a.getD 0 0)
  | 9 => .listGuarantees
  | 10 => .isSatisfied (a.getD 0 0) (a.getD 1 0)
  | 11 => .isReachable (a.getD 0 0) (a.getD 1 0) items
  | 12 => .countPaths (a.getD 0 0) (a.getD 1 0) items
  | 13 => .pathProbability (a.getD 0 0) (a.getD 1 0) items
  | 14 => .reachableSet (a.getD 0 0) items
  | 15 => .countPatterns
  | 16 => .zeroWord
  | 17 => .positiveColumnWord
  | 18 => .growth
  | 19 => .maxPaths (a.getD 0 0)
  | 20 => .ergodicityCoefficient items
  | 21 => .mixingIndex
  | 22 => .separatingWords
  | 23 => .getPosition
  | 24 => .previewWalk (a.getD 0 0) (a.getD 1 0)
  | 25 => .getLogEntry (a.getD 0 0)
  | 26 => .undo
  | 27 => .getState
  | _ => .getState
theorem op_eq (num : Nat) (nums items : List Nat) (hle : num ≤ 27) (hl : nums.length = width num) : Kv426Neutral.operationOf (callOf ⟨num, nums, items⟩) = some (opOf num nums items) := by
  match num, hle, hl with
  | 0, _, hl =>
    obtain ⟨x, rfl⟩ := len1 hl
    rfl
  | 1, _, hl =>
    obtain rfl := List.eq_nil_of_length_eq_zero hl
    show some (Kv426.Operation.addMatrix (Kv426Neutral.naturals (zs items))) = _
    rw [naturals_zs]
    rfl
  | 2, _, hl =>
    obtain ⟨x, y, z, u, rfl⟩ := len4 hl
    rfl
  | 3, _, hl =>
    obtain ⟨x, rfl⟩ := len1 hl
    rfl
  | 4, _, hl =>
    obtain ⟨x, y, rfl⟩ := len2 hl
    rfl
  | 5, _, hl =>
    obtain ⟨x, rfl⟩ := len1 hl
    rfl
  | 6, _, hl =>
    obtain ⟨x, rfl⟩ := len1 hl
    rfl
  | 7, _, hl =>
    obtain ⟨x, y, rfl⟩ := len2 hl
    rfl
  | 8, _, hl =>
    obtain ⟨x, rfl⟩ := len1 hl
    rfl
  | 9, _, hl =>
    obtain rfl := List.eq_nil_of_length_eq_zero hl
    rfl
  | 10, _, hl =>
    obtain ⟨x, y, rfl⟩ := len2 hl
    rfl
  | 11, _, hl =>
    obtain ⟨x, y, rfl⟩ := len2 hl
    show some (Kv426.Operation.isReachable x y (Kv426Neutral.naturals (zs items))) = _
    rw [naturals_zs]
    rfl
  | 12, _, hl =>
    obtain ⟨x, y, rfl⟩ := len2 hl
    show some (Kv426.Operation.countPaths x y (Kv426Neutral.naturals (zs items))) = _
    rw [naturals_zs]
    rfl
  | 13, _, hl =>
    obtain ⟨x, y, rfl⟩ := len2 hl
    show some (Kv426.Operation.pathProbability x y (Kv426Neutral.naturals (zs items))) = _
    rw [naturals_zs]
    rfl
  | 14, _, hl =>
    obtain ⟨x, rfl⟩ := len1 hl
    show some (Kv426.Operation.reachableSet x (Kv426Neutral.naturals (zs items))) = _
    rw [naturals_zs]
    rfl
  | 15, _, hl =>
    obtain rfl := List.eq_nil_of_length_eq_zero hl
    rfl
  | 16, _, hl =>
    obtain rfl := List.eq_nil_of_length_eq_zero hl
    rfl
  | 17, _, hl =>
    obtain rfl := List.eq_nil_of_length_eq_zero hl
    rfl
  | 18, _, hl =>
    obtain rfl := List.eq_nil_of_length_eq_zero hl
    rfl
  | 19, _, hl =>
    obtain ⟨x, rfl⟩ := len1 hl
    rfl
  | 20, _, hl =>
    obtain rfl := List.eq_nil_of_length_eq_zero hl
    show some (Kv426.Operation.ergodicityCoefficient (Kv426Neutral.naturals (zs items))) = _
    rw [naturals_zs]
    rfl
  | 21, _, hl =>
    obtain rfl := List.eq_nil_of_length_eq_zero hl
    rfl
  | 22, _, hl =>
    obtain rfl := List.eq_nil_of_length_eq_zero hl
    rfl
  | 23, _, hl =>
    obtain rfl := List.eq_nil_of_length_eq_zero hl
    rfl
  | 24, _, hl =>
    obtain ⟨x, y, rfl⟩ := len2 hl
    rfl
  | 25, _, hl =>
    obtain ⟨x, rfl⟩ := len1 hl
    rfl
  | 26, _, hl =>
    obtain rfl := List.eq_nil_of_length_eq_zero hl
    rfl
  | 27, _, hl =>
    obtain rfl := List.eq_nil_of_length_eq_zero hl
    rfl
  | n + 28, hle, _ => exact absurd hle (by omega)
theorem deed_ok {m : Model} (h : Good m) (num : Nat) (nums items : List Nat) (h0 : num ≠ 0) (hle : num ≤ 27) : Agree ((sessionOf m).run (opOf num nums items)) (deed num m nums items) := by
  match num, h0, hle with
  | 0, h0, _ => exact absurd rfl h0
  | 1, _, _ => exact addMatrix_ok h _
  | 2, _, _ => exact setEntry_ok h _ _ _ _
  | 3, _, _ => exact removeMatrix_ok h _
  | 4, _, _ => exact addGuarantee_ok h _ _
  | 5, _, _ => exact removeGuarantee_ok m _
  | 6, _, _ => exact setPosition_ok m _
  | 7, _, _ => exact walk_ok h _ _
  | 8, _, _ => exact getMatrix_ok h _
  | 9, _, _ => exact listGuarantees_ok
  | 10, _, _ => exact isSatisfied_ok h _ _
  | 11, _, _ => exact isReachable_ok h _ _ _
  | 12, _, _ => exact countPaths_ok _ _ _
  | 13, _, _ => exact pathProbability_ok h _ _ _
  | 14, _, _ => exact reachableSet_ok h _ _
  | 15, _, _ => exact countPatterns_ok h
  | 16, _, _ => exact zeroWord_agree h
  | 17, _, _ => exact columnWord_agree h
  | 18, _, _ => exact growth_ok h
  | 19, _, _ => exact maxPaths_ok _
  | 20, _, _ => exact ergodicity_ok h _
  | 21, _, _ => exact mixingIndex_ok h
  | 22, _, _ => exact separatingWords_ok h
  | 23, _, _ => exact getPosition_ok
  | 24, _, _ => exact preview_ok h _ _
  | 25, _, _ => exact getLogEntry_ok _
  | 26, _, _ => exact undo_ok m
  | 27, _, _ => exact getState_ok
  | n + 28, _, hle => exact absurd hle (by omega)
theorem deed_good {m : Model} (h : Good m) (num : Nat) (nums items : List Nat) : Good (deed num m nums items).1 := by
  match num with
  | 0 => exact h
  | 1 => exact addMatrix_good h _
  | 2 => exact setEntry_good h _ _ _ _
  | 3 => exact removeMatrix_good h _
  | 4 => exact addGuarantee_good h _ _
  | 5 => exact removeGuarantee_good h _
  | 6 => exact setPosition_good h _
  | 7 => exact walk_good h _ _
  | 8 => exact h
  | 9 => exact h
  | 10 => exact h
  | 11 => exact h
  | 12 => exact h
  | 13 => exact h
  | 14 => exact h
  | 15 => exact h
  | 16 => exact h
  | 17 => exact h
  | 18 => exact h
  | 19 => exact h
  | 20 => exact h
  | 21 => exact h
  | 22 => exact h
  | 23 => exact h
  | 24 => exact h
  | 25 => exact h
  | 26 => exact undo_good h
  | 27 => exact h
  | _ + 28 => exact h
theorem none_ok (num : Nat) (nums items : List Nat) (h0 : num ≠ 0) (hle : num ≤ 27) : Kv426.execute none (opOf num nums items) = (none, .error (-11)) := by
  match num, h0, hle with
  | 0, h0, _ => exact absurd rfl h0
  | 1, _, _ => rfl
  | 2, _, _ => rfl
  | 3, _, _ => rfl
  | 4, _, _ => rfl
  | 5, _, _ => rfl
  | 6, _, _ => rfl
  | 7, _, _ => rfl
  | 8, _, _ => rfl
  | 9, _, _ => rfl
  | 10, _, _ => rfl
  | 11, _, _ => rfl
  | 12, _, _ => rfl
  | 13, _, _ => rfl
  | 14, _, _ => rfl
  | 15, _, _ => rfl
  | 16, _, _ => rfl
  | 17, _, _ => rfl
  | 18, _, _ => rfl
  | 19, _, _ => rfl
  | 20, _, _ => rfl
  | 21, _, _ => rfl
  | 22, _, _ => rfl
  | 23, _, _ => rfl
  | 24, _, _ => rfl
  | 25, _, _ => rfl
  | 26, _, _ => rfl
  | 27, _, _ => rfl
  | n + 28, _, hle => exact absurd hle (by omega)
theorem sz_iff {n : Nat} : ¬ (n < 1 ∨ 3 < n) → Sz n := fun h => by
  unfold Sz
  omega
theorem answer_good {o : Option Model} (ho : ∀ m, o = some m → Good m) {c : CallIn} : ∀ m, (answerTo o c.num c.nums c.items).1 = some m → Good m := by
  intro m hm
  unfold answerTo at hm
  by_cases z : c.num = 0
  · rw [if_pos z] at hm
    unfold create at hm
    by_cases s : c.nums.getD 0 0 < 1 ∨ 3 < c.nums.getD 0 0
    · rw [if_pos s] at hm
      exact ho m hm
    · rw [if_neg s] at hm
      rw [← Option.some.inj hm]
      exact Good.fresh (sz_iff s)
  · rw [if_neg z] at hm
    cases o with
    | none => cases hm
    | some m2 =>
      rw [← Option.some.inj hm]
      exact deed_good (ho m2 rfl) _ _ _
theorem run_create (s : Kv426.Session) (n : Nat) : s.run (.create n) = if n < 1 ∨ 3 < n then (s, Kv426.Response.error (-22)) else (sessionOf (fresh n), Kv426.Response.number 0) := by
  show (if n = 0 ∨ 3 < n then (s, Kv426.Response.error (-22)) else _) = _
  by_cases c : n < 1 ∨ 3 < n
  · rw [if_pos c, if_pos (by omega)]
  · rw [if_neg c, if_neg (by omega)]
    rfl
/-- one call: the specification's step -/
theorem step_eq (o : Option Model) (ho : ∀ m, o = some m → Good m) (c : CallIn) (hc : c.Ok) :
    Kv426Neutral.step (o.map sessionOf) (callOf c) = ((answerTo o c.num c.nums c.items).1.map sessionOf, (answerTo o c.num c.nums c.items).2) := by
  have eo := op_eq c.num c.nums c.items hc.le hc.asked.len
  unfold Kv426Neutral.step
  rw [show callOf c = callOf ⟨c.num, c.nums, c.items⟩ from rfl, eo]
  show ((Kv426.execute (o.map sessionOf) (opOf c.num c.nums c.items)).1, resultRow (Kv426.execute (o.map sessionOf) (opOf c.num c.nums c.items)).2) = _
  unfold answerTo
  by_cases z : c.num = 0
  · rw [if_pos z, z]
    show ((Kv426.execute (o.map sessionOf) (.create (c.nums.getD 0 0))).1, resultRow (Kv426.execute (o.map sessionOf) (.create (c.nums.getD 0 0))).2) = _
    unfold create
    generalize c.nums.getD 0 0 = n
    cases o with
    | none =>
      show (let result := (Kv426.Session.mk ⟨1, [], [], 0, []⟩ []).run (.create n)
        ((if result.2.code < 0 then ((none : Kv426.State), result.2) else (some result.1, result.2)).1, resultRow (if result.2.code < 0 then ((none : Kv426.State), result.2) else (some result.1, result.2)).2)) = _
      rw [run_create]
      by_cases s : n < 1 ∨ 3 < n
      · rw [if_pos s, if_pos s]
        rfl
      · rw [if_neg s, if_neg s]
        rfl
    | some m =>
      show (some ((sessionOf m).run (.create n)).1, resultRow ((sessionOf m).run (.create n)).2) = _
      rw [run_create]
      by_cases s : n < 1 ∨ 3 < n
      · rw [if_pos s, if_pos s]
        rfl
      · rw [if_neg s, if_neg s]
        rfl
  · rw [if_neg z]
    cases o with
    | none =>
      show ((Kv426.execute none (opOf c.num c.nums c.items)).1, resultRow (Kv426.execute none (opOf c.num c.nums c.items)).2) = _
      rw [none_ok _ _ _ z hc.le]
      rfl
    | some m =>
      have a := deed_ok (ho m rfl) c.num c.nums c.items z hc.le
      show (some ((sessionOf m).run (opOf c.num c.nums c.items)).1, resultRow ((sessionOf m).run (opOf c.num c.nums c.items)).2) = _
      rw [a.st, a.tl]
      rfl
theorem told_played : ∀ (cs : List CallIn) (o : Option Model), (∀ m, o = some m → Good m) → (∀ c ∈ cs, CallIn.Ok c) →
    toldAll o cs = PyFlat.told (PyFlat.played Kv426Neutral.step (o.map sessionOf) (cs.map callOf))
  | [], _, _, _ => rfl
  | c :: r, o, ho, hc => by
    have e := step_eq o ho c (hc c (List.mem_cons_self ..))
    have ih := told_played r (answerTo o c.num c.nums c.items).1 (answer_good ho) fun d hd => hc d (List.mem_cons_of_mem _ hd)
    show ((answerTo o c.num c.nums c.items).2.length : Int) :: (answerTo o c.num c.nums c.items).2 ++ toldAll (answerTo o c.num c.nums c.items).1 r = _
    rw [ih]
    show _ = (((Kv426Neutral.step (o.map sessionOf) (callOf c)).2.length : Nat) : Int) :: (Kv426Neutral.step (o.map sessionOf) (callOf c)).2 ++ PyFlat.told (PyFlat.played Kv426Neutral.step (Kv426Neutral.step (o.map sessionOf) (callOf c)).1 (r.map callOf))
    rw [e]
theorem after_good : ∀ (cs : List CallIn) (o : Option Model), (∀ m, o = some m → Good m) → ∀ m, after o cs = some m → Good m
  | [], _, ho => ho
  | _ :: r, _, ho => after_good r _ (answer_good ho)
theorem fine_all (cs : List CallIn) : Fine cs := fun done rest _ m hm => by
  have h : Good m := after_good done none (fun m hm => by cases hm) m hm
  refine ⟨h, fun ha hn => ?_⟩
  exact (kept_eq h.sz (rich_of h.sz h.now.ms.lens ha) hn).1
/-! ### the list of numbers as calls -/
theorem zs_append (a b : List Nat) : zs (a ++ b) = zs a ++ zs b := List.map_append
theorem within_nat {x hi : Int} (h : PyInside.within 0 hi x = true) : 0 ≤ x ∧ x ≤ hi := by
  unfold PyInside.within at h
  rw [Bool.and_eq_true, decide_eq_true_iff, decide_eq_true_iff] at h
  exact h
theorem nats_of (hi : Int) : ∀ l : List Int, l.all (PyInside.within 0 hi) = true → ∃ ns : List Nat, l = zs ns ∧ ∀ x ∈ ns, (x : Int) ≤ hi
  | [], _ => ⟨[], rfl, fun x hx => by cases hx⟩
  | x :: r, h => by
    rw [List.all_cons, Bool.and_eq_true] at h
    obtain ⟨h1, h2⟩ := within_nat h.1
    obtain ⟨ns, e, hn⟩ := nats_of hi r h.2
    obtain ⟨k, rfl⟩ := Int.eq_ofNat_of_zero_le h1
    refine ⟨k :: ns, by rw [e]; rfl, fun y hy => ?_⟩
    rcases List.mem_cons.mp hy with z | z
    · rw [z]
      exact h2
    · exact hn y z
theorem each_all (b : Int × Int) : ∀ (k : Nat) (l : List Int), l.length = k → PyInside.each (List.replicate k b) l = l.all (PyInside.within b.1 b.2)
  | 0, [], _ => rfl
  | k + 1, x :: r, h => by
    have ih := each_all b k r (Nat.succ.inj h)
    show (PyInside.within b.1 b.2 x && PyInside.each (List.replicate k b) r) = _
    rw [ih]
    rfl
/-- what the document says of a call's number -/
structure Shape (p : Int) (n k num : Nat) : Prop where
  le : num ≤ 27
  ep : p = (num : Int)
  en : n = width num
  ek : k = if withList num then 1 else 0
  b1 : (PyKv426.bound p).1 = List.replicate n (0, 4294967295)
  b2 : (PyKv426.bound p).2 = List.replicate k (0, 65535, 0, 60)
theorem shape_of {p : Int} {n k : Nat} (h : PyKv426.shape p = some (n, k)) : ∃ num, Shape p n k num := by
  unfold PyKv426.shape at h
  by_cases c0 : p = 0
  · rw [if_pos c0] at h
    cases h
    subst c0
    exact ⟨0, by decide, rfl, rfl, rfl, rfl, rfl⟩
  rw [if_neg c0] at h
  by_cases c1 : p = 1
  · rw [if_pos c1] at h
    cases h
    subst c1
    exact ⟨1, by decide, rfl, rfl, rfl, rfl, rfl⟩
  rw [if_neg c1] at h
  by_cases c2 : p = 2
  · rw [if_pos c2] at h
    cases h
    subst c2
    exact ⟨2, by decide, rfl, rfl, rfl, rfl, rfl⟩
  rw [if_neg c2] at h
  by_cases c3 : p = 3
  · rw [if_pos c3] at h
    cases h
    subst c3
    exact ⟨3, by decide, rfl, rfl, rfl, rfl, rfl⟩
  rw [if_neg c3] at h
  by_cases c4 : p = 4
  · rw [if_pos c4] at h
    cases h
    subst c4
    exact ⟨4, by decide, rfl, rfl, rfl, rfl, rfl⟩
  rw [if_neg c4] at h
  by_cases c5 : p = 5
  · rw [if_pos c5] at h
    cases h
    subst c5
    exact ⟨5, by decide, rfl, rfl, rfl, rfl, rfl⟩
  rw [if_neg c5] at h
  by_cases c6 : p = 6
  · rw [if_pos c6] at h
    cases h
    subst c6
    exact ⟨6, by decide, rfl, rfl, rfl, rfl, rfl⟩
  rw [if_neg c6] at h
  by_cases c7 : p = 7
  · rw [if_pos c7] at h
    cases h
    subst c7
    exact ⟨7, by decide, rfl, rfl, rfl, rfl, rfl⟩
  rw [if_neg c7] at h
  by_cases c8 : p = 8
  · rw [if_pos c8] at h
    cases h
    subst c8
    exact ⟨8, by decide, rfl, rfl, rfl, rfl, rfl⟩
  rw [if_neg c8] at h
  by_cases c9 : p = 9
  · rw [if_pos c9] at h
    cases h
    subst c9
    exact ⟨9, by decide, rfl, rfl, rfl, rfl, rfl⟩
  rw [if_neg c9] at h
  by_cases c10 : p = 10
  · rw [if_pos c10] at h
    cases h
    subst c10
    exact ⟨10, by decide, rfl, rfl, rfl, rfl, rfl⟩
  rw [if_neg c10] at h
  by_cases c11 : p = 11
  · rw [if_pos c11] at h
    cases h
    subst c11
    exact ⟨11, by decide, rfl, rfl, rfl, rfl, rfl⟩
  rw [if_neg c11] at h
  by_cases c12 : p = 12
  · rw [if_pos c12] at h
    cases h
    subst c12
    exact ⟨12, by decide, rfl, rfl, rfl, rfl, rfl⟩
  rw [if_neg c12] at h
  by_cases c13 : p = 13
  · rw [if_pos c13] at h
    cases h
    subst c13
    exact ⟨13, by decide, rfl, rfl, rfl, rfl, rfl⟩
  rw [if_neg c13] at h
  by_cases c14 : p = 14
  · rw [if_pos c14] at h
    cases h
    subst c14
    exact ⟨14, by decide, rfl, rfl, rfl, rfl, rfl⟩
  rw [if_neg c14] at h
  by_cases c15 : p = 15
  · rw [if_pos c15] at h
    cases h
    subst c15
    exact ⟨15, by decide, rfl, rfl, rfl, rfl, rfl⟩
  rw [if_neg c15] at h
  by_cases c16 : p = 16
  · rw [if_pos c16] at h
    cases h
    subst c16
    exact ⟨16, by decide, rfl, rfl, rfl, rfl, rfl⟩
  rw [if_neg c16] at h
  by_cases c17 : p = 17
  · rw [if_pos c17] at h
    cases h
    subst c17
    exact ⟨17, by decide, rfl, rfl, rfl, rfl, rfl⟩
  rw [if_neg c17] at h
  by_cases c18 : p = 18
  · rw [if_pos c18] at h
    cases h
    subst c18
    exact ⟨18, by decide, rfl, rfl, rfl, rfl, rfl⟩
  rw [if_neg c18] at h
  by_cases c19 : p = 19
  · rw [if_pos c19] at h
    cases h
    subst c19
    exact ⟨19, by decide, rfl, rfl, rfl, rfl, rfl⟩
  rw [if_neg c19] at h
  by_cases c20 : p = 20
  · rw [if_pos c20] at h
    cases h
    subst c20
    exact ⟨20, by decide, rfl, rfl, rfl, rfl, rfl⟩
  rw [if_neg c20] at h
  by_cases c21 : p = 21
  · rw [if_pos c21] at h
    cases h
    subst c21
    exact ⟨21, by decide, rfl, rfl, rfl, rfl, rfl⟩
  rw [if_neg c21] at h
  by_cases c22 : p = 22
  · rw [if_pos c22] at h
    cases h
    subst c22
    exact ⟨22, by decide, rfl, rfl, rfl, rfl, rfl⟩
  rw [if_neg c22] at h
  by_cases c23 : p = 23
  · rw [if_pos c23] at h
    cases h
    subst c23
    exact ⟨23, by decide, rfl, rfl, rfl, rfl, rfl⟩
  rw [if_neg c23] at h
  by_cases c24 : p = 24
  · rw [if_pos c24] at h
    cases h
    subst c24
    exact ⟨24, by decide, rfl, rfl, rfl, rfl, rfl⟩
  rw [if_neg c24] at h
  by_cases c25 : p = 25
  · rw [if_pos c25] at h
    cases h
    subst c25
    exact ⟨25, by decide, rfl, rfl, rfl, rfl, rfl⟩
  rw [if_neg c25] at h
  by_cases c26 : p = 26
  · rw [if_pos c26] at h
    cases h
    subst c26
    exact ⟨26, by decide, rfl, rfl, rfl, rfl, rfl⟩
  rw [if_neg c26] at h
  by_cases c27 : p = 27
  · rw [if_pos c27] at h
    cases h
    subst c27
    exact ⟨27, by decide, rfl, rfl, rfl, rfl, rfl⟩
  rw [if_neg c27] at h
  cases h
theorem whole_of (num : Nat) (nums items : List Nat) (hle : num ≤ 27) (hl : nums.length = width num) : PyKv426.whole (callOf ⟨num, nums, items⟩) = callOf ⟨num, nums, items⟩ := by
  match num, hle, hl with
  | 0, _, hl =>
    obtain ⟨x, rfl⟩ := len1 hl
    rfl
  | 1, _, hl =>
    obtain rfl := List.eq_nil_of_length_eq_zero hl
    rfl
  | 2, _, hl =>
    obtain ⟨x, y, z, u, rfl⟩ := len4 hl
    rfl
  | 3, _, hl =>
    obtain ⟨x, rfl⟩ := len1 hl
    rfl
  | 4, _, hl =>
    obtain ⟨x, y, rfl⟩ := len2 hl
    rfl
  | 5, _, hl =>
    obtain ⟨x, rfl⟩ := len1 hl
    rfl
  | 6, _, hl =>
    obtain ⟨x, rfl⟩ := len1 hl
    rfl
  | 7, _, hl =>
    obtain ⟨x, y, rfl⟩ := len2 hl
    rfl
  | 8, _, hl =>
    obtain ⟨x, rfl⟩ := len1 hl
    rfl
  | 9, _, hl =>
    obtain rfl := List.eq_nil_of_length_eq_zero hl
    rfl
  | 10, _, hl =>
    obtain ⟨x, y, rfl⟩ := len2 hl
    rfl
  | 11, _, hl =>
    obtain ⟨x, y, rfl⟩ := len2 hl
    rfl
  | 12, _, hl =>
    obtain ⟨x, y, rfl⟩ := len2 hl
    rfl
  | 13, _, hl =>
    obtain ⟨x, y, rfl⟩ := len2 hl
    rfl
  | 14, _, hl =>
    obtain ⟨x, rfl⟩ := len1 hl
    rfl
  | 15, _, hl =>
    obtain rfl := List.eq_nil_of_length_eq_zero hl
    rfl
  | 16, _, hl =>
    obtain rfl := List.eq_nil_of_length_eq_zero hl
    rfl
  | 17, _, hl =>
    obtain rfl := List.eq_nil_of_length_eq_zero hl
    rfl
  | 18, _, hl =>
    obtain rfl := List.eq_nil_of_length_eq_zero hl
    rfl
  | 19, _, hl =>
    obtain ⟨x, rfl⟩ := len1 hl
    rfl
  | 20, _, hl =>
    obtain rfl := List.eq_nil_of_length_eq_zero hl
    rfl
  | 21, _, hl =>
    obtain rfl := List.eq_nil_of_length_eq_zero hl
    rfl
  | 22, _, hl =>
    obtain rfl := List.eq_nil_of_length_eq_zero hl
    rfl
  | 23, _, hl =>
    obtain rfl := List.eq_nil_of_length_eq_zero hl
    rfl
  | 24, _, hl =>
    obtain ⟨x, y, rfl⟩ := len2 hl
    rfl
  | 25, _, hl =>
    obtain ⟨x, rfl⟩ := len1 hl
    rfl
  | 26, _, hl =>
    obtain rfl := List.eq_nil_of_length_eq_zero hl
    rfl
  | 27, _, hl =>
    obtain rfl := List.eq_nil_of_length_eq_zero hl
    rfl
  | n + 28, hle, _ => exact absurd hle (by omega)
theorem row_of {l x s : List Int} (h : PyFlat.row l = some (x, s)) : ∃ n : Int, l = n :: (x ++ s) ∧ n = (x.length : Int) := by
  cases l with
  | nil => cases h
  | cons n r =>
    have h2 : (if 0 ≤ n ∧ n.toNat ≤ r.length then some (r.take n.toNat, r.drop n.toNat) else none) = some (x, s) := h
    by_cases c : 0 ≤ n ∧ n.toNat ≤ r.length
    · rw [if_pos c] at h2
      injection h2 with h2
      injection h2 with h3 h4
      subst h3 h4
      refine ⟨n, by rw [List.take_append_drop], ?_⟩
      rw [List.length_take, Nat.min_eq_left c.2]
      exact (Int.toNat_of_nonneg c.1).symm
    · rw [if_neg c] at h2
      cases h2
/-- one call of the list -/
theorem call_of {l : List Int} {c : List (List Int)} {t : List Int} (h : PyFlat.call PyKv426.shape l = some (c, t)) (hb : PyInside.call PyKv426.bound c = true) :
    ∃ ci : CallIn, l = zs ci.flat ++ t ∧ c = callOf ci ∧ ci.Ok := by
  cases l with
  | nil => cases h
  | cons p r =>
    change (match PyKv426.shape p with
      | none => none
      | some (n, k) => if r.length < n then none else match PyFlat.rows k (r.drop n) with
        | none => none
        | some (xs, t) => some ((p :: r.take n) :: xs, t)) = some (c, t) at h
    cases hs : PyKv426.shape p with
    | none =>
      rw [hs] at h
      cases h
    | some nk =>
      obtain ⟨n, k⟩ := nk
      rw [hs] at h
      obtain ⟨num, sh⟩ := shape_of hs
      have h2 : (if r.length < n then none else match PyFlat.rows k (r.drop n) with
        | none => none
        | some (xs, t) => some ((p :: r.take n) :: xs, t)) = some (c, t) := h
      by_cases cl : r.length < n
      · rw [if_pos cl] at h2
        cases h2
      · rw [if_neg cl] at h2
        cases hr : PyFlat.rows k (r.drop n) with
        | none =>
          rw [hr] at h2
          cases h2
        | some z =>
          obtain ⟨xs, t2⟩ := z
          rw [hr] at h2
          injection h2 with h2
          injection h2 with h3 h4
          subst h3 h4
          have hb2 : (PyInside.each (PyKv426.bound p).1 (r.take n) && PyInside.lists (PyKv426.bound p).2 xs) = true := hb
          rw [Bool.and_eq_true, sh.b1, sh.b2, each_all _ n (r.take n) (by rw [List.length_take]; omega)] at hb2
          obtain ⟨hb3, hb4⟩ := hb2
          obtain ⟨nums, e1, hn⟩ := nats_of _ _ hb3
          have hlen : nums.length = n := by
            have := congrArg List.length e1
            rw [List.length_take, zs, List.length_map] at this
            omega
          have hlt : ∀ x ∈ nums, x < 2 ^ 32 := fun x hx => by
            have := hn x hx
            have e : ((x : Int)) ≤ 4294967295 := this
            omega
          have hsplit : r = zs nums ++ r.drop n := by
            rw [← e1, List.take_append_drop]
          have hk := sh.ek
          by_cases wl : withList num = true
          · rw [if_pos wl] at hk
            subst hk
            have hr2 : (match PyFlat.row (r.drop n) with
              | none => none
              | some (x, s) => match PyFlat.rows 0 s with
                | none => none
                | some (xs, t) => some (x :: xs, t)) = some (xs, t2) := hr
            cases hro : PyFlat.row (r.drop n) with
            | none =>
              rw [hro] at hr2
              cases hr2
            | some z =>
              obtain ⟨x, s⟩ := z
              rw [hro] at hr2
              have hr3 : some ([x], s) = some (xs, t2) := hr2
              injection hr3 with hr3
              injection hr3 with h5 h6
              subst h5 h6
              obtain ⟨q, e2, e3⟩ := row_of hro
              have hb5 : (decide (0 ≤ x.length) && decide (x.length ≤ 60) && x.all (PyInside.within 0 65535) && true) = true := hb4
              rw [Bool.and_true, Bool.and_eq_true, Bool.and_eq_true, decide_eq_true_iff, decide_eq_true_iff] at hb5
              obtain ⟨items, e4, hi⟩ := nats_of _ _ hb5.2
              have hil : items.length = x.length := by rw [e4, zs, List.length_map]
              have ec : callOf ⟨num, nums, items⟩ = [p :: r.take n, x] := by
                unfold callOf
                rw [if_pos wl, e1, e4, sh.ep]
              refine ⟨⟨num, nums, items⟩, ?_, ec.symm, ⟨sh.le, ⟨by rw [hlen]; exact sh.en, hlt, by rw [hil]; exact hb5.1.2, fun y hy => ?_⟩, fun z => absurd wl (by rw [z]; decide)⟩⟩
              · have ef : zs (CallIn.flat ⟨num, nums, items⟩) = (num : Int) :: (zs nums ++ ((items.length : Nat) : Int) :: zs items) := by
                  unfold CallIn.flat CallIn.tail
                  dsimp only
                  rw [if_pos wl]
                  show (num : Int) :: zs (nums ++ items.length :: items) = _
                  rw [zs_append]
                  rfl
                rw [ef, hsplit, e2, e3, sh.ep, e4, hil, e4]
                simp
              · have := hi y hy
                have e : ((y : Int)) ≤ 65535 := this
                omega
          · rw [if_neg wl] at hk
            subst hk
            have hr2 : some (([] : List (List Int)), r.drop n) = some (xs, t2) := hr
            injection hr2 with hr2
            injection hr2 with h5 h6
            subst h5 h6
            have ec : callOf ⟨num, nums, []⟩ = [p :: r.take n] := by
              unfold callOf
              rw [if_neg wl, e1, sh.ep]
            refine ⟨⟨num, nums, []⟩, ?_, ec.symm, ⟨sh.le, ⟨by rw [hlen]; exact sh.en, hlt, Nat.zero_le _, fun y hy => by cases hy⟩, fun _ => rfl⟩⟩
            have ef : zs (CallIn.flat ⟨num, nums, []⟩) = (num : Int) :: zs nums := by
              unfold CallIn.flat CallIn.tail
              dsimp only
              rw [if_neg wl, List.append_nil]
              rfl
            rw [ef, sh.ep]
            show (num : Int) :: r = (num : Int) :: (zs nums ++ r.drop n)
            rw [← hsplit]
theorem calls_of : ∀ (f : Nat) (l : List Int) (raw : List (List (List Int))), PyFlat.calls PyKv426.shape f l = some raw → PyInside.calls PyKv426.bound raw = true →
    ∃ cs : List CallIn, l = zs (flats cs) ∧ raw = cs.map callOf ∧ ∀ c ∈ cs, CallIn.Ok c
  | f, [], raw, h, _ => by
    have e : some ([] : List (List (List Int))) = some raw := by
      cases f <;> exact h
    injection e with e
    subst e
    exact ⟨[], rfl, rfl, fun c hc => by cases hc⟩
  | 0, p :: r, raw, h, _ => by cases h
  | f + 1, p :: r, raw, h, hb => by
    have h2 : (match PyFlat.call PyKv426.shape (p :: r) with
      | none => none
      | some (c, t) => match PyFlat.calls PyKv426.shape f t with
        | none => none
        | some cs => some (c :: cs)) = some raw := h
    cases hc : PyFlat.call PyKv426.shape (p :: r) with
    | none =>
      rw [hc] at h2
      cases h2
    | some z =>
      obtain ⟨c, t⟩ := z
      rw [hc] at h2
      have h3 : (match PyFlat.calls PyKv426.shape f t with
        | none => none
        | some cs => some (c :: cs)) = some raw := h2
      cases hr : PyFlat.calls PyKv426.shape f t with
      | none =>
        rw [hr] at h3
        cases h3
      | some raw2 =>
        rw [hr] at h3
        injection h3 with h3
        subst h3
        have hb2 : (PyInside.call PyKv426.bound c && PyInside.calls PyKv426.bound raw2) = true := hb
        rw [Bool.and_eq_true] at hb2
        obtain ⟨ci, e1, e2, ok⟩ := call_of hc hb2.1
        obtain ⟨cs, e3, e4, oks⟩ := calls_of f t raw2 hr hb2.2
        refine ⟨ci :: cs, ?_, by rw [e2, e4]; rfl, fun d hd => ?_⟩
        · rw [e1, e3, flats_cons, zs_append]
        · rcases List.mem_cons.mp hd with z | z
          · rw [z]
            exact ok
          · exact oks d z
theorem plain_law (l : List Int) (h : PyKv426.answers_asked l = true) : ∃ cs : List CallIn, l = zs (flats cs) ∧ (∀ c ∈ cs, CallIn.Ok c) ∧ Fine cs ∧ (toldAll none cs).length ≤ 10000000 ∧ toldAll none cs = PyKv426.answers l := by
  unfold PyKv426.answers_asked at h
  cases hr : PyFlat.calls PyKv426.shape l.length l with
  | none =>
    rw [hr] at h
    cases h
  | some raw =>
    rw [hr] at h
    have h2 : (!raw.isEmpty && PyFlat.atMost 256 raw && PyInside.calls PyKv426.bound raw && Kv426Neutral.asked (raw.map PyKv426.whole) && PyFlat.short 10000000 (PyKv426.answers l)) = true := h
    rw [Bool.and_eq_true, Bool.and_eq_true, Bool.and_eq_true] at h2
    obtain ⟨cs, e1, e2, ok⟩ := calls_of _ _ _ hr h2.1.1.2
    have ew : raw.map PyKv426.whole = cs.map callOf := by
      rw [e2, List.map_map]
      refine List.map_congr_left fun c hc => ?_
      exact whole_of c.num c.nums c.items (ok c hc).le (ok c hc).asked.len
    have ea : toldAll none cs = PyKv426.answers l := by
      unfold PyKv426.answers PyKv426.calls
      rw [hr]
      show _ = PyFlat.told (PyFlat.played Kv426Neutral.step none (raw.map PyKv426.whole))
      rw [ew]
      exact told_played cs none (fun m hm => by cases hm) ok
    refine ⟨cs, e1, ok, fine_all cs, ?_, ea⟩
    rw [ea]
    have h3 := h2.2
    unfold PyFlat.short at h3
    exact of_decide_eq_true h3
end
end Mw
end
theorem PySem.Challenge.cw_matrixwalks_s01_answers_holds : PySem.Challenge.rw_matrixwalks_s01_answers.Holds :=
  MwH.holds_of (Mw.walk_law Mw.plain_law)
#print axioms PySem.Challenge.cw_matrixwalks_s01_answers_holds

import PyProof.Rows.All
import Wide.All
import OpenK.AllK
import Wide.FinOn
import KE.KStateDown
import KE.KExcInit
import KE.KDictZip
import Lean
import Open.SpecLaws
import KE.OsGo
import HandS.ForSpec
import HandS.Dict
import HandS.Iter
import HandS.Comp
import HandS.Text
import HandS.WordsDict
import HandS.Deep
import HandS.Style
import HandS.TupAny
import HandS.SetKeys
import HandS.SetFor
import HandS.SortInts
import HandS.Zip
import HandS.ExcInit
import HandS.ExcSuper
import HandS.More
import HandS.Defaults
import HandS.ExcField
import HandS.Head0
import HandS.Head1
import HandS.Head2
import HandS.Head3
import HandS.Head4
import HandS.HeadHook1
import HandS.HeadHook2
import HandS.HeadHook3
import HandS.HeadHook4
import PyVapcmb
import KE.KDictItemsList
import HandS.Conv
import PyProof.AutoSeq1
import PySem.Challenge.RW_shortproofs_s01_answers
set_option Elab.async false
set_option linter.all false
section
set_option Elab.async false
set_option linter.all false
set_option maxRecDepth 100000
set_option maxHeartbeats 0
namespace SPW
open PySem PySem.Spec PyProof.Rows L2
/-- the i-th statement of the program -/
def top (i : Nat) : Stmt := PySem.Challenge.pw_shortproofs_s01_answers.main.body.getD i (.Pass ⟨0, 0, 0, 0⟩)
abbrev s_sign_places : Stmt := top 5
abbrev s_unknown_places : Stmt := top 6
abbrev s_unknowns : Stmt := top 7
abbrev s_count_signs : Stmt := top 8
abbrev s_part_end : Stmt := top 9
abbrev s_parts : Stmt := top 10
abbrev s_numbered : Stmt := top 11
abbrev s_shifted : Stmt := top 12
abbrev s_is_instance : Stmt := top 13
abbrev s_first_general : Stmt := top 14
abbrev s_codes : Stmt := top 16
abbrev s_guarded : Stmt := top 17
abbrev s_written : Stmt := top 18
abbrev s_axiom_line : Stmt := top 19
abbrev s_row_line : Stmt := top 20
abbrev s_goal_line : Stmt := top 21
abbrev s_one_form : Stmt := top 22
abbrev s_Puts_init : Stmt := inClass (top 27) 0
abbrev s_Puts_walked : Stmt := inClass (top 27) 1
abbrev s_Puts_stands_in : Stmt := inClass (top 27) 2
abbrev s_Puts_bind : Stmt := inClass (top 27) 3
abbrev s_Puts_match : Stmt := inClass (top 27) 4
abbrev s_Puts_make_same : Stmt := inClass (top 27) 5
abbrev s_Puts_is_longer : Stmt := inClass (top 27) 6
abbrev s_Puts_put_in : Stmt := inClass (top 27) 7
abbrev s_detached : Stmt := top 28
abbrev s_ProofText_init : Stmt := inClass (top 30) 0
abbrev s_are_items : Stmt := top 31
abbrev s_pair_of : Stmt := top 32
abbrev s_needed : Stmt := top 33
abbrev s_targets : Stmt := top 34
abbrev s_total_steps : Stmt := top 35
abbrev s_is_ready : Stmt := top 39
abbrev s_is_used : Stmt := top 40
abbrev s_places : Stmt := top 41
abbrev s_order_answer : Stmt := top 42
abbrev s_done_rows : Stmt := top 43
abbrev s_free : Stmt := top 44
abbrev s_least_peaks : Stmt := top 45
abbrev s_next_place : Stmt := top 46
abbrev s_first_order : Stmt := top 47
abbrev s_least_answer : Stmt := top 48
abbrev s_Fault_init : Stmt := inClass (top 75) 0
abbrev s_is_letter : Stmt := top 76
abbrev s_is_digit : Stmt := top 77
abbrev s_remark_end : Stmt := top 78
abbrev s_name_end : Stmt := top 79
abbrev s_number_end : Stmt := top 80
abbrev s_value_of : Stmt := top 81
abbrev s_name_token : Stmt := top 82
abbrev s_number_token : Stmt := top 83
abbrev s_token_at : Stmt := top 84
abbrev s_scan : Stmt := top 85
abbrev s_Reader_init : Stmt := inClass (top 92) 0
abbrev s_Reader_here : Stmt := inClass (top 92) 1
abbrev s_Reader_is_next : Stmt := inClass (top 92) 2
abbrev s_Reader_is_end : Stmt := inClass (top 92) 3
abbrev s_Reader_take_word : Stmt := inClass (top 92) 4
abbrev s_Reader_take_sign : Stmt := inClass (top 92) 5
abbrev s_Reader_name_here : Stmt := inClass (top 92) 6
abbrev s_Reader_new_name : Stmt := inClass (top 92) 7
abbrev s_Reader_old_item : Stmt := inClass (top 92) 8
abbrev s_Reader_unknown : Stmt := inClass (top 92) 9
abbrev s_Reader_go_within : Stmt := inClass (top 92) 10
abbrev s_Reader_part : Stmt := inClass (top 92) 11
abbrev s_Reader_chain : Stmt := inClass (top 92) 12
abbrev s_Reader_formula : Stmt := inClass (top 92) 13
abbrev s_Reader_axiom : Stmt := inClass (top 92) 14
abbrev s_Reader_row : Stmt := inClass (top 92) 15
abbrev s_Reader_goal : Stmt := inClass (top 92) 16
abbrev s_read_text : Stmt := top 93
abbrev s_detached_of : Stmt := top 96
abbrev s_merged : Stmt := top 97
abbrev s_kept : Stmt := top 98
abbrev s_shortened : Stmt := top 99
abbrev s_counted : Stmt := top 111
abbrev s_load : Stmt := top 112
abbrev s_prune : Stmt := top 113
abbrev s_general : Stmt := top 114
abbrev s_shorten : Stmt := top 115
abbrev s_order : Stmt := top 116
abbrev s_least : Stmt := top 117
abbrev s_totals : Stmt := top 118
abbrev s_answer : Stmt := top 119
abbrev s_read_call : Stmt := top 120
abbrev s_answers : Stmt := top 121
def d_sign_places : He.DefD := ⟨("sign_places", none), "sign_places", "sign_places", defArgs s_sign_places, defBody s_sign_places, defScope s_sign_places, [], []⟩
def d_unknown_places : He.DefD := ⟨("unknown_places", none), "unknown_places", "unknown_places", defArgs s_unknown_places, defBody s_unknown_places, defScope s_unknown_places, [], []⟩
def d_unknowns : He.DefD := ⟨("unknowns", none), "unknowns", "unknowns", defArgs s_unknowns, defBody s_unknowns, defScope s_unknowns, [], []⟩
def d_count_signs : He.DefD := ⟨("count_signs", none), "count_signs", "count_signs", defArgs s_count_signs, defBody s_count_signs, defScope s_count_signs, [], []⟩
def d_part_end : He.DefD := ⟨("part_end", none), "part_end", "part_end", defArgs s_part_end, defBody s_part_end, defScope s_part_end, [], []⟩
def d_parts : He.DefD := ⟨("parts", none), "parts", "parts", defArgs s_parts, defBody s_parts, defScope s_parts, [], []⟩
def d_numbered : He.DefD := ⟨("numbered", none), "numbered", "numbered", defArgs s_numbered, defBody s_numbered, defScope s_numbered, [], []⟩
def d_shifted : He.DefD := ⟨("shifted", none), "shifted", "shifted", defArgs s_shifted, defBody s_shifted, defScope s_shifted, [], []⟩
def d_is_instance : He.DefD := ⟨("is_instance", none), "is_instance", "is_instance", defArgs s_is_instance, defBody s_is_instance, defScope s_is_instance, [], []⟩
def d_first_general : He.DefD := ⟨("first_general", none), "first_general", "first_general", defArgs s_first_general, defBody s_first_general, defScope s_first_general, [], []⟩
def d_codes : He.DefD := ⟨("codes", none), "codes", "codes", defArgs s_codes, defBody s_codes, defScope s_codes, [], []⟩
def d_guarded : He.DefD := ⟨("guarded", none), "guarded", "guarded", defArgs s_guarded, defBody s_guarded, defScope s_guarded, [], []⟩
def d_written : He.DefD := ⟨("written", none), "written", "written", defArgs s_written, defBody s_written, defScope s_written, [], []⟩
def d_axiom_line : He.DefD := ⟨("axiom_line", none), "axiom_line", "axiom_line", defArgs s_axiom_line, defBody s_axiom_line, defScope s_axiom_line, [], []⟩
def d_row_line : He.DefD := ⟨("row_line", none), "row_line", "row_line", defArgs s_row_line, defBody s_row_line, defScope s_row_line, [], []⟩
def d_goal_line : He.DefD := ⟨("goal_line", none), "goal_line", "goal_line", defArgs s_goal_line, defBody s_goal_line, defScope s_goal_line, [], []⟩
def d_one_form : He.DefD := ⟨("one_form", none), "one_form", "one_form", defArgs s_one_form, defBody s_one_form, defScope s_one_form, [], []⟩
def d_Puts_init : He.DefD := ⟨("Puts", some "__init__"), "__init__", "Puts.__init__", defArgs s_Puts_init, defBody s_Puts_init, defScope s_Puts_init, [], []⟩
def d_Puts_walked : He.DefD := ⟨("Puts", some "walked"), "walked", "Puts.walked", defArgs s_Puts_walked, defBody s_Puts_walked, defScope s_Puts_walked, [], []⟩
def d_Puts_stands_in : He.DefD := ⟨("Puts", some "stands_in"), "stands_in", "Puts.stands_in", defArgs s_Puts_stands_in, defBody s_Puts_stands_in, defScope s_Puts_stands_in, [], []⟩
def d_Puts_bind : He.DefD := ⟨("Puts", some "bind"), "bind", "Puts.bind", defArgs s_Puts_bind, defBody s_Puts_bind, defScope s_Puts_bind, [], []⟩
def d_Puts_match : He.DefD := ⟨("Puts", some "match"), "match", "Puts.match", defArgs s_Puts_match, defBody s_Puts_match, defScope s_Puts_match, [], []⟩
def d_Puts_make_same : He.DefD := ⟨("Puts", some "make_same"), "make_same", "Puts.make_same", defArgs s_Puts_make_same, defBody s_Puts_make_same, defScope s_Puts_make_same, [], []⟩
def d_Puts_is_longer : He.DefD := ⟨("Puts", some "is_longer"), "is_longer", "Puts.is_longer", defArgs s_Puts_is_longer, defBody s_Puts_is_longer, defScope s_Puts_is_longer, [], []⟩
def d_Puts_put_in : He.DefD := ⟨("Puts", some "put_in"), "put_in", "Puts.put_in", defArgs s_Puts_put_in, defBody s_Puts_put_in, defScope s_Puts_put_in, [], []⟩
def d_detached : He.DefD := ⟨("detached", none), "detached", "detached", defArgs s_detached, defBody s_detached, defScope s_detached, [], []⟩
def d_ProofText_init : He.DefD := ⟨("ProofText", some "__init__"), "__init__", "ProofText.__init__", defArgs s_ProofText_init, defBody s_ProofText_init, defScope s_ProofText_init, [], []⟩
def d_are_items : He.DefD := ⟨("are_items", none), "are_items", "are_items", defArgs s_are_items, defBody s_are_items, defScope s_are_items, [], []⟩
def d_pair_of : He.DefD := ⟨("pair_of", none), "pair_of", "pair_of", defArgs s_pair_of, defBody s_pair_of, defScope s_pair_of, [], []⟩
def d_needed : He.DefD := ⟨("needed", none), "needed", "needed", defArgs s_needed, defBody s_needed, defScope s_needed, [], []⟩
def d_targets : He.DefD := ⟨("targets", none), "targets", "targets", defArgs s_targets, defBody s_targets, defScope s_targets, [], []⟩
def d_total_steps : He.DefD := ⟨("total_steps", none), "total_steps", "total_steps", defArgs s_total_steps, defBody s_total_steps, defScope s_total_steps, [], []⟩
def d_is_ready : He.DefD := ⟨("is_ready", none), "is_ready", "is_ready", defArgs s_is_ready, defBody s_is_ready, defScope s_is_ready, [], []⟩
def d_is_used : He.DefD := ⟨("is_used", none), "is_used", "is_used", defArgs s_is_used, defBody s_is_used, defScope s_is_used, [], []⟩
def d_places : He.DefD := ⟨("places", none), "places", "places", defArgs s_places, defBody s_places, defScope s_places, [], []⟩
def d_order_answer : He.DefD := ⟨("order_answer", none), "order_answer", "order_answer", defArgs s_order_answer, defBody s_order_answer, defScope s_order_answer, [], []⟩
def d_done_rows : He.DefD := ⟨("done_rows", none), "done_rows", "done_rows", defArgs s_done_rows, defBody s_done_rows, defScope s_done_rows, [], []⟩
def d_free : He.DefD := ⟨("free", none), "free", "free", defArgs s_free, defBody s_free, defScope s_free, [], []⟩
def d_least_peaks : He.DefD := ⟨("least_peaks", none), "least_peaks", "least_peaks", defArgs s_least_peaks, defBody s_least_peaks, defScope s_least_peaks, [], []⟩
def d_next_place : He.DefD := ⟨("next_place", none), "next_place", "next_place", defArgs s_next_place, defBody s_next_place, defScope s_next_place, [], []⟩
def d_first_order : He.DefD := ⟨("first_order", none), "first_order", "first_order", defArgs s_first_order, defBody s_first_order, defScope s_first_order, [], []⟩
def d_least_answer : He.DefD := ⟨("least_answer", none), "least_answer", "least_answer", defArgs s_least_answer, defBody s_least_answer, defScope s_least_answer, [], []⟩
def d_Fault_init : He.DefD := ⟨("Fault", some "__init__"), "__init__", "Fault.__init__", defArgs s_Fault_init, defBody s_Fault_init, defScope s_Fault_init, [], []⟩
def d_is_letter : He.DefD := ⟨("is_letter", none), "is_letter", "is_letter", defArgs s_is_letter, defBody s_is_letter, defScope s_is_letter, [], []⟩
def d_is_digit : He.DefD := ⟨("is_digit", none), "is_digit", "is_digit", defArgs s_is_digit, defBody s_is_digit, defScope s_is_digit, [], []⟩
def d_remark_end : He.DefD := ⟨("remark_end", none), "remark_end", "remark_end", defArgs s_remark_end, defBody s_remark_end, defScope s_remark_end, [], []⟩
def d_name_end : He.DefD := ⟨("name_end", none), "name_end", "name_end", defArgs s_name_end, defBody s_name_end, defScope s_name_end, [], []⟩
def d_number_end : He.DefD := ⟨("number_end", none), "number_end", "number_end", defArgs s_number_end, defBody s_number_end, defScope s_number_end, [], []⟩
def d_value_of : He.DefD := ⟨("value_of", none), "value_of", "value_of", defArgs s_value_of, defBody s_value_of, defScope s_value_of, [], []⟩
def d_name_token : He.DefD := ⟨("name_token", none), "name_token", "name_token", defArgs s_name_token, defBody s_name_token, defScope s_name_token, [], []⟩
def d_number_token : He.DefD := ⟨("number_token", none), "number_token", "number_token", defArgs s_number_token, defBody s_number_token, defScope s_number_token, [], []⟩
def d_token_at : He.DefD := ⟨("token_at", none), "token_at", "token_at", defArgs s_token_at, defBody s_token_at, defScope s_token_at, [], []⟩
def d_scan : He.DefD := ⟨("scan", none), "scan", "scan", defArgs s_scan, defBody s_scan, defScope s_scan, [], []⟩
def d_Reader_init : He.DefD := ⟨("Reader", some "__init__"), "__init__", "Reader.__init__", defArgs s_Reader_init, defBody s_Reader_init, defScope s_Reader_init, [], []⟩
def d_Reader_here : He.DefD := ⟨("Reader", some "here"), "here", "Reader.here", defArgs s_Reader_here, defBody s_Reader_here, defScope s_Reader_here, [], []⟩
def d_Reader_is_next : He.DefD := ⟨("Reader", some "is_next"), "is_next", "Reader.is_next", defArgs s_Reader_is_next, defBody s_Reader_is_next, defScope s_Reader_is_next, [], []⟩
def d_Reader_is_end : He.DefD := ⟨("Reader", some "is_end"), "is_end", "Reader.is_end", defArgs s_Reader_is_end, defBody s_Reader_is_end, defScope s_Reader_is_end, [], []⟩
def d_Reader_take_word : He.DefD := ⟨("Reader", some "take_word"), "take_word", "Reader.take_word", defArgs s_Reader_take_word, defBody s_Reader_take_word, defScope s_Reader_take_word, [], []⟩
def d_Reader_take_sign : He.DefD := ⟨("Reader", some "take_sign"), "take_sign", "Reader.take_sign", defArgs s_Reader_take_sign, defBody s_Reader_take_sign, defScope s_Reader_take_sign, [], []⟩
def d_Reader_name_here : He.DefD := ⟨("Reader", some "name_here"), "name_here", "Reader.name_here", defArgs s_Reader_name_here, defBody s_Reader_name_here, defScope s_Reader_name_here, [], []⟩
def d_Reader_new_name : He.DefD := ⟨("Reader", some "new_name"), "new_name", "Reader.new_name", defArgs s_Reader_new_name, defBody s_Reader_new_name, defScope s_Reader_new_name, [], []⟩
def d_Reader_old_item : He.DefD := ⟨("Reader", some "old_item"), "old_item", "Reader.old_item", defArgs s_Reader_old_item, defBody s_Reader_old_item, defScope s_Reader_old_item, [], []⟩
def d_Reader_unknown : He.DefD := ⟨("Reader", some "unknown"), "unknown", "Reader.unknown", defArgs s_Reader_unknown, defBody s_Reader_unknown, defScope s_Reader_unknown, [], []⟩
def d_Reader_go_within : He.DefD := ⟨("Reader", some "go_within"), "go_within", "Reader.go_within", defArgs s_Reader_go_within, defBody s_Reader_go_within, defScope s_Reader_go_within, [], []⟩
def d_Reader_part : He.DefD := ⟨("Reader", some "part"), "part", "Reader.part", defArgs s_Reader_part, defBody s_Reader_part, defScope s_Reader_part, [], []⟩
def d_Reader_chain : He.DefD := ⟨("Reader", some "chain"), "chain", "Reader.chain", defArgs s_Reader_chain, defBody s_Reader_chain, defScope s_Reader_chain, [], []⟩
def d_Reader_formula : He.DefD := ⟨("Reader", some "formula"), "formula", "Reader.formula", defArgs s_Reader_formula, defBody s_Reader_formula, defScope s_Reader_formula, [], []⟩
def d_Reader_axiom : He.DefD := ⟨("Reader", some "axiom"), "axiom", "Reader.axiom", defArgs s_Reader_axiom, defBody s_Reader_axiom, defScope s_Reader_axiom, [], []⟩
def d_Reader_row : He.DefD := ⟨("Reader", some "row"), "row", "Reader.row", defArgs s_Reader_row, defBody s_Reader_row, defScope s_Reader_row, [], []⟩
def d_Reader_goal : He.DefD := ⟨("Reader", some "goal"), "goal", "Reader.goal", defArgs s_Reader_goal, defBody s_Reader_goal, defScope s_Reader_goal, [], []⟩
def d_read_text : He.DefD := ⟨("read_text", none), "read_text", "read_text", defArgs s_read_text, defBody s_read_text, defScope s_read_text, [], []⟩
def d_detached_of : He.DefD := ⟨("detached_of", none), "detached_of", "detached_of", defArgs s_detached_of, defBody s_detached_of, defScope s_detached_of, [], []⟩
def d_merged : He.DefD := ⟨("merged", none), "merged", "merged", defArgs s_merged, defBody s_merged, defScope s_merged, [], []⟩
def d_kept : He.DefD := ⟨("kept", none), "kept", "kept", defArgs s_kept, defBody s_kept, defScope s_kept, [], []⟩
def d_shortened : He.DefD := ⟨("shortened", none), "shortened", "shortened", defArgs s_shortened, defBody s_shortened, defScope s_shortened, [], []⟩
def d_counted : He.DefD := ⟨("counted", none), "counted", "counted", defArgs s_counted, defBody s_counted, defScope s_counted, [], []⟩
def d_load : He.DefD := ⟨("load", none), "load", "load", defArgs s_load, defBody s_load, defScope s_load, [], []⟩
def d_prune : He.DefD := ⟨("prune", none), "prune", "prune", defArgs s_prune, defBody s_prune, defScope s_prune, [], []⟩
def d_general : He.DefD := ⟨("general", none), "general", "general", defArgs s_general, defBody s_general, defScope s_general, [], []⟩
def d_shorten : He.DefD := ⟨("shorten", none), "shorten", "shorten", defArgs s_shorten, defBody s_shorten, defScope s_shorten, [], []⟩
def d_order : He.DefD := ⟨("order", none), "order", "order", defArgs s_order, defBody s_order, defScope s_order, [], []⟩
def d_least : He.DefD := ⟨("least", none), "least", "least", defArgs s_least, defBody s_least, defScope s_least, [], []⟩
def d_totals : He.DefD := ⟨("totals", none), "totals", "totals", defArgs s_totals, defBody s_totals, defScope s_totals, [], []⟩
def d_answer : He.DefD := ⟨("answer", none), "answer", "answer", defArgs s_answer, defBody s_answer, defScope s_answer, [], []⟩
def d_read_call : He.DefD := ⟨("read_call", none), "read_call", "read_call", defArgs s_read_call, defBody s_read_call, defScope s_read_call, [], []⟩
def d_answers : He.DefD := ⟨("answers", none), "answers", "answers", defArgs s_answers, defBody s_answers, defScope s_answers, [], []⟩
def fn_0 : List He.DefD := [d_sign_places, d_unknown_places, d_unknowns, d_count_signs, d_part_end, d_parts, d_numbered, d_shifted, d_is_instance, d_first_general, d_codes, d_guarded]
def fn_1 : List He.DefD := [d_written, d_axiom_line, d_row_line, d_goal_line, d_one_form, d_Puts_init, d_Puts_walked, d_Puts_stands_in, d_Puts_bind, d_Puts_match, d_Puts_make_same, d_Puts_is_longer]
def fn_2 : List He.DefD := [d_Puts_put_in, d_detached, d_ProofText_init, d_are_items, d_pair_of, d_needed, d_targets, d_total_steps, d_is_ready, d_is_used, d_places, d_order_answer]
def fn_3 : List He.DefD := [d_done_rows, d_free, d_least_peaks, d_next_place, d_first_order, d_least_answer, d_Fault_init, d_is_letter, d_is_digit, d_remark_end, d_name_end, d_number_end]
def fn_4 : List He.DefD := [d_value_of, d_name_token, d_number_token, d_token_at, d_scan, d_Reader_init, d_Reader_here, d_Reader_is_next, d_Reader_is_end, d_Reader_take_word, d_Reader_take_sign, d_Reader_name_here]
def fn_5 : List He.DefD := [d_Reader_new_name, d_Reader_old_item, d_Reader_unknown, d_Reader_go_within, d_Reader_part, d_Reader_chain, d_Reader_formula, d_Reader_axiom, d_Reader_row, d_Reader_goal, d_read_text, d_detached_of]
def fn_6 : List He.DefD := [d_merged, d_kept, d_shortened, d_counted, d_load, d_prune, d_general, d_shorten, d_order, d_least, d_totals, d_answer]
def fn_7 : List He.DefD := [d_read_call, d_answers]
def fn : List He.DefD := fn_0 ++ (fn_1 ++ (fn_2 ++ (fn_3 ++ (fn_4 ++ (fn_5 ++ (fn_6 ++ (fn_7)))))))
def fa_0 : List He.Fa := [.glo "sign_places", .glo "unknown_places", .glo "unknowns", .glo "count_signs", .glo "part_end", .glo "parts", .glo "numbered", .glo "shifted", .glo "is_instance", .glo "first_general", .glo "codes", .glo "guarded"]
def fa_1 : List He.Fa := [.glo "written", .glo "axiom_line", .glo "row_line", .glo "goal_line", .glo "one_form", .glo "detached", .glo "are_items", .glo "pair_of", .glo "needed", .glo "targets", .glo "total_steps", .glo "is_ready"]
def fa_2 : List He.Fa := [.glo "is_used", .glo "places", .glo "order_answer", .glo "done_rows", .glo "free", .glo "least_peaks", .glo "next_place", .glo "first_order", .glo "least_answer", .glo "is_letter", .glo "is_digit", .glo "remark_end"]
def fa_3 : List He.Fa := [.glo "name_end", .glo "number_end", .glo "value_of", .glo "name_token", .glo "number_token", .glo "token_at", .glo "scan", .glo "read_text", .glo "detached_of", .glo "merged", .glo "kept", .glo "shortened"]
def fa_4 : List He.Fa := [.glo "counted", .glo "load", .glo "prune", .glo "general", .glo "shorten", .glo "order", .glo "least", .glo "totals", .glo "answer", .glo "read_call", .glo "answers", .int "UNKNOWN" (0)]
def fa_5 : List He.Fa := [.int "IMPLIES" (1), .int "DENIED" (2), .glo "NO_FORMULA", .int "MOST_FIRST" (1000), .int "MOST_DETACHED" (60), .int "APART" (1000), .int "MOST_ROWS_places" (8), .int "NO_WAY" (99), .int "MOST_BYTES" (4096), .int "MOST_IN_NAME" (16), .int "MOST_DIGITS" (10), .int "MOST_NUMBER" (1000000000)]
def fa_6 : List He.Fa := [.int "NAME" (0), .int "WORD" (1), .int "NUMBER" (2), .int "SIGN" (3), .int "END" (4), .glo "AXIOM", .glo "ROW", .glo "GOAL", .glo "WORDS", .glo "OPENING", .glo "CLOSING", .glo "COMMA"]
def fa_7 : List He.Fa := [.glo "COLON", .glo "SEMICOLON", .glo "GREATER", .glo "TILDE", .glo "SIGNS", .glo "BLANKS", .int "REMARK" (35), .int "LINE_END" (10), .int "ZERO" (48), .int "MOST_AXIOMS" (6), .int "MOST_ROWS_reader" (24), .int "MOST_GOALS" (4)]
def fa_8 : List He.Fa := [.int "MOST_SIGNS" (40), .int "MOST_WITHIN" (40), .int "NOTHING" (-1), .int "LOAD" (0), .int "SHOWN" (1), .int "PRUNE" (2), .int "GENERAL" (3), .int "SHORTEN" (4), .int "SHORT" (5), .int "ORDER" (6), .int "LEAST" (7), .glo "NUMBERS"]
def fa_9 : List He.Fa := [.glo "LISTS", .glo "Puts", .cls "Puts", .mkr "Puts", .noat "Puts" "bound", .glo "ProofText", .cls "ProofText", .mkr "ProofText", .noat "ProofText" "names", .noat "ProofText" "axioms", .noat "ProofText" "pairs", .noat "ProofText" "goals"]
def fa_10 : List He.Fa := [.noat "ProofText" "formulas", .noat "ProofText" "steps", .glo "Reader", .cls "Reader", .mkr "Reader", .noat "Reader" "tokens", .noat "Reader" "at", .noat "Reader" "names", .noat "Reader" "unknowns", .meth "Puts" "__init__", .meth "Puts" "walked", .meth "Puts" "stands_in"]
def fa_11 : List He.Fa := [.meth "Puts" "bind", .meth "Puts" "match", .meth "Puts" "make_same", .meth "Puts" "is_longer", .meth "Puts" "put_in", .meth "ProofText" "__init__", .meth "Reader" "__init__", .meth "Reader" "here", .meth "Reader" "is_next", .meth "Reader" "is_end", .meth "Reader" "take_word", .meth "Reader" "take_sign"]
def fa_12 : List He.Fa := [.meth "Reader" "name_here", .meth "Reader" "new_name", .meth "Reader" "old_item", .meth "Reader" "unknown", .meth "Reader" "go_within", .meth "Reader" "part", .meth "Reader" "chain", .meth "Reader" "formula", .meth "Reader" "axiom", .meth "Reader" "row", .meth "Reader" "goal", .glo "Fault"]
def fa_13 : List He.Fa := [.free "len", .free "list", .free "tuple", .free "range", .free "enumerate", .free "sorted", .free "max", .free "min", .free "sum", .free "any", .free "all", .free "zip"]
def fa_14 : List He.Fa := [.free "ord", .free "str", .free "Exception"]
def fa : List He.Fa := fa_0 ++ (fa_1 ++ (fa_2 ++ (fa_3 ++ (fa_4 ++ (fa_5 ++ (fa_6 ++ (fa_7 ++ (fa_8 ++ (fa_9 ++ (fa_10 ++ (fa_11 ++ (fa_12 ++ (fa_13 ++ (fa_14))))))))))))))
def tups : List (Str × List He.Dv) := [("NO_FORMULA", []), ("AXIOM", [He.Dv.int 97, He.Dv.int 120, He.Dv.int 105, He.Dv.int 111, He.Dv.int 109]), ("ROW", [He.Dv.int 114, He.Dv.int 111, He.Dv.int 119]), ("GOAL", [He.Dv.int 103, He.Dv.int 111, He.Dv.int 97, He.Dv.int 108]), ("WORDS", [He.Dv.glo "AXIOM", He.Dv.glo "ROW", He.Dv.glo "GOAL"]), ("OPENING", [He.Dv.int 40]), ("CLOSING", [He.Dv.int 41]), ("COMMA", [He.Dv.int 44]), ("COLON", [He.Dv.int 58]), ("SEMICOLON", [He.Dv.int 59]), ("GREATER", [He.Dv.int 62]), ("TILDE", [He.Dv.int 126]), ("SIGNS", [He.Dv.int 40, He.Dv.int 41, He.Dv.int 44, He.Dv.int 58, He.Dv.int 59, He.Dv.int 62, He.Dv.int 126]), ("BLANKS", [He.Dv.int 32, He.Dv.int 9, He.Dv.int 10]), ("NUMBERS", [He.Dv.int 0, He.Dv.int 0, He.Dv.int 0, He.Dv.int 1, He.Dv.int 0, He.Dv.int 0, He.Dv.int 0, He.Dv.int 0, He.Dv.int 0]), ("LISTS", [He.Dv.int 1, He.Dv.int 0, He.Dv.int 1, He.Dv.int 0, He.Dv.int 0, He.Dv.int 0, He.Dv.int 2, He.Dv.int 1, He.Dv.int 0])]
def exTail : List Value := [.type "Exception", .type "BaseException", .type "object"]
/-- the error's class -/
def faultB (K : PySem.W.Frag) : Bool :=
  PySem.W.excInitIn K (He.ga K "Fault") exTail "Exception.__new__" && (PySem.W.excOver K (He.ga K "Fault") exTail && (xfB K (He.ga K "Fault")
    && (He.eqO (PySem.W.findIn K (.ref (He.ga K "Fault")) "__setattr__") (some (some (.builtin "object.__setattr__")))
    && (decide (PySem.W.typeIn K (.ref (He.ga K "Fault")) = some (.type "type"))
    && (PySem.W.keepIn K (.ref (He.ga K "Fault"))
    && (decide (PySem.W.exmOne K (.ref (He.ga K "Fault")) (.ref (He.ga K "Fault")) = some true)
    && (He.eqO (PySem.W.findIn K (.ref (He.ga K "Fault")) "code") (some none)
    && (He.eqO (PySem.W.findIn K (.ref (He.ga K "Fault")) "place") (some none)
    && (He.eqO (PySem.W.findIn K (.ref (He.ga K "Fault")) "__init__") (some (some (.ref (He.ma K (He.ga K "Fault") "__init__"))))
    && (PySem.W.isFn K (.ref (He.ma K (He.ga K "Fault") "__init__"))
    && decide (PySem.W.typeIn K (.ref (He.ma K (He.ga K "Fault") "__init__")) = some (.type "function"))))))))))))
def ex (K : PySem.W.Frag) : Bool := faultB K && tups.all fun t => He.tupB K t.1 t.2
structure SaysY (K : PySem.W.Frag) : Prop where
  d : He.SaysD fa fn K
  more : ex K = true
/-- what the program's top has written -/
structure Tx (K : PySem.W.Frag) (mg : Str → Option Value) : Prop where
  c : SaysY K
  g : ∃ h, K.In h ∧ h.Ns mainGlobals mg
section
variable {K : PySem.W.Frag} {mg : Str → Option Value}
theorem Tx.glo (T : Tx K mg) (i : Nat) {x : Str} (h : fa[i]? = some (He.Fa.glo x)) : mg x = some (.ref (He.ga K x)) := by
  obtain ⟨h0, X, G⟩ := T.g
  exact He.glo_ok X G (T.c.d.fact i h)
theorem Tx.free (T : Tx K mg) (i : Nat) {x : Str} (h : fa[i]? = some (He.Fa.free x)) : mg x = none := by
  obtain ⟨h0, X, G⟩ := T.g
  exact He.free_ok X G (T.c.d.fact i h)
theorem Tx.int (T : Tx K mg) (i : Nat) {x : Str} {n : Int} (h : fa[i]? = some (He.Fa.int x n)) : ∃ t, mg x = some (.int n t) := by
  obtain ⟨h0, X, G⟩ := T.g
  exact He.int_ok X G (T.c.d.fact i h)
theorem Tx.tup (T : Tx K mg) (i : Nat) {x : Str} {vs : List He.Dv} (h : tups[i]? = some (x, vs)) (H : Hp) : SqT K H (He.ga K x) (vs.map (He.Dv.v K)) := by
  have h1 := (Bool.and_eq_true_iff.mp T.c.more).2
  exact He.tupB_ok (List.all_eq_true.mp h1 _ (List.mem_of_getElem? h)) H
theorem t_sign_places (T : Tx K mg) : mg "sign_places" = some (.ref (He.ga K "sign_places")) := T.glo 0 rfl
theorem t_unknown_places (T : Tx K mg) : mg "unknown_places" = some (.ref (He.ga K "unknown_places")) := T.glo 1 rfl
theorem t_unknowns (T : Tx K mg) : mg "unknowns" = some (.ref (He.ga K "unknowns")) := T.glo 2 rfl
theorem t_count_signs (T : Tx K mg) : mg "count_signs" = some (.ref (He.ga K "count_signs")) := T.glo 3 rfl
theorem t_part_end (T : Tx K mg) : mg "part_end" = some (.ref (He.ga K "part_end")) := T.glo 4 rfl
theorem t_parts (T : Tx K mg) : mg "parts" = some (.ref (He.ga K "parts")) := T.glo 5 rfl
theorem t_numbered (T : Tx K mg) : mg "numbered" = some (.ref (He.ga K "numbered")) := T.glo 6 rfl
theorem t_shifted (T : Tx K mg) : mg "shifted" = some (.ref (He.ga K "shifted")) := T.glo 7 rfl
theorem t_is_instance (T : Tx K mg) : mg "is_instance" = some (.ref (He.ga K "is_instance")) := T.glo 8 rfl
theorem t_first_general (T : Tx K mg) : mg "first_general" = some (.ref (He.ga K "first_general")) := T.glo 9 rfl
theorem t_codes (T : Tx K mg) : mg "codes" = some (.ref (He.ga K "codes")) := T.glo 10 rfl
theorem t_guarded (T : Tx K mg) : mg "guarded" = some (.ref (He.ga K "guarded")) := T.glo 11 rfl
theorem t_written (T : Tx K mg) : mg "written" = some (.ref (He.ga K "written")) := T.glo 12 rfl
theorem t_axiom_line (T : Tx K mg) : mg "axiom_line" = some (.ref (He.ga K "axiom_line")) := T.glo 13 rfl
theorem t_row_line (T : Tx K mg) : mg "row_line" = some (.ref (He.ga K "row_line")) := T.glo 14 rfl
theorem t_goal_line (T : Tx K mg) : mg "goal_line" = some (.ref (He.ga K "goal_line")) := T.glo 15 rfl
theorem t_one_form (T : Tx K mg) : mg "one_form" = some (.ref (He.ga K "one_form")) := T.glo 16 rfl
theorem t_detached (T : Tx K mg) : mg "detached" = some (.ref (He.ga K "detached")) := T.glo 17 rfl
theorem t_are_items (T : Tx K mg) : mg "are_items" = some (.ref (He.ga K "are_items")) := T.glo 18 rfl
theorem t_pair_of (T : Tx K mg) : mg "pair_of" = some (.ref (He.ga K "pair_of")) := T.glo 19 rfl
theorem t_needed (T : Tx K mg) : mg "needed" = some (.ref (He.ga K "needed")) := T.glo 20 rfl
theorem t_targets (T : Tx K mg) : mg "targets" = some (.ref (He.ga K "targets")) := T.glo 21 rfl
theorem t_total_steps (T : Tx K mg) : mg "total_steps" = some (.ref (He.ga K "total_steps")) := T.glo 22 rfl
theorem t_is_ready (T : Tx K mg) : mg "is_ready" = some (.ref (He.ga K "is_ready")) := T.glo 23 rfl
theorem t_is_used (T : Tx K mg) : mg "is_used" = some (.ref (He.ga K "is_used")) := T.glo 24 rfl
theorem t_places (T : Tx K mg) : mg "places" = some (.ref (He.ga K "places")) := T.glo 25 rfl
theorem t_order_answer (T : Tx K mg) : mg "order_answer" = some (.ref (He.ga K "order_answer")) := T.glo 26 rfl
theorem t_done_rows (T : Tx K mg) : mg "done_rows" = some (.ref (He.ga K "done_rows")) := T.glo 27 rfl
theorem t_free (T : Tx K mg) : mg "free" = some (.ref (He.ga K "free")) := T.glo 28 rfl
theorem t_least_peaks (T : Tx K mg) : mg "least_peaks" = some (.ref (He.ga K "least_peaks")) := T.glo 29 rfl
theorem t_next_place (T : Tx K mg) : mg "next_place" = some (.ref (He.ga K "next_place")) := T.glo 30 rfl
theorem t_first_order (T : Tx K mg) : mg "first_order" = some (.ref (He.ga K "first_order")) := T.glo 31 rfl
theorem t_least_answer (T : Tx K mg) : mg "least_answer" = some (.ref (He.ga K "least_answer")) := T.glo 32 rfl
theorem t_is_letter (T : Tx K mg) : mg "is_letter" = some (.ref (He.ga K "is_letter")) := T.glo 33 rfl
theorem t_is_digit (T : Tx K mg) : mg "is_digit" = some (.ref (He.ga K "is_digit")) := T.glo 34 rfl
theorem t_remark_end (T : Tx K mg) : mg "remark_end" = some (.ref (He.ga K "remark_end")) := T.glo 35 rfl
theorem t_name_end (T : Tx K mg) : mg "name_end" = some (.ref (He.ga K "name_end")) := T.glo 36 rfl
theorem t_number_end (T : Tx K mg) : mg "number_end" = some (.ref (He.ga K "number_end")) := T.glo 37 rfl
theorem t_value_of (T : Tx K mg) : mg "value_of" = some (.ref (He.ga K "value_of")) := T.glo 38 rfl
theorem t_name_token (T : Tx K mg) : mg "name_token" = some (.ref (He.ga K "name_token")) := T.glo 39 rfl
theorem t_number_token (T : Tx K mg) : mg "number_token" = some (.ref (He.ga K "number_token")) := T.glo 40 rfl
theorem t_token_at (T : Tx K mg) : mg "token_at" = some (.ref (He.ga K "token_at")) := T.glo 41 rfl
theorem t_scan (T : Tx K mg) : mg "scan" = some (.ref (He.ga K "scan")) := T.glo 42 rfl
theorem t_read_text (T : Tx K mg) : mg "read_text" = some (.ref (He.ga K "read_text")) := T.glo 43 rfl
theorem t_detached_of (T : Tx K mg) : mg "detached_of" = some (.ref (He.ga K "detached_of")) := T.glo 44 rfl
theorem t_merged (T : Tx K mg) : mg "merged" = some (.ref (He.ga K "merged")) := T.glo 45 rfl
theorem t_kept (T : Tx K mg) : mg "kept" = some (.ref (He.ga K "kept")) := T.glo 46 rfl
theorem t_shortened (T : Tx K mg) : mg "shortened" = some (.ref (He.ga K "shortened")) := T.glo 47 rfl
theorem t_counted (T : Tx K mg) : mg "counted" = some (.ref (He.ga K "counted")) := T.glo 48 rfl
theorem t_load (T : Tx K mg) : mg "load" = some (.ref (He.ga K "load")) := T.glo 49 rfl
theorem t_prune (T : Tx K mg) : mg "prune" = some (.ref (He.ga K "prune")) := T.glo 50 rfl
theorem t_general (T : Tx K mg) : mg "general" = some (.ref (He.ga K "general")) := T.glo 51 rfl
theorem t_shorten (T : Tx K mg) : mg "shorten" = some (.ref (He.ga K "shorten")) := T.glo 52 rfl
theorem t_order (T : Tx K mg) : mg "order" = some (.ref (He.ga K "order")) := T.glo 53 rfl
theorem t_least (T : Tx K mg) : mg "least" = some (.ref (He.ga K "least")) := T.glo 54 rfl
theorem t_totals (T : Tx K mg) : mg "totals" = some (.ref (He.ga K "totals")) := T.glo 55 rfl
theorem t_answer (T : Tx K mg) : mg "answer" = some (.ref (He.ga K "answer")) := T.glo 56 rfl
theorem t_read_call (T : Tx K mg) : mg "read_call" = some (.ref (He.ga K "read_call")) := T.glo 57 rfl
theorem t_answers (T : Tx K mg) : mg "answers" = some (.ref (He.ga K "answers")) := T.glo 58 rfl
theorem t_UNKNOWN (T : Tx K mg) : ∃ t, mg "UNKNOWN" = some (.int (0) t) := T.int 59 rfl
theorem t_IMPLIES (T : Tx K mg) : ∃ t, mg "IMPLIES" = some (.int (1) t) := T.int 60 rfl
theorem t_DENIED (T : Tx K mg) : ∃ t, mg "DENIED" = some (.int (2) t) := T.int 61 rfl
theorem t_NO_FORMULA (T : Tx K mg) : mg "NO_FORMULA" = some (.ref (He.ga K "NO_FORMULA")) := T.glo 62 rfl
theorem t_MOST_FIRST (T : Tx K mg) : ∃ t, mg "MOST_FIRST" = some (.int (1000) t) := T.int 63 rfl
theorem t_MOST_DETACHED (T : Tx K mg) : ∃ t, mg "MOST_DETACHED" = some (.int (60) t) := T.int 64 rfl
theorem t_APART (T : Tx K mg) : ∃ t, mg "APART" = some (.int (1000) t) := T.int 65 rfl
theorem t_MOST_ROWS_places (T : Tx K mg) : ∃ t, mg "MOST_ROWS_places" = some (.int (8) t) := T.int 66 rfl
theorem t_NO_WAY (T : Tx K mg) : ∃ t, mg "NO_WAY" = some (.int (99) t) := T.int 67 rfl
theorem t_MOST_BYTES (T : Tx K mg) : ∃ t, mg "MOST_BYTES" = some (.int (4096) t) := T.int 68 rfl
theorem t_MOST_IN_NAME (T : Tx K mg) : ∃ t, mg "MOST_IN_NAME" = some (.int (16) t) := T.int 69 rfl
theorem t_MOST_DIGITS (T : Tx K mg) : ∃ t, mg "MOST_DIGITS" = some (.int (10) t) := T.int 70 rfl
theorem t_MOST_NUMBER (T : Tx K mg) : ∃ t, mg "MOST_NUMBER" = some (.int (1000000000) t) := T.int 71 rfl
theorem t_NAME (T : Tx K mg) : ∃ t, mg "NAME" = some (.int (0) t) := T.int 72 rfl
theorem t_WORD (T : Tx K mg) : ∃ t, mg "WORD" = some (.int (1) t) := T.int 73 rfl
theorem t_NUMBER (T : Tx K mg) : ∃ t, mg "NUMBER" = some (.int (2) t) := T.int 74 rfl
theorem t_SIGN (T : Tx K mg) : ∃ t, mg "SIGN" = some (.int (3) t) := T.int 75 rfl
theorem t_END (T : Tx K mg) : ∃ t, mg "END" = some (.int (4) t) := T.int 76 rfl
theorem t_AXIOM (T : Tx K mg) : mg "AXIOM" = some (.ref (He.ga K "AXIOM")) := T.glo 77 rfl
theorem t_ROW (T : Tx K mg) : mg "ROW" = some (.ref (He.ga K "ROW")) := T.glo 78 rfl
theorem t_GOAL (T : Tx K mg) : mg "GOAL" = some (.ref (He.ga K "GOAL")) := T.glo 79 rfl
theorem t_WORDS (T : Tx K mg) : mg "WORDS" = some (.ref (He.ga K "WORDS")) := T.glo 80 rfl
theorem t_OPENING (T : Tx K mg) : mg "OPENING" = some (.ref (He.ga K "OPENING")) := T.glo 81 rfl
theorem t_CLOSING (T : Tx K mg) : mg "CLOSING" = some (.ref (He.ga K "CLOSING")) := T.glo 82 rfl
theorem t_COMMA (T : Tx K mg) : mg "COMMA" = some (.ref (He.ga K "COMMA")) := T.glo 83 rfl
theorem t_COLON (T : Tx K mg) : mg "COLON" = some (.ref (He.ga K "COLON")) := T.glo 84 rfl
theorem t_SEMICOLON (T : Tx K mg) : mg "SEMICOLON" = some (.ref (He.ga K "SEMICOLON")) := T.glo 85 rfl
theorem t_GREATER (T : Tx K mg) : mg "GREATER" = some (.ref (He.ga K "GREATER")) := T.glo 86 rfl
theorem t_TILDE (T : Tx K mg) : mg "TILDE" = some (.ref (He.ga K "TILDE")) := T.glo 87 rfl
theorem t_SIGNS (T : Tx K mg) : mg "SIGNS" = some (.ref (He.ga K "SIGNS")) := T.glo 88 rfl
theorem t_BLANKS (T : Tx K mg) : mg "BLANKS" = some (.ref (He.ga K "BLANKS")) := T.glo 89 rfl
theorem t_REMARK (T : Tx K mg) : ∃ t, mg "REMARK" = some (.int (35) t) := T.int 90 rfl
theorem t_LINE_END (T : Tx K mg) : ∃ t, mg "LINE_END" = some (.int (10) t) := T.int 91 rfl
theorem t_ZERO (T : Tx K mg) : ∃ t, mg "ZERO" = some (.int (48) t) := T.int 92 rfl
theorem t_MOST_AXIOMS (T : Tx K mg) : ∃ t, mg "MOST_AXIOMS" = some (.int (6) t) := T.int 93 rfl
theorem t_MOST_ROWS_reader (T : Tx K mg) : ∃ t, mg "MOST_ROWS_reader" = some (.int (24) t) := T.int 94 rfl
theorem t_MOST_GOALS (T : Tx K mg) : ∃ t, mg "MOST_GOALS" = some (.int (4) t) := T.int 95 rfl
theorem t_MOST_SIGNS (T : Tx K mg) : ∃ t, mg "MOST_SIGNS" = some (.int (40) t) := T.int 96 rfl
theorem t_MOST_WITHIN (T : Tx K mg) : ∃ t, mg "MOST_WITHIN" = some (.int (40) t) := T.int 97 rfl
theorem t_NOTHING (T : Tx K mg) : ∃ t, mg "NOTHING" = some (.int (-1) t) := T.int 98 rfl
theorem t_LOAD (T : Tx K mg) : ∃ t, mg "LOAD" = some (.int (0) t) := T.int 99 rfl
theorem t_SHOWN (T : Tx K mg) : ∃ t, mg "SHOWN" = some (.int (1) t) := T.int 100 rfl
theorem t_PRUNE (T : Tx K mg) : ∃ t, mg "PRUNE" = some (.int (2) t) := T.int 101 rfl
theorem t_GENERAL (T : Tx K mg) : ∃ t, mg "GENERAL" = some (.int (3) t) := T.int 102 rfl
theorem t_SHORTEN (T : Tx K mg) : ∃ t, mg "SHORTEN" = some (.int (4) t) := T.int 103 rfl
theorem t_SHORT (T : Tx K mg) : ∃ t, mg "SHORT" = some (.int (5) t) := T.int 104 rfl
theorem t_ORDER (T : Tx K mg) : ∃ t, mg "ORDER" = some (.int (6) t) := T.int 105 rfl
theorem t_LEAST (T : Tx K mg) : ∃ t, mg "LEAST" = some (.int (7) t) := T.int 106 rfl
theorem t_NUMBERS (T : Tx K mg) : mg "NUMBERS" = some (.ref (He.ga K "NUMBERS")) := T.glo 107 rfl
theorem t_LISTS (T : Tx K mg) : mg "LISTS" = some (.ref (He.ga K "LISTS")) := T.glo 108 rfl
theorem t_Puts (T : Tx K mg) : mg "Puts" = some (.ref (He.ga K "Puts")) := T.glo 109 rfl
theorem c_Puts (T : Tx K mg) : Cls K (He.ga K "Puts") := He.cls_ok (T.c.d.fact 110 rfl)
theorem k_Puts (T : Tx K mg) : Mk K (He.ga K "Puts") (He.ma K (He.ga K "Puts") "__init__") := He.mkr_ok (T.c.d.fact 111 rfl)
theorem n_Puts_bound (T : Tx K mg) : NoAttr K (He.ga K "Puts") "bound" := He.noat_ok (T.c.d.fact 112 rfl)
theorem t_ProofText (T : Tx K mg) : mg "ProofText" = some (.ref (He.ga K "ProofText")) := T.glo 113 rfl
theorem c_ProofText (T : Tx K mg) : Cls K (He.ga K "ProofText") := He.cls_ok (T.c.d.fact 114 rfl)
theorem k_ProofText (T : Tx K mg) : Mk K (He.ga K "ProofText") (He.ma K (He.ga K "ProofText") "__init__") := He.mkr_ok (T.c.d.fact 115 rfl)
theorem n_ProofText_names (T : Tx K mg) : NoAttr K (He.ga K "ProofText") "names" := He.noat_ok (T.c.d.fact 116 rfl)
theorem n_ProofText_axioms (T : Tx K mg) : NoAttr K (He.ga K "ProofText") "axioms" := He.noat_ok (T.c.d.fact 117 rfl)
theorem n_ProofText_pairs (T : Tx K mg) : NoAttr K (He.ga K "ProofText") "pairs" := He.noat_ok (T.c.d.fact 118 rfl)
theorem n_ProofText_goals (T : Tx K mg) : NoAttr K (He.ga K "ProofText") "goals" := He.noat_ok (T.c.d.fact 119 rfl)
theorem n_ProofText_formulas (T : Tx K mg) : NoAttr K (He.ga K "ProofText") "formulas" := He.noat_ok (T.c.d.fact 120 rfl)
theorem n_ProofText_steps (T : Tx K mg) : NoAttr K (He.ga K "ProofText") "steps" := He.noat_ok (T.c.d.fact 121 rfl)
theorem t_Reader (T : Tx K mg) : mg "Reader" = some (.ref (He.ga K "Reader")) := T.glo 122 rfl
theorem c_Reader (T : Tx K mg) : Cls K (He.ga K "Reader") := He.cls_ok (T.c.d.fact 123 rfl)
theorem k_Reader (T : Tx K mg) : Mk K (He.ga K "Reader") (He.ma K (He.ga K "Reader") "__init__") := He.mkr_ok (T.c.d.fact 124 rfl)
theorem n_Reader_tokens (T : Tx K mg) : NoAttr K (He.ga K "Reader") "tokens" := He.noat_ok (T.c.d.fact 125 rfl)
theorem n_Reader_at (T : Tx K mg) : NoAttr K (He.ga K "Reader") "at" := He.noat_ok (T.c.d.fact 126 rfl)
theorem n_Reader_names (T : Tx K mg) : NoAttr K (He.ga K "Reader") "names" := He.noat_ok (T.c.d.fact 127 rfl)
theorem n_Reader_unknowns (T : Tx K mg) : NoAttr K (He.ga K "Reader") "unknowns" := He.noat_ok (T.c.d.fact 128 rfl)
theorem m_Puts_init (T : Tx K mg) : Meth K (He.ga K "Puts") "__init__" (He.ma K (He.ga K "Puts") "__init__") := (He.meth_ok (T.c.d.fact 129 rfl))
theorem m_Puts_walked (T : Tx K mg) : Meth K (He.ga K "Puts") "walked" (He.ma K (He.ga K "Puts") "walked") := (He.meth_ok (T.c.d.fact 130 rfl))
theorem m_Puts_stands_in (T : Tx K mg) : Meth K (He.ga K "Puts") "stands_in" (He.ma K (He.ga K "Puts") "stands_in") := (He.meth_ok (T.c.d.fact 131 rfl))
theorem m_Puts_bind (T : Tx K mg) : Meth K (He.ga K "Puts") "bind" (He.ma K (He.ga K "Puts") "bind") := (He.meth_ok (T.c.d.fact 132 rfl))
theorem m_Puts_match (T : Tx K mg) : Meth K (He.ga K "Puts") "match" (He.ma K (He.ga K "Puts") "match") := (He.meth_ok (T.c.d.fact 133 rfl))
theorem m_Puts_make_same (T : Tx K mg) : Meth K (He.ga K "Puts") "make_same" (He.ma K (He.ga K "Puts") "make_same") := (He.meth_ok (T.c.d.fact 134 rfl))
theorem m_Puts_is_longer (T : Tx K mg) : Meth K (He.ga K "Puts") "is_longer" (He.ma K (He.ga K "Puts") "is_longer") := (He.meth_ok (T.c.d.fact 135 rfl))
theorem m_Puts_put_in (T : Tx K mg) : Meth K (He.ga K "Puts") "put_in" (He.ma K (He.ga K "Puts") "put_in") := (He.meth_ok (T.c.d.fact 136 rfl))
theorem m_ProofText_init (T : Tx K mg) : Meth K (He.ga K "ProofText") "__init__" (He.ma K (He.ga K "ProofText") "__init__") := (He.meth_ok (T.c.d.fact 137 rfl))
theorem m_Reader_init (T : Tx K mg) : Meth K (He.ga K "Reader") "__init__" (He.ma K (He.ga K "Reader") "__init__") := (He.meth_ok (T.c.d.fact 138 rfl))
theorem m_Reader_here (T : Tx K mg) : Meth K (He.ga K "Reader") "here" (He.ma K (He.ga K "Reader") "here") := (He.meth_ok (T.c.d.fact 139 rfl))
theorem m_Reader_is_next (T : Tx K mg) : Meth K (He.ga K "Reader") "is_next" (He.ma K (He.ga K "Reader") "is_next") := (He.meth_ok (T.c.d.fact 140 rfl))
theorem m_Reader_is_end (T : Tx K mg) : Meth K (He.ga K "Reader") "is_end" (He.ma K (He.ga K "Reader") "is_end") := (He.meth_ok (T.c.d.fact 141 rfl))
theorem m_Reader_take_word (T : Tx K mg) : Meth K (He.ga K "Reader") "take_word" (He.ma K (He.ga K "Reader") "take_word") := (He.meth_ok (T.c.d.fact 142 rfl))
theorem m_Reader_take_sign (T : Tx K mg) : Meth K (He.ga K "Reader") "take_sign" (He.ma K (He.ga K "Reader") "take_sign") := (He.meth_ok (T.c.d.fact 143 rfl))
theorem m_Reader_name_here (T : Tx K mg) : Meth K (He.ga K "Reader") "name_here" (He.ma K (He.ga K "Reader") "name_here") := (He.meth_ok (T.c.d.fact 144 rfl))
theorem m_Reader_new_name (T : Tx K mg) : Meth K (He.ga K "Reader") "new_name" (He.ma K (He.ga K "Reader") "new_name") := (He.meth_ok (T.c.d.fact 145 rfl))
theorem m_Reader_old_item (T : Tx K mg) : Meth K (He.ga K "Reader") "old_item" (He.ma K (He.ga K "Reader") "old_item") := (He.meth_ok (T.c.d.fact 146 rfl))
theorem m_Reader_unknown (T : Tx K mg) : Meth K (He.ga K "Reader") "unknown" (He.ma K (He.ga K "Reader") "unknown") := (He.meth_ok (T.c.d.fact 147 rfl))
theorem m_Reader_go_within (T : Tx K mg) : Meth K (He.ga K "Reader") "go_within" (He.ma K (He.ga K "Reader") "go_within") := (He.meth_ok (T.c.d.fact 148 rfl))
theorem m_Reader_part (T : Tx K mg) : Meth K (He.ga K "Reader") "part" (He.ma K (He.ga K "Reader") "part") := (He.meth_ok (T.c.d.fact 149 rfl))
theorem m_Reader_chain (T : Tx K mg) : Meth K (He.ga K "Reader") "chain" (He.ma K (He.ga K "Reader") "chain") := (He.meth_ok (T.c.d.fact 150 rfl))
theorem m_Reader_formula (T : Tx K mg) : Meth K (He.ga K "Reader") "formula" (He.ma K (He.ga K "Reader") "formula") := (He.meth_ok (T.c.d.fact 151 rfl))
theorem m_Reader_axiom (T : Tx K mg) : Meth K (He.ga K "Reader") "axiom" (He.ma K (He.ga K "Reader") "axiom") := (He.meth_ok (T.c.d.fact 152 rfl))
theorem m_Reader_row (T : Tx K mg) : Meth K (He.ga K "Reader") "row" (He.ma K (He.ga K "Reader") "row") := (He.meth_ok (T.c.d.fact 153 rfl))
theorem m_Reader_goal (T : Tx K mg) : Meth K (He.ga K "Reader") "goal" (He.ma K (He.ga K "Reader") "goal") := (He.meth_ok (T.c.d.fact 154 rfl))
theorem t_Fault (T : Tx K mg) : mg "Fault" = some (.ref (He.ga K "Fault")) := T.glo 155 rfl
theorem t_len (T : Tx K mg) : mg "len" = none := T.free 156 rfl
theorem t_list (T : Tx K mg) : mg "list" = none := T.free 157 rfl
theorem t_tuple (T : Tx K mg) : mg "tuple" = none := T.free 158 rfl
theorem t_range (T : Tx K mg) : mg "range" = none := T.free 159 rfl
theorem t_enumerate (T : Tx K mg) : mg "enumerate" = none := T.free 160 rfl
theorem t_sorted (T : Tx K mg) : mg "sorted" = none := T.free 161 rfl
theorem t_max (T : Tx K mg) : mg "max" = none := T.free 162 rfl
theorem t_min (T : Tx K mg) : mg "min" = none := T.free 163 rfl
theorem t_sum (T : Tx K mg) : mg "sum" = none := T.free 164 rfl
theorem t_any (T : Tx K mg) : mg "any" = none := T.free 165 rfl
theorem t_all (T : Tx K mg) : mg "all" = none := T.free 166 rfl
theorem t_zip (T : Tx K mg) : mg "zip" = none := T.free 167 rfl
theorem t_ord (T : Tx K mg) : mg "ord" = none := T.free 168 rfl
theorem t_str (T : Tx K mg) : mg "str" = none := T.free 169 rfl
theorem t_Exception (T : Tx K mg) : mg "Exception" = none := T.free 170 rfl
theorem u_NO_FORMULA (T : Tx K mg) (H : Hp) : SqT K H (He.ga K "NO_FORMULA") (([] : List He.Dv).map (He.Dv.v K)) := T.tup 0 rfl H
theorem u_AXIOM (T : Tx K mg) (H : Hp) : SqT K H (He.ga K "AXIOM") (([He.Dv.int 97, He.Dv.int 120, He.Dv.int 105, He.Dv.int 111, He.Dv.int 109] : List He.Dv).map (He.Dv.v K)) := T.tup 1 rfl H
theorem u_ROW (T : Tx K mg) (H : Hp) : SqT K H (He.ga K "ROW") (([He.Dv.int 114, He.Dv.int 111, He.Dv.int 119] : List He.Dv).map (He.Dv.v K)) := T.tup 2 rfl H
theorem u_GOAL (T : Tx K mg) (H : Hp) : SqT K H (He.ga K "GOAL") (([He.Dv.int 103, He.Dv.int 111, He.Dv.int 97, He.Dv.int 108] : List He.Dv).map (He.Dv.v K)) := T.tup 3 rfl H
theorem u_WORDS (T : Tx K mg) (H : Hp) : SqT K H (He.ga K "WORDS") (([He.Dv.glo "AXIOM", He.Dv.glo "ROW", He.Dv.glo "GOAL"] : List He.Dv).map (He.Dv.v K)) := T.tup 4 rfl H
theorem u_OPENING (T : Tx K mg) (H : Hp) : SqT K H (He.ga K "OPENING") (([He.Dv.int 40] : List He.Dv).map (He.Dv.v K)) := T.tup 5 rfl H
theorem u_CLOSING (T : Tx K mg) (H : Hp) : SqT K H (He.ga K "CLOSING") (([He.Dv.int 41] : List He.Dv).map (He.Dv.v K)) := T.tup 6 rfl H
theorem u_COMMA (T : Tx K mg) (H : Hp) : SqT K H (He.ga K "COMMA") (([He.Dv.int 44] : List He.Dv).map (He.Dv.v K)) := T.tup 7 rfl H
theorem u_COLON (T : Tx K mg) (H : Hp) : SqT K H (He.ga K "COLON") (([He.Dv.int 58] : List He.Dv).map (He.Dv.v K)) := T.tup 8 rfl H
theorem u_SEMICOLON (T : Tx K mg) (H : Hp) : SqT K H (He.ga K "SEMICOLON") (([He.Dv.int 59] : List He.Dv).map (He.Dv.v K)) := T.tup 9 rfl H
theorem u_GREATER (T : Tx K mg) (H : Hp) : SqT K H (He.ga K "GREATER") (([He.Dv.int 62] : List He.Dv).map (He.Dv.v K)) := T.tup 10 rfl H
theorem u_TILDE (T : Tx K mg) (H : Hp) : SqT K H (He.ga K "TILDE") (([He.Dv.int 126] : List He.Dv).map (He.Dv.v K)) := T.tup 11 rfl H
theorem u_SIGNS (T : Tx K mg) (H : Hp) : SqT K H (He.ga K "SIGNS") (([He.Dv.int 40, He.Dv.int 41, He.Dv.int 44, He.Dv.int 58, He.Dv.int 59, He.Dv.int 62, He.Dv.int 126] : List He.Dv).map (He.Dv.v K)) := T.tup 12 rfl H
theorem u_BLANKS (T : Tx K mg) (H : Hp) : SqT K H (He.ga K "BLANKS") (([He.Dv.int 32, He.Dv.int 9, He.Dv.int 10] : List He.Dv).map (He.Dv.v K)) := T.tup 13 rfl H
theorem u_NUMBERS (T : Tx K mg) (H : Hp) : SqT K H (He.ga K "NUMBERS") (([He.Dv.int 0, He.Dv.int 0, He.Dv.int 0, He.Dv.int 1, He.Dv.int 0, He.Dv.int 0, He.Dv.int 0, He.Dv.int 0, He.Dv.int 0] : List He.Dv).map (He.Dv.v K)) := T.tup 14 rfl H
theorem u_LISTS (T : Tx K mg) (H : Hp) : SqT K H (He.ga K "LISTS") (([He.Dv.int 1, He.Dv.int 0, He.Dv.int 1, He.Dv.int 0, He.Dv.int 0, He.Dv.int 0, He.Dv.int 2, He.Dv.int 1, He.Dv.int 0] : List He.Dv).map (He.Dv.v K)) := T.tup 15 rfl H
theorem f_sign_places (T : Tx K mg) : ∃ fd, FunD K "sign_places" "sign_places" (defArgs s_sign_places) (defBody s_sign_places) (defScope s_sign_places) [] [] (He.ga K "sign_places") fd := T.c.d.def_ 0 rfl
theorem f_unknown_places (T : Tx K mg) : ∃ fd, FunD K "unknown_places" "unknown_places" (defArgs s_unknown_places) (defBody s_unknown_places) (defScope s_unknown_places) [] [] (He.ga K "unknown_places") fd := T.c.d.def_ 1 rfl
theorem f_unknowns (T : Tx K mg) : ∃ fd, FunD K "unknowns" "unknowns" (defArgs s_unknowns) (defBody s_unknowns) (defScope s_unknowns) [] [] (He.ga K "unknowns") fd := T.c.d.def_ 2 rfl
theorem f_count_signs (T : Tx K mg) : ∃ fd, FunD K "count_signs" "count_signs" (defArgs s_count_signs) (defBody s_count_signs) (defScope s_count_signs) [] [] (He.ga K "count_signs") fd := T.c.d.def_ 3 rfl
theorem f_part_end (T : Tx K mg) : ∃ fd, FunD K "part_end" "part_end" (defArgs s_part_end) (defBody s_part_end) (defScope s_part_end) [] [] (He.ga K "part_end") fd := T.c.d.def_ 4 rfl
theorem f_parts (T : Tx K mg) : ∃ fd, FunD K "parts" "parts" (defArgs s_parts) (defBody s_parts) (defScope s_parts) [] [] (He.ga K "parts") fd := T.c.d.def_ 5 rfl
theorem f_numbered (T : Tx K mg) : ∃ fd, FunD K "numbered" "numbered" (defArgs s_numbered) (defBody s_numbered) (defScope s_numbered) [] [] (He.ga K "numbered") fd := T.c.d.def_ 6 rfl
theorem f_shifted (T : Tx K mg) : ∃ fd, FunD K "shifted" "shifted" (defArgs s_shifted) (defBody s_shifted) (defScope s_shifted) [] [] (He.ga K "shifted") fd := T.c.d.def_ 7 rfl
theorem f_is_instance (T : Tx K mg) : ∃ fd, FunD K "is_instance" "is_instance" (defArgs s_is_instance) (defBody s_is_instance) (defScope s_is_instance) [] [] (He.ga K "is_instance") fd := T.c.d.def_ 8 rfl
theorem f_first_general (T : Tx K mg) : ∃ fd, FunD K "first_general" "first_general" (defArgs s_first_general) (defBody s_first_general) (defScope s_first_general) [] [] (He.ga K "first_general") fd := T.c.d.def_ 9 rfl
theorem f_codes (T : Tx K mg) : ∃ fd, FunD K "codes" "codes" (defArgs s_codes) (defBody s_codes) (defScope s_codes) [] [] (He.ga K "codes") fd := T.c.d.def_ 10 rfl
theorem f_guarded (T : Tx K mg) : ∃ fd, FunD K "guarded" "guarded" (defArgs s_guarded) (defBody s_guarded) (defScope s_guarded) [] [] (He.ga K "guarded") fd := T.c.d.def_ 11 rfl
theorem f_written (T : Tx K mg) : ∃ fd, FunD K "written" "written" (defArgs s_written) (defBody s_written) (defScope s_written) [] [] (He.ga K "written") fd := T.c.d.def_ 12 rfl
theorem f_axiom_line (T : Tx K mg) : ∃ fd, FunD K "axiom_line" "axiom_line" (defArgs s_axiom_line) (defBody s_axiom_line) (defScope s_axiom_line) [] [] (He.ga K "axiom_line") fd := T.c.d.def_ 13 rfl
theorem f_row_line (T : Tx K mg) : ∃ fd, FunD K "row_line" "row_line" (defArgs s_row_line) (defBody s_row_line) (defScope s_row_line) [] [] (He.ga K "row_line") fd := T.c.d.def_ 14 rfl
theorem f_goal_line (T : Tx K mg) : ∃ fd, FunD K "goal_line" "goal_line" (defArgs s_goal_line) (defBody s_goal_line) (defScope s_goal_line) [] [] (He.ga K "goal_line") fd := T.c.d.def_ 15 rfl
theorem f_one_form (T : Tx K mg) : ∃ fd, FunD K "one_form" "one_form" (defArgs s_one_form) (defBody s_one_form) (defScope s_one_form) [] [] (He.ga K "one_form") fd := T.c.d.def_ 16 rfl
theorem f_Puts_init (T : Tx K mg) : ∃ fd, FunD K "__init__" "Puts.__init__" (defArgs s_Puts_init) (defBody s_Puts_init) (defScope s_Puts_init) [] [] (He.ma K (He.ga K "Puts") "__init__") fd := T.c.d.def_ 17 rfl
theorem f_Puts_walked (T : Tx K mg) : ∃ fd, FunD K "walked" "Puts.walked" (defArgs s_Puts_walked) (defBody s_Puts_walked) (defScope s_Puts_walked) [] [] (He.ma K (He.ga K "Puts") "walked") fd := T.c.d.def_ 18 rfl
theorem f_Puts_stands_in (T : Tx K mg) : ∃ fd, FunD K "stands_in" "Puts.stands_in" (defArgs s_Puts_stands_in) (defBody s_Puts_stands_in) (defScope s_Puts_stands_in) [] [] (He.ma K (He.ga K "Puts") "stands_in") fd := T.c.d.def_ 19 rfl
theorem f_Puts_bind (T : Tx K mg) : ∃ fd, FunD K "bind" "Puts.bind" (defArgs s_Puts_bind) (defBody s_Puts_bind) (defScope s_Puts_bind) [] [] (He.ma K (He.ga K "Puts") "bind") fd := T.c.d.def_ 20 rfl
theorem f_Puts_match (T : Tx K mg) : ∃ fd, FunD K "match" "Puts.match" (defArgs s_Puts_match) (defBody s_Puts_match) (defScope s_Puts_match) [] [] (He.ma K (He.ga K "Puts") "match") fd := T.c.d.def_ 21 rfl
theorem f_Puts_make_same (T : Tx K mg) : ∃ fd, FunD K "make_same" "Puts.make_same" (defArgs s_Puts_make_same) (defBody s_Puts_make_same) (defScope s_Puts_make_same) [] [] (He.ma K (He.ga K "Puts") "make_same") fd := T.c.d.def_ 22 rfl
theorem f_Puts_is_longer (T : Tx K mg) : ∃ fd, FunD K "is_longer" "Puts.is_longer" (defArgs s_Puts_is_longer) (defBody s_Puts_is_longer) (defScope s_Puts_is_longer) [] [] (He.ma K (He.ga K "Puts") "is_longer") fd := T.c.d.def_ 23 rfl
theorem f_Puts_put_in (T : Tx K mg) : ∃ fd, FunD K "put_in" "Puts.put_in" (defArgs s_Puts_put_in) (defBody s_Puts_put_in) (defScope s_Puts_put_in) [] [] (He.ma K (He.ga K "Puts") "put_in") fd := T.c.d.def_ 24 rfl
theorem f_detached (T : Tx K mg) : ∃ fd, FunD K "detached" "detached" (defArgs s_detached) (defBody s_detached) (defScope s_detached) [] [] (He.ga K "detached") fd := T.c.d.def_ 25 rfl
theorem f_ProofText_init (T : Tx K mg) : ∃ fd, FunD K "__init__" "ProofText.__init__" (defArgs s_ProofText_init) (defBody s_ProofText_init) (defScope s_ProofText_init) [] [] (He.ma K (He.ga K "ProofText") "__init__") fd := T.c.d.def_ 26 rfl
theorem f_are_items (T : Tx K mg) : ∃ fd, FunD K "are_items" "are_items" (defArgs s_are_items) (defBody s_are_items) (defScope s_are_items) [] [] (He.ga K "are_items") fd := T.c.d.def_ 27 rfl
theorem f_pair_of (T : Tx K mg) : ∃ fd, FunD K "pair_of" "pair_of" (defArgs s_pair_of) (defBody s_pair_of) (defScope s_pair_of) [] [] (He.ga K "pair_of") fd := T.c.d.def_ 28 rfl
theorem f_needed (T : Tx K mg) : ∃ fd, FunD K "needed" "needed" (defArgs s_needed) (defBody s_needed) (defScope s_needed) [] [] (He.ga K "needed") fd := T.c.d.def_ 29 rfl
theorem f_targets (T : Tx K mg) : ∃ fd, FunD K "targets" "targets" (defArgs s_targets) (defBody s_targets) (defScope s_targets) [] [] (He.ga K "targets") fd := T.c.d.def_ 30 rfl
theorem f_total_steps (T : Tx K mg) : ∃ fd, FunD K "total_steps" "total_steps" (defArgs s_total_steps) (defBody s_total_steps) (defScope s_total_steps) [] [] (He.ga K "total_steps") fd := T.c.d.def_ 31 rfl
theorem f_is_ready (T : Tx K mg) : ∃ fd, FunD K "is_ready" "is_ready" (defArgs s_is_ready) (defBody s_is_ready) (defScope s_is_ready) [] [] (He.ga K "is_ready") fd := T.c.d.def_ 32 rfl
theorem f_is_used (T : Tx K mg) : ∃ fd, FunD K "is_used" "is_used" (defArgs s_is_used) (defBody s_is_used) (defScope s_is_used) [] [] (He.ga K "is_used") fd := T.c.d.def_ 33 rfl
theorem f_places (T : Tx K mg) : ∃ fd, FunD K "places" "places" (defArgs s_places) (defBody s_places) (defScope s_places) [] [] (He.ga K "places") fd := T.c.d.def_ 34 rfl
theorem f_order_answer (T : Tx K mg) : ∃ fd, FunD K "order_answer" "order_answer" (defArgs s_order_answer) (defBody s_order_answer) (defScope s_order_answer) [] [] (He.ga K "order_answer") fd := T.c.d.def_ 35 rfl
theorem f_done_rows (T : Tx K mg) : ∃ fd, FunD K "done_rows" "done_rows" (defArgs s_done_rows) (defBody s_done_rows) (defScope s_done_rows) [] [] (He.ga K "done_rows") fd := T.c.d.def_ 36 rfl
theorem f_free (T : Tx K mg) : ∃ fd, FunD K "free" "free" (defArgs s_free) (defBody s_free) (defScope s_free) [] [] (He.ga K "free") fd := T.c.d.def_ 37 rfl
theorem f_least_peaks (T : Tx K mg) : ∃ fd, FunD K "least_peaks" "least_peaks" (defArgs s_least_peaks) (defBody s_least_peaks) (defScope s_least_peaks) [] [] (He.ga K "least_peaks") fd := T.c.d.def_ 38 rfl
theorem f_next_place (T : Tx K mg) : ∃ fd, FunD K "next_place" "next_place" (defArgs s_next_place) (defBody s_next_place) (defScope s_next_place) [] [] (He.ga K "next_place") fd := T.c.d.def_ 39 rfl
theorem f_first_order (T : Tx K mg) : ∃ fd, FunD K "first_order" "first_order" (defArgs s_first_order) (defBody s_first_order) (defScope s_first_order) [] [] (He.ga K "first_order") fd := T.c.d.def_ 40 rfl
theorem f_least_answer (T : Tx K mg) : ∃ fd, FunD K "least_answer" "least_answer" (defArgs s_least_answer) (defBody s_least_answer) (defScope s_least_answer) [] [] (He.ga K "least_answer") fd := T.c.d.def_ 41 rfl
theorem f_Fault_init (T : Tx K mg) : ∃ fd, FunD K "__init__" "Fault.__init__" (defArgs s_Fault_init) (defBody s_Fault_init) (defScope s_Fault_init) [] [] (He.ma K (He.ga K "Fault") "__init__") fd := T.c.d.def_ 42 rfl
theorem f_is_letter (T : Tx K mg) : ∃ fd, FunD K "is_letter" "is_letter" (defArgs s_is_letter) (defBody s_is_letter) (defScope s_is_letter) [] [] (He.ga K "is_letter") fd := T.c.d.def_ 43 rfl
theorem f_is_digit (T : Tx K mg) : ∃ fd, FunD K "is_digit" "is_digit" (defArgs s_is_digit) (defBody s_is_digit) (defScope s_is_digit) [] [] (He.ga K "is_digit") fd := T.c.d.def_ 44 rfl
theorem f_remark_end (T : Tx K mg) : ∃ fd, FunD K "remark_end" "remark_end" (defArgs s_remark_end) (defBody s_remark_end) (defScope s_remark_end) [] [] (He.ga K "remark_end") fd := T.c.d.def_ 45 rfl
theorem f_name_end (T : Tx K mg) : ∃ fd, FunD K "name_end" "name_end" (defArgs s_name_end) (defBody s_name_end) (defScope s_name_end) [] [] (He.ga K "name_end") fd := T.c.d.def_ 46 rfl
theorem f_number_end (T : Tx K mg) : ∃ fd, FunD K "number_end" "number_end" (defArgs s_number_end) (defBody s_number_end) (defScope s_number_end) [] [] (He.ga K "number_end") fd := T.c.d.def_ 47 rfl
theorem f_value_of (T : Tx K mg) : ∃ fd, FunD K "value_of" "value_of" (defArgs s_value_of) (defBody s_value_of) (defScope s_value_of) [] [] (He.ga K "value_of") fd := T.c.d.def_ 48 rfl
theorem f_name_token (T : Tx K mg) : ∃ fd, FunD K "name_token" "name_token" (defArgs s_name_token) (defBody s_name_token) (defScope s_name_token) [] [] (He.ga K "name_token") fd := T.c.d.def_ 49 rfl
theorem f_number_token (T : Tx K mg) : ∃ fd, FunD K "number_token" "number_token" (defArgs s_number_token) (defBody s_number_token) (defScope s_number_token) [] [] (He.ga K "number_token") fd := T.c.d.def_ 50 rfl
theorem f_token_at (T : Tx K mg) : ∃ fd, FunD K "token_at" "token_at" (defArgs s_token_at) (defBody s_token_at) (defScope s_token_at) [] [] (He.ga K "token_at") fd := T.c.d.def_ 51 rfl
theorem f_scan (T : Tx K mg) : ∃ fd, FunD K "scan" "scan" (defArgs s_scan) (defBody s_scan) (defScope s_scan) [] [] (He.ga K "scan") fd := T.c.d.def_ 52 rfl
theorem f_Reader_init (T : Tx K mg) : ∃ fd, FunD K "__init__" "Reader.__init__" (defArgs s_Reader_init) (defBody s_Reader_init) (defScope s_Reader_init) [] [] (He.ma K (He.ga K "Reader") "__init__") fd := T.c.d.def_ 53 rfl
theorem f_Reader_here (T : Tx K mg) : ∃ fd, FunD K "here" "Reader.here" (defArgs s_Reader_here) (defBody s_Reader_here) (defScope s_Reader_here) [] [] (He.ma K (He.ga K "Reader") "here") fd := T.c.d.def_ 54 rfl
theorem f_Reader_is_next (T : Tx K mg) : ∃ fd, FunD K "is_next" "Reader.is_next" (defArgs s_Reader_is_next) (defBody s_Reader_is_next) (defScope s_Reader_is_next) [] [] (He.ma K (He.ga K "Reader") "is_next") fd := T.c.d.def_ 55 rfl
theorem f_Reader_is_end (T : Tx K mg) : ∃ fd, FunD K "is_end" "Reader.is_end" (defArgs s_Reader_is_end) (defBody s_Reader_is_end) (defScope s_Reader_is_end) [] [] (He.ma K (He.ga K "Reader") "is_end") fd := T.c.d.def_ 56 rfl
theorem f_Reader_take_word (T : Tx K mg) : ∃ fd, FunD K "take_word" "Reader.take_word" (defArgs s_Reader_take_word) (defBody s_Reader_take_word) (defScope s_Reader_take_word) [] [] (He.ma K (He.ga K "Reader") "take_word") fd := T.c.d.def_ 57 rfl
theorem f_Reader_take_sign (T : Tx K mg) : ∃ fd, FunD K "take_sign" "Reader.take_sign" (defArgs s_Reader_take_sign) (defBody s_Reader_take_sign) (defScope s_Reader_take_sign) [] [] (He.ma K (He.ga K "Reader") "take_sign") fd := T.c.d.def_ 58 rfl
theorem f_Reader_name_here (T : Tx K mg) : ∃ fd, FunD K "name_here" "Reader.name_here" (defArgs s_Reader_name_here) (defBody s_Reader_name_here) (defScope s_Reader_name_here) [] [] (He.ma K (He.ga K "Reader") "name_here") fd := T.c.d.def_ 59 rfl
theorem f_Reader_new_name (T : Tx K mg) : ∃ fd, FunD K "new_name" "Reader.new_name" (defArgs s_Reader_new_name) (defBody s_Reader_new_name) (defScope s_Reader_new_name) [] [] (He.ma K (He.ga K "Reader") "new_name") fd := T.c.d.def_ 60 rfl
theorem f_Reader_old_item (T : Tx K mg) : ∃ fd, FunD K "old_item" "Reader.old_item" (defArgs s_Reader_old_item) (defBody s_Reader_old_item) (defScope s_Reader_old_item) [] [] (He.ma K (He.ga K "Reader") "old_item") fd := T.c.d.def_ 61 rfl
theorem f_Reader_unknown (T : Tx K mg) : ∃ fd, FunD K "unknown" "Reader.unknown" (defArgs s_Reader_unknown) (defBody s_Reader_unknown) (defScope s_Reader_unknown) [] [] (He.ma K (He.ga K "Reader") "unknown") fd := T.c.d.def_ 62 rfl
theorem f_Reader_go_within (T : Tx K mg) : ∃ fd, FunD K "go_within" "Reader.go_within" (defArgs s_Reader_go_within) (defBody s_Reader_go_within) (defScope s_Reader_go_within) [] [] (He.ma K (He.ga K "Reader") "go_within") fd := T.c.d.def_ 63 rfl
theorem f_Reader_part (T : Tx K mg) : ∃ fd, FunD K "part" "Reader.part" (defArgs s_Reader_part) (defBody s_Reader_part) (defScope s_Reader_part) [] [] (He.ma K (He.ga K "Reader") "part") fd := T.c.d.def_ 64 rfl
theorem f_Reader_chain (T : Tx K mg) : ∃ fd, FunD K "chain" "Reader.chain" (defArgs s_Reader_chain) (defBody s_Reader_chain) (defScope s_Reader_chain) [] [] (He.ma K (He.ga K "Reader") "chain") fd := T.c.d.def_ 65 rfl
theorem f_Reader_formula (T : Tx K mg) : ∃ fd, FunD K "formula" "Reader.formula" (defArgs s_Reader_formula) (defBody s_Reader_formula) (defScope s_Reader_formula) [] [] (He.ma K (He.ga K "Reader") "formula") fd := T.c.d.def_ 66 rfl
theorem f_Reader_axiom (T : Tx K mg) : ∃ fd, FunD K "axiom" "Reader.axiom" (defArgs s_Reader_axiom) (defBody s_Reader_axiom) (defScope s_Reader_axiom) [] [] (He.ma K (He.ga K "Reader") "axiom") fd := T.c.d.def_ 67 rfl
theorem f_Reader_row (T : Tx K mg) : ∃ fd, FunD K "row" "Reader.row" (defArgs s_Reader_row) (defBody s_Reader_row) (defScope s_Reader_row) [] [] (He.ma K (He.ga K "Reader") "row") fd := T.c.d.def_ 68 rfl
theorem f_Reader_goal (T : Tx K mg) : ∃ fd, FunD K "goal" "Reader.goal" (defArgs s_Reader_goal) (defBody s_Reader_goal) (defScope s_Reader_goal) [] [] (He.ma K (He.ga K "Reader") "goal") fd := T.c.d.def_ 69 rfl
theorem f_read_text (T : Tx K mg) : ∃ fd, FunD K "read_text" "read_text" (defArgs s_read_text) (defBody s_read_text) (defScope s_read_text) [] [] (He.ga K "read_text") fd := T.c.d.def_ 70 rfl
theorem f_detached_of (T : Tx K mg) : ∃ fd, FunD K "detached_of" "detached_of" (defArgs s_detached_of) (defBody s_detached_of) (defScope s_detached_of) [] [] (He.ga K "detached_of") fd := T.c.d.def_ 71 rfl
theorem f_merged (T : Tx K mg) : ∃ fd, FunD K "merged" "merged" (defArgs s_merged) (defBody s_merged) (defScope s_merged) [] [] (He.ga K "merged") fd := T.c.d.def_ 72 rfl
theorem f_kept (T : Tx K mg) : ∃ fd, FunD K "kept" "kept" (defArgs s_kept) (defBody s_kept) (defScope s_kept) [] [] (He.ga K "kept") fd := T.c.d.def_ 73 rfl
theorem f_shortened (T : Tx K mg) : ∃ fd, FunD K "shortened" "shortened" (defArgs s_shortened) (defBody s_shortened) (defScope s_shortened) [] [] (He.ga K "shortened") fd := T.c.d.def_ 74 rfl
theorem f_counted (T : Tx K mg) : ∃ fd, FunD K "counted" "counted" (defArgs s_counted) (defBody s_counted) (defScope s_counted) [] [] (He.ga K "counted") fd := T.c.d.def_ 75 rfl
theorem f_load (T : Tx K mg) : ∃ fd, FunD K "load" "load" (defArgs s_load) (defBody s_load) (defScope s_load) [] [] (He.ga K "load") fd := T.c.d.def_ 76 rfl
theorem f_prune (T : Tx K mg) : ∃ fd, FunD K "prune" "prune" (defArgs s_prune) (defBody s_prune) (defScope s_prune) [] [] (He.ga K "prune") fd := T.c.d.def_ 77 rfl
theorem f_general (T : Tx K mg) : ∃ fd, FunD K "general" "general" (defArgs s_general) (defBody s_general) (defScope s_general) [] [] (He.ga K "general") fd := T.c.d.def_ 78 rfl
theorem f_shorten (T : Tx K mg) : ∃ fd, FunD K "shorten" "shorten" (defArgs s_shorten) (defBody s_shorten) (defScope s_shorten) [] [] (He.ga K "shorten") fd := T.c.d.def_ 79 rfl
theorem f_order (T : Tx K mg) : ∃ fd, FunD K "order" "order" (defArgs s_order) (defBody s_order) (defScope s_order) [] [] (He.ga K "order") fd := T.c.d.def_ 80 rfl
theorem f_least (T : Tx K mg) : ∃ fd, FunD K "least" "least" (defArgs s_least) (defBody s_least) (defScope s_least) [] [] (He.ga K "least") fd := T.c.d.def_ 81 rfl
theorem f_totals (T : Tx K mg) : ∃ fd, FunD K "totals" "totals" (defArgs s_totals) (defBody s_totals) (defScope s_totals) [] [] (He.ga K "totals") fd := T.c.d.def_ 82 rfl
theorem f_answer (T : Tx K mg) : ∃ fd, FunD K "answer" "answer" (defArgs s_answer) (defBody s_answer) (defScope s_answer) [] [] (He.ga K "answer") fd := T.c.d.def_ 83 rfl
theorem f_read_call (T : Tx K mg) : ∃ fd, FunD K "read_call" "read_call" (defArgs s_read_call) (defBody s_read_call) (defScope s_read_call) [] [] (He.ga K "read_call") fd := T.c.d.def_ 84 rfl
theorem f_answers (T : Tx K mg) : ∃ fd, FunD K "answers" "answers" (defArgs s_answers) (defBody s_answers) (defScope s_answers) [] [] (He.ga K "answers") fd := T.c.d.def_ 85 rfl
end
end SPW
end
section
set_option Elab.async false
set_option linter.all false
set_option maxRecDepth 100000
set_option maxHeartbeats 0
namespace SPW
open PySem PySem.Spec PyProof.Rows L2
abbrev R : PySem.W.OpenSpec := PySem.Challenge.rw_shortproofs_s01_answers
/-- what an object names, as far as it is asked for -/
def refs1 (o : Obj) : List Addr := match o.data with
  | .dict es _ => es.toList.flatMap fun e => He.refV e.val
  | .func fd => He.refV fd.code
  | .cls cd => [cd.ns]
  | _ => []
def refsG (g : Addr → Option Obj) (as : List Addr) : List Addr := as.flatMap fun a => match g a with
  | some o => refs1 o
  | none => []
def allG (g : Addr → Option Obj) (a1 : List Addr) : List Addr :=
  (fun a2 => (fun a3 => a1 ++ (a2 ++ (a3 ++ refsG g a3))) (refsG g a2)) (refsG g a1)
def asY (g : Addr → Option Obj) : List Addr := mainGlobals :: allG g (refsG g [mainGlobals])
abbrev AlY : Type := He.AlD × Bool
def obsK (K : PySem.W.Frag) : AlY := (He.obsD fa fn K, ex K)
def obsY (g : Addr → Option Obj) : AlY := obsK (He.frG g (asY g))
def valY : AlY := (He.valD fn, true)
def hk : PySem.W.Hook where
  α := AlY
  obs := fun s => obsY s.heap.get?
  val := fun _ => valY
  says := fun _ h => ∃ K : PySem.W.Frag, K.In h ∧ SaysY K
  of := fun _ _ e => ⟨_, He.frG_in, congrArg (fun z : AlY => z.1) e, congrArg (fun z : AlY => z.2) e⟩
  keeps := fun _ _ _ ⟨K, hK, c⟩ k => ⟨K, PySem.W.Frag.In.keeps hK k, c⟩
def ob (s : PySem.W.SharedT) : AlY := obsY (HandSHeadRun.getT s)
theorem ob_eq (s : PySem.W.SharedT) : ob s = hk.obs s.abs := by
  have e : HandSHeadRun.getT s = s.abs.heap.get? := funext (HandSHeadRun.getT_eq s)
  show obsY (HandSHeadRun.getT s) = obsY s.abs.heap.get?
  rw [e]
def loose_0 : List PySem.Str := ["UNKNOWN", "IMPLIES", "DENIED", "NO_FORMULA", "sign_places", "unknown_places", "unknowns", "count_signs", "part_end", "parts", "numbered", "shifted", "is_instance", "first_general", "codes", "guarded", "written", "axiom_line", "row_line", "goal_line", "one_form", "MOST_FIRST", "MOST_DETACHED", "APART", "Puts", "detached", "ProofText", "are_items", "pair_of", "needed"]
def loose_1 : List PySem.Str := ["targets", "total_steps", "MOST_ROWS_places", "NO_WAY", "is_ready", "is_used", "places", "order_answer", "done_rows", "free", "least_peaks", "next_place", "first_order", "least_answer", "MOST_BYTES", "MOST_IN_NAME", "MOST_DIGITS", "MOST_NUMBER", "NAME", "WORD", "NUMBER", "SIGN", "END", "AXIOM", "ROW", "GOAL", "WORDS", "OPENING", "CLOSING", "COMMA"]
def loose_2 : List PySem.Str := ["COLON", "SEMICOLON", "GREATER", "TILDE", "SIGNS", "BLANKS", "REMARK", "LINE_END", "ZERO", "Fault", "is_letter", "is_digit", "remark_end", "name_end", "number_end", "value_of", "name_token", "number_token", "token_at", "scan", "MOST_AXIOMS", "MOST_ROWS_reader", "MOST_GOALS", "MOST_SIGNS", "MOST_WITHIN", "Reader", "read_text", "NOTHING", "detached_of", "merged"]
def loose_3 : List PySem.Str := ["kept", "shortened", "LOAD", "SHOWN", "PRUNE", "GENERAL", "SHORTEN", "SHORT", "ORDER", "LEAST", "NUMBERS", "LISTS", "counted", "load", "prune", "general", "shorten", "order", "least", "totals", "answer", "read_call"]
def loose : List PySem.Str := loose_0 ++ (loose_1 ++ (loose_2 ++ (loose_3)))
abbrev qv : Program := PySem.W.view R.prog [121]
theorem run (w : World) : HandSHeadRun.RunEqS R qv hk ob 6000 loose w := by
  intro os
  kernel_rfl
end SPW
end
section
set_option Elab.async false
set_option linter.all false
set_option maxRecDepth 100000
set_option maxHeartbeats 0
namespace SPW
open PySem PySem.W PySem.Calls PyProof.Rows
abbrev dAns : DefRec := HandSHeadRun.topDef R.prog 121
theorem z_opening : opening R.prog = plainProg R.prog.main.scope.names := by kernel_rfl
theorem z_fence (s : Shared) : fenceModules? R.prog s = some s := by kernel_rfl
theorem z_def : defOf qv R.name = some (dAns, []) := by kernel_rfl
theorem z_the : R.prog.theDef R.name = some (dAns.params, dAns.body, dAns.scope) := by kernel_rfl
theorem z_kw : kwWritten? dAns.params.kwonlyargs dAns.params.kw_defaults = some [] := by kernel_rfl
theorem z_said : R.wellSaid = true := by decide +kernel
theorem z_ok : (chainsOk qv && opensWell R.prog) = true := by decide +kernel
theorem z_bare : R.prog.bare := ⟨rfl, rfl, rfl, rfl, rfl, by decide +kernel⟩
theorem z_some : ∃ args, R.pre args = true ∧ WData.layableAll args = true := ⟨[.list [.int 1]], by decide +kernel, by decide +kernel⟩
theorem z_name : dAns.name = ("answers" : PySem.Str) := by kernel_rfl
end SPW
end
section
set_option Elab.async false
set_option linter.all false
set_option maxRecDepth 100000
set_option maxHeartbeats 4000000
namespace SPW
open PySem PySem.Spec PyProof.Rows L2
/-! ### a def, a method that keeps a promise -/
structure GFn (P : Program) (w : World) (K : PySem.W.Frag) (mg : Str → Option Value) (base : Heap) (CX : CXT) (k : Nat) (x : Str) (ps : List Str) (sp : Sp) : Prop where
  ex : ∃ (f : Addr) (fd : FuncData), mg x = some (.ref f) ∧ PySem.W.keepIn K (.ref f) = true ∧ Binds K fd ps [] ∧ FnOk P w K mg base CX k f fd ps sp
structure GMe (P : Program) (w : World) (K : PySem.W.Frag) (mg : Str → Option Value) (base : Heap) (CX : CXT) (k : Nat) (C : Addr) (m : Str) (ps : List Str) (sp : Sp) : Prop where
  ex : ∃ (f : Addr) (fd : FuncData), Meth K C m f ∧ Binds K fd ps [] ∧ FnOk P w K mg base CX k f fd ps sp
/-- a class that is made by its own __init__ -/
structure GMk (P : Program) (w : World) (K : PySem.W.Frag) (mg : Str → Option Value) (base : Heap) (CX : CXT) (k : Nat) (x : Str) (C : Addr) (ps : List Str) (sp : Sp) : Prop where
  ex : ∃ (f : Addr) (fd : FuncData), Mk K C f ∧ mg x = some (.ref C) ∧ Binds K fd ps [] ∧ FnOk P w K mg base CX k f fd ps sp
section
variable {P : Program} {w : World} {K : PySem.W.Frag} {mg : Str → Option Value} {base : Heap}
/-- the body of a def that lets nothing out -/
abbrev Body0 (P : Program) (w : World) (K : PySem.W.Frag) (mg : Str → Option Value) (base : Heap) (k : Nat) (q : Str) (st : Stmt) (N : List Str) (sp : Sp) : Prop :=
  ∀ (f : Addr) (cdv : Value) (A : Around) (outer : List Env) (s : Shared) (H : Hp) (vs : List V) (Q : VK) (E : XK), Room k (A.deeper (envOfC q (defScope st) s.heap.objs.size f cdv)) → sp vs H Q E →
    ∃ t, PSs (cxOf CX0 P w K mg base N q (defScope st) f cdv A outer s H E).nox (defBody st) t ∧ t { nx := fun _ H' => Q .non H', rt := Q } (start N vs) H
/-- of one that may raise -/
abbrev BodyX (P : Program) (w : World) (K : PySem.W.Frag) (mg : Str → Option Value) (base : Heap) (k : Nat) (q : Str) (st : Stmt) (N : List Str) (sp : Sp) : Prop :=
  ∀ (f : Addr) (cdv : Value) (A : Around) (outer : List Env) (s : Shared) (H : Hp) (vs : List V) (Q : VK) (E : XK), Room k (A.deeper (envOfC q (defScope st) s.heap.objs.size f cdv)) → sp vs H Q E →
    ∃ t, PSs (cxOf (L2.CX P w) P w K mg base N q (defScope st) f cdv A outer s H E) (defBody st) t ∧ t { nx := fun _ H' => Q .non H', rt := Q } (start N vs) H
abbrev BindF (x q : Str) (st : Stmt) (ps : List Str) : Prop :=
  ∀ (kV doc pm : Value) (an : Option Addr) (cdv ct : Value) (us : List Value), us.length = ps.length → bindArgs (PySem.W.fnOf x q (defArgs st) (defBody st) (defScope st) .none kV doc pm an cdv ct) ⟨us, []⟩ = pure (ps.zip us)
theorem fn0 {x q : Str} {st : Stmt} {f : Addr} {fd : FuncData} {N ps : List Str} {k : Nat} {sp : Sp} (F : FunD K x q (defArgs st) (defBody st) (defScope st) [] [] f fd) (S : FnScope N ps (defScope st)) (len : ∀ vs H Q E, sp vs H Q E → vs.length = ps.length)
    (body : Body0 P w K mg base k q st N sp) : FnOk P w K mg base CX0 (k + 1) f fd ps sp :=
  F.ok S len fun cdv A outer s H vs Q E hr h => by
    obtain ⟨t, h1, h2⟩ := body f cdv A outer s H vs Q E hr h
    exact ⟨t, h1.nox, h2⟩
theorem gfn0 {x : Str} {st : Stmt} {f : Addr} {N ps : List Str} {k : Nat} {sp : Sp} (h : ∃ fd, FunD K x x (defArgs st) (defBody st) (defScope st) [] [] f fd) (hm : mg x = some (.ref f)) (S : FnScope N ps (defScope st)) (bd : BindF x x st ps)
    (len : ∀ vs H Q E, sp vs H Q E → vs.length = ps.length) (body : Body0 P w K mg base k x st N sp) : GFn P w K mg base CX0 (k + 1) x ps sp := by
  obtain ⟨fd, F⟩ := h
  exact ⟨f, fd, hm, F.kp, F.bindsN bd, fn0 F S len body⟩
theorem gfnX {x : Str} {st : Stmt} {f : Addr} {N ps : List Str} {k : Nat} {sp : Sp} (h : ∃ fd, FunD K x x (defArgs st) (defBody st) (defScope st) [] [] f fd) (hm : mg x = some (.ref f)) (S : FnScope N ps (defScope st)) (bd : BindF x x st ps)
    (len : ∀ vs H Q E, sp vs H Q E → vs.length = ps.length) (body : BodyX P w K mg base k x st N sp) : GFn P w K mg base (L2.CX P w) (k + 1) x ps sp := by
  obtain ⟨fd, F⟩ := h
  exact ⟨f, fd, hm, F.kp, F.bindsN bd, F.ok S len fun cdv A outer s H vs Q E hr h => body f cdv A outer s H vs Q E hr h⟩
theorem gme0 {C f : Addr} {m q : Str} {st : Stmt} {N ps : List Str} {k : Nat} {sp : Sp} (h : ∃ fd, FunD K m q (defArgs st) (defBody st) (defScope st) [] [] f fd) (hm : Meth K C m f) (S : FnScope N ps (defScope st)) (bd : BindF m q st ps)
    (len : ∀ vs H Q E, sp vs H Q E → vs.length = ps.length) (body : Body0 P w K mg base k q st N sp) : GMe P w K mg base CX0 (k + 1) C m ps sp := by
  obtain ⟨fd, F⟩ := h
  exact ⟨f, fd, hm, F.bindsN bd, fn0 F S len body⟩
theorem gmeX {C f : Addr} {m q : Str} {st : Stmt} {N ps : List Str} {k : Nat} {sp : Sp} (h : ∃ fd, FunD K m q (defArgs st) (defBody st) (defScope st) [] [] f fd) (hm : Meth K C m f) (S : FnScope N ps (defScope st)) (bd : BindF m q st ps)
    (len : ∀ vs H Q E, sp vs H Q E → vs.length = ps.length) (body : BodyX P w K mg base k q st N sp) : GMe P w K mg base (L2.CX P w) (k + 1) C m ps sp := by
  obtain ⟨fd, F⟩ := h
  exact ⟨f, fd, hm, F.bindsN bd, F.ok S len fun cdv A outer s H vs Q E hr h => body f cdv A outer s H vs Q E hr h⟩
theorem gmk0 {C f : Addr} {x q : Str} {st : Stmt} {N ps : List Str} {k : Nat} {sp : Sp} (h : ∃ fd, FunD K "__init__" q (defArgs st) (defBody st) (defScope st) [] [] f fd) (hk : Mk K C f) (hm : mg x = some (.ref C)) (S : FnScope N ps (defScope st)) (bd : BindF "__init__" q st ps)
    (len : ∀ vs H Q E, sp vs H Q E → vs.length = ps.length) (body : Body0 P w K mg base k q st N sp) : GMk P w K mg base CX0 (k + 1) x C ps sp := by
  obtain ⟨fd, F⟩ := h
  exact ⟨f, fd, hk, hm, F.bindsN bd, fn0 F S len body⟩
end
section
variable {X : Cx} {CX : CXT} {k : Nat} {x m : Str} {C : Addr} {ps : List Str} {sp : Sp} {E : XK} {p pos apos : Pos} {o e : Expr} {es : List Expr} {ta : TE} {t : TA}
theorem pe_fn (G : GFn X.prog X.w X.K X.mg X.base CX k x ps sp) (hr : Room k X.A) (hx : Passes CX X E) (ha : PA X (e :: es) t) (hg : Gl X x := by rfl) (hdb : (x == ("__debug__" : Str)) = false := by decide)
    (he : starEach (e :: es) X.env = (false, eval e X.env) :: starEach es X.env := by rfl) (hpl : (backTo pos (starEach es X.env)).any (·.1) = false := by rfl) :
    PE X (.Call (.Name x p) (e :: es) [] pos) (tCall sp [] E t) := by
  obtain ⟨f, fd, hm, hk, hb, F⟩ := G.ex
  exact pe_call F hr hg hm hk hb .nil hx ha hdb he hpl
theorem pe_me {pl : Sem Bool} (he : PE X o ta) (c : Cls X.K C) (G : GMe X.prog X.w X.K X.mg X.base CX k C m ps sp) (hr : Room k X.A) (hx : Passes CX X E) (ha : PA X (e :: es) t)
    (hst : starEach (e :: es) X.env = (false, eval e X.env) :: starEach es X.env := by rfl) (hpl : (backTo pos (starEach es X.env)).any (·.1) = false := by rfl)
    (ht : eval (.Call (.Attribute o m apos) (e :: es) [] pos) X.env = (do
      let ov ← eval o X.env
      standAt apos.atName
      let (f, first) ← holding [ov] (getMethod ov m pl)
      callWith pos f first (backTo pos (starEach (e :: es) X.env)) (backToKw pos (keywordEach [] X.env))) := by rfl) :
    PE X (.Call (.Attribute o m apos) (e :: es) [] pos) (tMeth C m sp [] E ta t) := by
  obtain ⟨f, fd, hm, hb, F⟩ := G.ex
  exact pe_meth he c hm F hr hb .nil hx ha hst hpl ht
theorem pe_me0 {pl : Sem Bool} (he : PE X o ta) (c : Cls X.K C) (G : GMe X.prog X.w X.K X.mg X.base CX k C m ps sp) (hr : Room k X.A) (hx : Passes CX X E)
    (ht : eval (.Call (.Attribute o m apos) [] [] pos) X.env = (do
      let ov ← eval o X.env
      standAt apos.atName
      let (f, first) ← holding [ov] (getMethod ov m pl)
      callWith pos f first (backTo pos (starEach [] X.env)) (backToKw pos (keywordEach [] X.env))) := by rfl) :
    PE X (.Call (.Attribute o m apos) [] [] pos) (tMeth C m sp [] E ta tNil) := by
  obtain ⟨f, fd, hm, hb, F⟩ := G.ex
  exact pe_meth0 he c hm F hr hb .nil hx ht
theorem pe_mk (G : GMk X.prog X.w X.K X.mg X.base CX k x C ps sp) (hr : Room (k + 1) X.A) (hx : Passes CX X E) (ha : PA X (e :: es) t) (hg : Gl X x := by rfl) (hdb : (x == ("__debug__" : Str)) = false := by decide)
    (he : starEach (e :: es) X.env = (false, eval e X.env) :: starEach es X.env := by rfl) (hpl : (backTo pos (starEach es X.env)).any (·.1) = false := by rfl) :
    PE X (.Call (.Name x p) (e :: es) [] pos) (tMake C sp [] E t) := by
  obtain ⟨f, fd, M, hm, hb, F⟩ := G.ex
  exact pe_make M F hr hg hm hb .nil hx ha hdb he hpl
theorem pe_mk0 (G : GMk X.prog X.w X.K X.mg X.base CX k x C ps sp) (hr : Room (k + 1) X.A) (hx : Passes CX X E) (hg : Gl X x := by rfl) (hdb : (x == ("__debug__" : Str)) = false := by decide) :
    PE X (.Call (.Name x p) [] [] pos) (tMake C sp [] E tNil) := by
  obtain ⟨f, fd, M, hm, hb, F⟩ := G.ex
  exact pe_make0 M F hr hg hm hb .nil hx hdb
/-- a constant of the module: a whole number, a thing at an address -/
theorem pe_ci {i : Int} (h : ∃ t, X.mg x = some (.int i t)) (hg : Gl X x := by rfl) (hd : (x == ("__debug__" : Str)) = false := by decide) : PE X (.Name x pos) (tC (.int i)) := by
  obtain ⟨t, h⟩ := h
  exact pe_glob hg h ⟨t, rfl⟩ hd
theorem pe_ca {a : Addr} (h : X.mg x = some (.ref a)) (hg : Gl X x := by rfl) (hd : (x == ("__debug__" : Str)) = false := by decide) : PE X (.Name x pos) (tC (.ref a)) := pe_glob hg h rfl hd
end
/-! ### heaps -/
theorem _root_.L2.Same.new {H : Hp} {p : Addr} {o : HO} (h : H p = none) : Same H (upd H p o) := fun a u e => by
  rw [upd_ne (ne_of_none e h)]
  exact e
/-- an object that H doesn't know is changed -/
theorem _root_.L2.Same.mut {H H' : Hp} {p : Addr} {o : HO} (e : Same H H') (h : H p = none) : Same H (upd H' p o) := fun a u ha => by
  rw [upd_ne (ne_of_none ha h)]
  exact e a u ha
theorem _root_.L2.Same.tup {K : PySem.W.Frag} {H H' : Hp} {a : Addr} {xs : List V} (e : Same H H') (h : SqT K H a xs) : SqT K H' a xs := by
  rcases h with (h | ⟨o, h⟩) | h
  · exact .inl (.inl (e _ _ h))
  · exact .inl (.inr ⟨o, e _ _ h⟩)
  · exact .inr h
def vis (l : List Int) : List V := l.map V.int
theorem vis_nil : vis [] = [] := rfl
theorem vis_len (l : List Int) : (vis l).length = l.length := List.length_map _
theorem vis_append (l k : List Int) : vis (l ++ k) = vis l ++ vis k := List.map_append
theorem vis_snoc (l : List Int) (i : Int) : vis l ++ [V.int i] = vis (l ++ [i]) := by simp [vis]
theorem vis_get {l : List Int} {j : Nat} {i : Int} (h : l[j]? = some i) : (vis l)[j]? = some (V.int i) := by simp [vis, h]
theorem vis_at {l : List Int} {j : Nat} {i : Int} (h : l[j]? = some i) : atI (vis l) (j : Int) = some (V.int i) := atI_nat (vis_get h)
theorem vis_inv {l : List Int} {j : Nat} {x : V} (h : (vis l)[j]? = some x) : ∃ i, l[j]? = some i ∧ x = V.int i := by
  simp only [vis, List.getElem?_map] at h
  cases e : l[j]? with
  | none => rw [e] at h; cases h
  | some i => rw [e] at h; exact ⟨i, rfl, (Option.some.inj h).symm⟩
theorem small_size {n : Nat} (h : n ≤ 16777216) : n ≤ sizeLine := by rw [sizeLine_eq]; exact h
theorem small_lt {n : Nat} (h : n < 16777216) : n < sizeLine := by rw [sizeLine_eq]; exact h
/-! ### tests -/
theorem if_true_of {c : Bool} {A B : Prop} (hc : c = true) (h : A) : if c = true then A else B := by
  rw [if_pos hc]
  exact h
theorem if_false_of {c : Bool} {A B : Prop} (hc : c = false) (h : B) : if c = true then A else B := by
  rw [hc, if_neg Bool.false_ne_true]
  exact h
/-- a while: W holds ahead of each turn, what is counted falls -/
theorem wh_of {c : TT} {tb : TS} {D : Ends} {σ : L2.St} {H : Hp} (W : Nat → L2.St → Hp → Prop) (m0 : Nat) (w0 : W m0 σ H)
    (turn : ∀ m σ H, W m σ H → ∀ N : L2.St → Hp → Prop, (∀ m' σ' H', m' < m → W m' σ' H' → N σ' H') →
      c σ H fun b H1 => if b = true then tb { D with nx := N, ct := N, bk := D.nx } σ H1 else D.nx σ H1)
    (mono : ∀ σ H Q Q', (∀ b H1, Q b H1 → Q' b H1) → c σ H Q → c σ H Q') : tWhile c tb D σ H := by
  refine ⟨W, ⟨m0, w0⟩, fun m σ H h => ?_⟩
  refine mono σ H _ _ (fun b H1 q => ?_) (turn m σ H h (fun σ' H' => ∃ m', m' < m ∧ W m' σ' H') fun m' σ' H' l w => ⟨m', l, w⟩)
  cases b with
  | true => exact ⟨_, fun σ' H' n => n, q⟩
  | false => exact q
/-- the same for a def's own N: written so that no monotony is asked -/
theorem wh_by {c : TT} {tb : TS} {D : Ends} {σ : L2.St} {H : Hp} (W : Nat → L2.St → Hp → Prop) (m0 : Nat) (w0 : W m0 σ H)
    (turn : ∀ m σ H, W m σ H → c σ H fun b H1 => if b = true then ∃ N : L2.St → Hp → Prop, (∀ σ' H', N σ' H' → ∃ m', m' < m ∧ W m' σ' H') ∧ tb { D with nx := N, ct := N, bk := D.nx } σ H1 else D.nx σ H1) : tWhile c tb D σ H :=
  ⟨W, ⟨m0, w0⟩, turn⟩
end SPW
end
section
set_option Elab.async false
set_option linter.all false
set_option maxRecDepth 100000
set_option maxHeartbeats 4000000
namespace SPW
open PySem PySem.Spec PyProof.Rows L2
def vn (l : List Nat) : List V := List.map (fun n : Nat => V.int (n : Int)) l
theorem vn_len (l : List Nat) : (vn l).length = l.length := List.length_map _
theorem vn_snoc (l : List Nat) (i : Nat) : vn l ++ [V.int (i : Int)] = vn (l ++ [i]) := by simp [vn]
theorem vn_get {l : List Nat} {j i : Nat} (h : l[j]? = some i) : (vn l)[j]? = some (V.int (i : Int)) := by simp [vn, h]
theorem vn_inv {l : List Nat} {j : Nat} {x : V} (h : (vn l)[j]? = some x) : ∃ i : Nat, l[j]? = some i ∧ x = V.int (i : Int) := by
  simp only [vn, List.getElem?_map] at h
  cases e : l[j]? with
  | none => rw [e] at h; cases h
  | some i => rw [e] at h; exact ⟨i, rfl, (Option.some.inj h).symm⟩
theorem vn_vis (l : List Nat) : vn l = vis (List.map (fun n : Nat => (n : Int)) l) := by simp [vn, vis]
theorem vis_map (l : List Int) : vis l = l.map V.int := rfl
theorem int_ne {i j : Int} (h : i ≠ j) : decide (V.int i = V.int j) = false := decide_eq_false fun e => h (V.int.inj e)
theorem int_eq (i : Int) : decide (V.int i = V.int i) = true := decide_eq_true rfl
theorem int_dec (i j : Int) : decide (V.int i = V.int j) = decide (i = j) := by
  by_cases e : i = j
  · subst e; simp
  · rw [int_ne e, decide_eq_false e]
/-- what stands at a place -/
theorem drop_at {A : Type} {l : List A} {i : Nat} {x : A} {r : List A} (h : l.drop i = x :: r) : l[i]? = some x ∧ l.drop (i + 1) = r ∧ i < l.length := by
  have h0 : l[i]? = some x := by
    have : (l.drop i)[0]? = some x := by rw [h]; rfl
    rw [List.getElem?_drop] at this
    simpa using this
  refine ⟨h0, ?_, (List.getElem?_eq_some_iff.mp h0).1⟩
  have := congrArg (List.drop 1) h
  rw [List.drop_drop] at this
  simpa using this
theorem take_more {A : Type} {l : List A} {i : Nat} {x : A} (h : l[i]? = some x) : l.take (i + 1) = l.take i ++ [x] := by
  rw [List.take_add_one, h]
  rfl
/-! ### tuples of numbers compared -/
def dI (l : List Int) : PyData := .tuple (l.map .int)
theorem lay_ints : ∀ l : List Int, PyData.canLayAll0 (l.map PyData.int) = true
  | [] => by simp [PyData.canLayAll0]
  | i :: l => by simp [PyData.canLayAll0, PyData.canLay0, lay_ints l]
theorem depth_ints : ∀ l : List Int, PyData.depthAll (l.map PyData.int) ≤ 1
  | [] => by simp [PyData.depthAll]
  | i :: l => by have := depth_ints l; simp [PyData.depthAll, PyData.depth, this]
theorem dI_depth (l : List Int) : (dI l).depth ≤ 2 := by have := depth_ints l; simp only [dI, PyData.depth]; omega
theorem dI_lay (l : List Int) : (dI l).canLay0 = true := by simp only [dI, PyData.canLay0]; exact lay_ints l
theorem dI_shaped (l : List Int) : SeqAt.shaped (dI l) = true := by
  have := dI_depth l
  show ((dI l).canLay0 && decide ((dI l).depth ≤ 64)) = true
  rw [dI_lay, decide_eq_true (by omega)]
  rfl
theorem eqv_ints : ∀ l k : List Int, PyData.eqvAll (l.map PyData.int) (k.map PyData.int) = decide (l = k)
  | [], [] => by simp [PyData.eqvAll]
  | [], _ :: _ => by simp [PyData.eqvAll]
  | _ :: _, [] => by simp [PyData.eqvAll]
  | i :: l, j :: k => by
    simp only [List.map_cons, PyData.eqvAll, PyData.eqv, eqv_ints l k]
    by_cases e : i = j
    · subst e; simp
    · have : (i == j) = false := by simpa using e
      simp [this, e]
theorem eqv_dI (l k : List Int) : PyData.eqv (dI l) (dI k) = decide (l = k) := by
  simp only [dI, PyData.eqv]
  exact eqv_ints l k
theorem dp_ints {K : PySem.W.Frag} {H : Hp} : ∀ l : List Int, DpAll K H (vis l) (l.map PyData.int)
  | [] => .nil
  | i :: l => .cons (.int i) (dp_ints l)
theorem dp_tup {K : PySem.W.Frag} {H : Hp} {a : Addr} {l : List Int} (h : SqT K H a (vis l)) : Dp K H (.ref a) (dI l) := .tup h (dp_ints l)
theorem dp_lst {K : PySem.W.Frag} {H : Hp} {a : Addr} {l : List Int} (h : SqL K H a (vis l)) : Dp K H (.ref a) (.list (l.map .int)) := .lst h (dp_ints l)
theorem lI_shaped (l : List Int) : SeqAt.shaped (.list (l.map .int)) = true := by
  have := depth_ints l
  have h2 : PyData.depth (.list (l.map .int)) ≤ 64 := by simp only [PyData.depth]; omega
  show (PyData.canLay0 (.list (l.map .int)) && decide (PyData.depth (.list (l.map .int)) ≤ 64)) = true
  rw [decide_eq_true h2]
  simp only [PyData.canLay0, lay_ints l, Bool.and_self]
theorem eqv_lI (l k : List Int) : PyData.eqv (.list (l.map .int)) (.list (k.map .int)) = decide (l = k) := by
  simp only [PyData.eqv]
  exact eqv_ints l k
/-! ### many tuples of numbers -/
/-- at these addresses stand tuples of these numbers -/
def TupsAt (K : PySem.W.Frag) (H : Hp) (as : List Addr) (ls : List (List Int)) : Prop := Paired (fun a l => SqT K H a (vis l)) as ls
theorem TupsAt.same {K : PySem.W.Frag} {H H' : Hp} (e : Same H H') : ∀ {as : List Addr} {ls : List (List Int)}, TupsAt K H as ls → TupsAt K H' as ls
  | _, _, .nil => .nil
  | _, _, .cons h t => .cons (e.tup h) (TupsAt.same e t)
theorem TupsAt.len {K : PySem.W.Frag} {H : Hp} {as : List Addr} {ls : List (List Int)} (h : TupsAt K H as ls) : as.length = ls.length := Paired.length h
theorem TupsAt.get {K : PySem.W.Frag} {H : Hp} : ∀ {as : List Addr} {ls : List (List Int)} {i : Nat} {a : Addr}, TupsAt K H as ls → as[i]? = some a → ∃ l, ls[i]? = some l ∧ SqT K H a (vis l)
  | _, _, i, a, .nil, e => by simp at e
  | _, _, 0, a, .cons h t, e => by simp at e; subst e; exact ⟨_, rfl, h⟩
  | _, _, i + 1, a, .cons h t, e => by
    obtain ⟨l, h1, h2⟩ := TupsAt.get (i := i) (a := a) t (by simpa using e)
    exact ⟨l, by simpa using h1, h2⟩
theorem TupsAt.get' {K : PySem.W.Frag} {H : Hp} {as : List Addr} {ls : List (List Int)} {i : Nat} {l : List Int} (h : TupsAt K H as ls) (e : ls[i]? = some l) : ∃ a, as[i]? = some a ∧ SqT K H a (vis l) := by
  have hi : i < as.length := by rw [h.len]; exact (List.getElem?_eq_some_iff.mp e).1
  have e2 : as[i]? = some as[i] := List.getElem?_eq_getElem hi
  obtain ⟨l', h1, h2⟩ := h.get e2
  rw [e] at h1
  cases h1
  exact ⟨_, e2, h2⟩
theorem TupsAt.snoc {K : PySem.W.Frag} {H : Hp} {a : Addr} {l : List Int} (ha : SqT K H a (vis l)) : ∀ {as : List Addr} {ls : List (List Int)}, TupsAt K H as ls → TupsAt K H (as ++ [a]) (ls ++ [l])
  | _, _, .nil => .cons ha .nil
  | _, _, .cons h t => .cons h (TupsAt.snoc ha t)
theorem TupsAt.append {K : PySem.W.Frag} {H : Hp} : ∀ {as bs : List Addr} {ls ks : List (List Int)}, TupsAt K H as ls → TupsAt K H bs ks → TupsAt K H (as ++ bs) (ls ++ ks)
  | _, _, _, _, .nil, s => s
  | _, _, _, _, .cons h t, s => .cons h (TupsAt.append t s)
theorem TupsAt.take {K : PySem.W.Frag} {H : Hp} : ∀ {as : List Addr} {ls : List (List Int)} (n : Nat), TupsAt K H as ls → TupsAt K H (as.take n) (ls.take n)
  | _, _, 0, _ => by simp [TupsAt]; exact .nil
  | _, _, _ + 1, .nil => by simp; exact .nil
  | _, _, n + 1, .cons h t => by simp only [List.take_succ_cons]; exact .cons h (TupsAt.take n t)
def vr (as : List Addr) : List V := as.map V.ref
theorem vr_len (l : List Addr) : (vr l).length = l.length := List.length_map _
theorem vr_snoc (l : List Addr) (a : Addr) : vr l ++ [V.ref a] = vr (l ++ [a]) := by simp [vr]
theorem vr_get {l : List Addr} {j : Nat} {a : Addr} (h : l[j]? = some a) : (vr l)[j]? = some (V.ref a) := by simp [vr, h]
theorem vr_inv {l : List Addr} {j : Nat} {x : V} (h : (vr l)[j]? = some x) : ∃ a, l[j]? = some a ∧ x = V.ref a := by
  simp only [vr, List.getElem?_map] at h
  cases e : l[j]? with
  | none => rw [e] at h; cases h
  | some i => rw [e] at h; exact ⟨i, rfl, (Option.some.inj h).symm⟩
theorem dp_tups {K : PySem.W.Frag} {H : Hp} : ∀ {as : List Addr} {ls : List (List Int)}, TupsAt K H as ls → DpAll K H (vr as) (ls.map dI)
  | _, _, .nil => .nil
  | _, _, .cons h t => .cons (dp_tup h) (dp_tups t)
theorem dp_tupsL {K : PySem.W.Frag} {H : Hp} {a : Addr} {as : List Addr} {ls : List (List Int)} (h : SqL K H a (vr as)) (t : TupsAt K H as ls) : Dp K H (.ref a) (.list (ls.map dI)) := .lst h (dp_tups t)
theorem lay_tups : ∀ ls : List (List Int), PyData.canLayAll0 (ls.map dI) = true
  | [] => by simp [PyData.canLayAll0]
  | i :: l => by simp [PyData.canLayAll0, dI_lay, lay_tups l]
theorem depth_tups : ∀ ls : List (List Int), PyData.depthAll (ls.map dI) ≤ 2
  | [] => by simp [PyData.depthAll]
  | i :: l => by have := depth_tups l; have := dI_depth i; simp only [List.map_cons, PyData.depthAll]; omega
theorem tups_shaped (ls : List (List Int)) : SeqAt.shaped (.list (ls.map dI)) = true := by
  have := depth_tups ls
  have h2 : PyData.depth (.list (ls.map dI)) ≤ 64 := by simp only [PyData.depth]; omega
  show (PyData.canLay0 (.list (ls.map dI)) && decide (PyData.depth (.list (ls.map dI)) ≤ 64)) = true
  rw [decide_eq_true h2]
  simp only [PyData.canLay0, lay_tups ls, Bool.and_self]
theorem tupsT_shaped (ls : List (List Int)) : SeqAt.shaped (.tuple (ls.map dI)) = true := by
  have := depth_tups ls
  have h2 : PyData.depth (.tuple (ls.map dI)) ≤ 64 := by simp only [PyData.depth]; omega
  show (PyData.canLay0 (.tuple (ls.map dI)) && decide (PyData.depth (.tuple (ls.map dI)) ≤ 64)) = true
  rw [decide_eq_true h2]
  simp only [PyData.canLay0, lay_tups ls, Bool.and_self]
theorem any_dI (ls : List (List Int)) (l : List Int) : ((ls.map dI).any fun z => PyData.eqv z (dI l)) = ls.contains l := by
  induction ls with
  | nil => rfl
  | cons k ls ih =>
    rw [List.map_cons, List.any_cons, ih, eqv_dI, List.contains_cons]
    congr 1
    rw [Bool.eq_iff_iff]
    simp only [decide_eq_true_eq, beq_iff_eq]
    exact eq_comm
/-! ### flat numbers within a list -/
theorem flat_ints (l : List Int) : (vis l).all flatV = true := by
  rw [List.all_eq_true]
  intro x hx
  obtain ⟨i, _, rfl⟩ := List.mem_map.mp hx
  rfl
theorem inV_ints (i : Int) (l : List Int) : inV (.int i) (vis l) = l.contains i := by
  induction l with
  | nil => rfl
  | cons k l ih =>
    show ((vis (k :: l)).any fun y => eqV y (.int i)) = _
    rw [List.contains_cons, ← ih]
    show (eqV (.int k) (.int i) || inV (.int i) (vis l)) = (i == k || inV (.int i) (vis l))
    congr 1
    show decide (k = i) = (i == k) <;> (rw [Bool.eq_iff_iff]; simp only [decide_eq_true_eq, beq_iff_eq]; exact eq_comm)
end SPW
end
section
set_option Elab.async false
set_option linter.all false
set_option maxRecDepth 100000
set_option maxHeartbeats 4000000
namespace SPW
open PySem PySem.Spec PyProof.Rows L2
/-! ### comprehensions whose turns change nothing that's known: res i is what the first i turns give -/
section
variable {K : PySem.W.Frag} {g : TG} {tt : TT} {te : TE} {vs : List Nat} {σ : L2.St} {H1 : Hp} {D : Addr} {Q : VK}
/-- a turn, whatever is asked of what it gives -/
abbrev LcTurn (g : TG) (tt : TT) (te : TE) (vs : List Nat) (σ : L2.St) (res : Nat → List V) (i : Nat) (x : V) (H' H'' : Hp) : Prop :=
  ∀ (Y : V → Hp → Prop) (Z : Hp → Prop), (∀ y H4, Same H' H4 → res (i + 1) = res i ++ [y] → Y y H4) → (∀ H3, Same H' H3 → res (i + 1) = res i → Z H3) →
    g x (wipe σ vs) H'' fun σ2 H2 => wipe σ2 vs = wipe σ vs ∧ tt σ2 H2 fun b H3 => if b = true then te σ2 H3 Y else Z H3
theorem lc_gen (J : It) (n : Nat) (res : Nat → List V) (hD : H1 D = none) (r0 : res 0 = []) (hz : n ≤ 1000000)
    (go : ∀ i H', i < n → Same H1 H' → J.go i H') (stop : ∀ H', Same H1 H' → J.stop n H')
    (turn : ∀ i x H' H'', i < n → Same H1 H' → J.yld i H' x H'' → LcTurn g tt te vs σ res i x H' H'')
    (hd : ∀ H', Same H1 H' → H' D = some (.lst (res n)) → Q (.ref D) H') :
    ∃ W : Nat → Nat → Hp → Prop, (∃ m, W 0 m (upd H1 D (.lst []))) ∧ ∀ i m H, W i m H →
      (J.stop i H ∧ Q (.ref D) H) ∨ (J.go i H ∧ ∃ Nx : Hp → Prop, (∀ H', Nx H' → ∃ m', m' < m ∧ W (i + 1) m' H') ∧ ∀ x H', J.yld i H x H' → g x (wipe σ vs) H' fun σ2 H2 => wipe σ2 vs = wipe σ vs ∧ tt σ2 H2 fun b H3 =>
        if b = true then te σ2 H3 fun y H4 => ∃ acc, H4 D = some (.lst acc) ∧ acc.length < sizeLine ∧ Nx (upd H4 D (.lst (acc ++ [y]))) else Nx H3) := by
  refine ⟨fun i m H => m = n - i ∧ i ≤ n ∧ Same H1 H ∧ H D = some (.lst (res i)) ∧ (res i).length ≤ i, ⟨n, by simp, Nat.zero_le _, Same.new hD, by rw [upd_same, r0], by rw [r0]; simp⟩, ?_⟩
  rintro i m H ⟨rfl, hi, s5, hO, hl⟩
  by_cases hlt : i < n
  · refine .inr ⟨go i H hlt s5, fun H' => i + 1 ≤ n ∧ Same H1 H' ∧ H' D = some (.lst (res (i + 1))) ∧ (res (i + 1)).length ≤ i + 1, fun H' ⟨a, b, c, d⟩ => ⟨n - (i + 1), by omega, rfl, a, b, c, d⟩, fun x H' hy => ?_⟩
    refine turn i x H H' hlt s5 hy _ _ (fun y H4 s6 e => ?_) fun H3 s6 e => ?_
    · refine ⟨res i, s6 _ _ hO, small_lt (by omega), hlt, (s5.trans s6).mut hD, by rw [upd_same, e], ?_⟩
      rw [e, List.length_append]
      simp
      omega
    · exact ⟨hlt, s5.trans s6, by rw [e]; exact s6 _ _ hO, by rw [e]; omega⟩
  · have e : i = n := by omega
    subst e
    exact .inl ⟨stop H s5, hd H s5 hO⟩
/-- over a list -/
theorem lcl {a : Addr} {xs : List V} (hD : H1 D = none) (hx : SqL K H1 a xs) (res : Nat → List V) (r0 : res 0 = []) (hz : xs.length ≤ 1000000)
    (turn : ∀ i x H', xs[i]? = some x → Same H1 H' → LcTurn g tt te vs σ res i x H' H') (hd : ∀ H', Same H1 H' → H' D = some (.lst (res xs.length)) → Q (.ref D) H') :
    ∃ W : Nat → Nat → Hp → Prop, (∃ m, W 0 m (upd H1 D (.lst []))) ∧ ∀ i m H, W i m H →
      ((Itl K a).stop i H ∧ Q (.ref D) H) ∨ ((Itl K a).go i H ∧ ∃ Nx : Hp → Prop, (∀ H', Nx H' → ∃ m', m' < m ∧ W (i + 1) m' H') ∧ ∀ x H', (Itl K a).yld i H x H' → g x (wipe σ vs) H' fun σ2 H2 => wipe σ2 vs = wipe σ vs ∧ tt σ2 H2 fun b H3 =>
        if b = true then te σ2 H3 fun y H4 => ∃ acc, H4 D = some (.lst acc) ∧ acc.length < sizeLine ∧ Nx (upd H4 D (.lst (acc ++ [y]))) else Nx H3) :=
  lc_gen (Itl K a) xs.length res hD r0 hz (fun i H' hi s5 => ⟨xs, xs[i], s5.seq hx, by simp [hi]⟩) (fun H' s5 => ⟨xs, s5.seq hx, Nat.le_refl _⟩)
    (fun i x H' H'' hi s5 hy => by
      obtain ⟨e, y⟩ := hy
      subst e
      exact turn i x _ (y xs (s5.seq hx)) s5) hd
/-- over a tuple -/
theorem lct {a : Addr} {xs : List V} (hD : H1 D = none) (hx : SqT K H1 a xs) (res : Nat → List V) (r0 : res 0 = []) (hz : xs.length ≤ 1000000)
    (turn : ∀ i x H', xs[i]? = some x → Same H1 H' → LcTurn g tt te vs σ res i x H' H') (hd : ∀ H', Same H1 H' → H' D = some (.lst (res xs.length)) → Q (.ref D) H') :
    ∃ W : Nat → Nat → Hp → Prop, (∃ m, W 0 m (upd H1 D (.lst []))) ∧ ∀ i m H, W i m H →
      ((Itt K a).stop i H ∧ Q (.ref D) H) ∨ ((Itt K a).go i H ∧ ∃ Nx : Hp → Prop, (∀ H', Nx H' → ∃ m', m' < m ∧ W (i + 1) m' H') ∧ ∀ x H', (Itt K a).yld i H x H' → g x (wipe σ vs) H' fun σ2 H2 => wipe σ2 vs = wipe σ vs ∧ tt σ2 H2 fun b H3 =>
        if b = true then te σ2 H3 fun y H4 => ∃ acc, H4 D = some (.lst acc) ∧ acc.length < sizeLine ∧ Nx (upd H4 D (.lst (acc ++ [y]))) else Nx H3) :=
  lc_gen (Itt K a) xs.length res hD r0 hz (fun i H' hi s5 => ⟨xs, xs[i], s5.tup hx, by simp [hi]⟩) (fun H' s5 => ⟨xs, s5.tup hx, Nat.le_refl _⟩)
    (fun i x H' H'' hi s5 hy => by
      obtain ⟨e, y⟩ := hy
      subst e
      exact turn i x _ (y xs (s5.tup hx)) s5) hd
/-- over a range -/
theorem lcr {lo : Int} {n : Nat} (hD : H1 D = none) (res : Nat → List V) (r0 : res 0 = []) (hz : n ≤ 1000000)
    (turn : ∀ i H', i < n → Same H1 H' → LcTurn g tt te vs σ res i (.int (lo + (i : Int))) H' H') (hd : ∀ H', Same H1 H' → H' D = some (.lst (res n)) → Q (.ref D) H') :
    ∃ W : Nat → Nat → Hp → Prop, (∃ m, W 0 m (upd H1 D (.lst []))) ∧ ∀ i m H, W i m H →
      ((Itr lo n).stop i H ∧ Q (.ref D) H) ∨ ((Itr lo n).go i H ∧ ∃ Nx : Hp → Prop, (∀ H', Nx H' → ∃ m', m' < m ∧ W (i + 1) m' H') ∧ ∀ x H', (Itr lo n).yld i H x H' → g x (wipe σ vs) H' fun σ2 H2 => wipe σ2 vs = wipe σ vs ∧ tt σ2 H2 fun b H3 =>
        if b = true then te σ2 H3 fun y H4 => ∃ acc, H4 D = some (.lst acc) ∧ acc.length < sizeLine ∧ Nx (upd H4 D (.lst (acc ++ [y]))) else Nx H3) :=
  lc_gen (Itr lo n) n res hD r0 hz (fun i H' hi s5 => hi) (fun H' s5 => Nat.le_refl _)
    (fun i x H' H'' hi s5 hy => by
      obtain ⟨e, y⟩ := hy
      subst e
      subst y
      exact turn i _ hi s5) hd
/-- over a text -/
theorem lcs {z : Str} (hD : H1 D = none) (res : Nat → List V) (r0 : res 0 = []) (hz : z.cps.size ≤ 1000000)
    (turn : ∀ i c H', z.cps[i]? = some c → Same H1 H' → LcTurn g tt te vs σ res i (.str ⟨#[c]⟩) H' H') (hd : ∀ H', Same H1 H' → H' D = some (.lst (res z.cps.size)) → Q (.ref D) H') :
    ∃ W : Nat → Nat → Hp → Prop, (∃ m, W 0 m (upd H1 D (.lst []))) ∧ ∀ i m H, W i m H →
      ((Its z).stop i H ∧ Q (.ref D) H) ∨ ((Its z).go i H ∧ ∃ Nx : Hp → Prop, (∀ H', Nx H' → ∃ m', m' < m ∧ W (i + 1) m' H') ∧ ∀ x H', (Its z).yld i H x H' → g x (wipe σ vs) H' fun σ2 H2 => wipe σ2 vs = wipe σ vs ∧ tt σ2 H2 fun b H3 =>
        if b = true then te σ2 H3 fun y H4 => ∃ acc, H4 D = some (.lst acc) ∧ acc.length < sizeLine ∧ Nx (upd H4 D (.lst (acc ++ [y]))) else Nx H3) :=
  lc_gen (Its z) z.cps.size res hD r0 hz (fun i H' hi s5 => hi) (fun H' s5 => Nat.le_refl _)
    (fun i x H' H'' hi s5 hy => by
      obtain ⟨e, c, hc, y⟩ := hy
      subst e
      subst y
      exact turn i c _ hc s5) hd
/-- over enumerate(list) -/
theorem lce {a : Addr} {xs : List V} (hD : H1 D = none) (hx : SqL K H1 a xs) (res : Nat → List V) (r0 : res 0 = []) (hz : xs.length ≤ 1000000)
    (turn : ∀ i x T H', xs[i]? = some x → Same H1 H' → H' T = none → LcTurn g tt te vs σ res i (.ref T) H' (upd H' T (.tup [.int (i : Int), x]))) (hd : ∀ H', Same H1 H' → H' D = some (.lst (res xs.length)) → Q (.ref D) H') :
    ∃ W : Nat → Nat → Hp → Prop, (∃ m, W 0 m (upd H1 D (.lst []))) ∧ ∀ i m H, W i m H →
      ((Ite K a).stop i H ∧ Q (.ref D) H) ∨ ((Ite K a).go i H ∧ ∃ Nx : Hp → Prop, (∀ H', Nx H' → ∃ m', m' < m ∧ W (i + 1) m' H') ∧ ∀ x H', (Ite K a).yld i H x H' → g x (wipe σ vs) H' fun σ2 H2 => wipe σ2 vs = wipe σ vs ∧ tt σ2 H2 fun b H3 =>
        if b = true then te σ2 H3 fun y H4 => ∃ acc, H4 D = some (.lst acc) ∧ acc.length < sizeLine ∧ Nx (upd H4 D (.lst (acc ++ [y]))) else Nx H3) :=
  lc_gen (Ite K a) xs.length res hD r0 hz (fun i H' hi s5 => ⟨xs, xs[i], s5.seq hx, by simp [hi]⟩) (fun H' s5 => ⟨xs, s5.seq hx, Nat.le_refl _⟩)
    (fun i x H' H'' hi s5 hy => by
      obtain ⟨T, y, rfl, hT, rfl, e⟩ := hy
      exact turn i y T H' (e xs (s5.seq hx)) s5 hT) hd
end
/-- for .. in enumerate(list) -/
theorem for_enum {K : PySem.W.Frag} {a : Addr} {xs : List V} {g : TG} {tb : TS} {D : Ends} {σ : L2.St} {H : Hp} (Pv : Nat → L2.St → Hp → Prop) (h0 : Pv 0 σ H) (hl : ∀ i σ H, i ≤ xs.length → Pv i σ H → SqL K H a xs)
    (hs : ∀ i x T σ H, xs[i]? = some x → Pv i σ H → H T = none → g (.ref T) σ (upd H T (.tup [.int (i : Int), x])) fun σ2 H2 => tb { D with nx := Pv (i + 1), ct := Pv (i + 1), bk := D.nx } σ2 H2) (hd : ∀ σ H, Pv xs.length σ H → D.nx σ H) :
    ∃ W : Nat → Nat → L2.St → Hp → Prop, (∃ m, W 0 m σ H) ∧ ∀ i m σ H, W i m σ H →
      ((Ite K a).stop i H ∧ D.nx σ H) ∨ ((Ite K a).go i H ∧ ∃ N : L2.St → Hp → Prop, (∀ σ' H', N σ' H' → ∃ m', m' < m ∧ W (i + 1) m' σ' H') ∧ ∀ x H', (Ite K a).yld i H x H' → g x σ H' fun σ2 H2 => tb { D with nx := N, ct := N, bk := D.nx } σ2 H2) := by
  refine ⟨fun i m σ H => m = xs.length - i ∧ i ≤ xs.length ∧ Pv i σ H, ⟨xs.length, by simp, Nat.zero_le _, h0⟩, ?_⟩
  rintro i m σ H ⟨rfl, hi, p⟩
  have q := hl i σ H hi p
  by_cases hlt : i < xs.length
  · refine .inr ⟨⟨xs, xs[i], q, by simp [hlt]⟩, Pv (i + 1), fun σ' H' p' => ⟨xs.length - (i + 1), by omega, rfl, hlt, p'⟩, fun v H' y => ?_⟩
    obtain ⟨T, x, rfl, hT, rfl, f⟩ := y
    exact hs i x T σ H (f xs q) p hT
  · have e : i = xs.length := by omega
    subst e
    exact .inl ⟨⟨xs, q, Nat.le_refl _⟩, hd σ H p⟩
end SPW
end
section
set_option Elab.async false
set_option linter.all false
set_option maxRecDepth 100000
set_option maxHeartbeats 4000000
namespace SPW
open PySem PySem.Spec PyProof.Rows L2
/-! ### the rules with the written part named -/
section
variable {X : Cx} (K : PySem.W.Frag) (hK : X.K = K := by rfl)
include hK
theorem ix_tupK : IxR X (rIxT K) := by subst hK; exact ix_tup
theorem ix_listK : IxR X (rIxL K) := by subst hK; exact ix_list
theorem sl_tupK : SlR X (rSlA K) := by subst hK; exact sl_tupA
theorem sl_listK : SlR X (rSlL K) := by subst hK; exact sl_list
theorem op_inK : OpR X (compareOp .In) (rIn K false) := by subst hK; exact op_in_seq
theorem op_notInK : OpR X (compareOp .NotIn) (rIn K true) := by subst hK; exact op_notIn_seq
theorem op_catK : OpR X (binaryOp .Add) (rCatA K) := by subst hK; exact op_catA
def rLenS (K : PySem.W.Frag) : List V → Hp → VK → Prop := fun xs H Q => ∃ p ys, xs = [.ref p] ∧ (SqL K H p ys ∨ SqT K H p ys) ∧ Q (.int ys.length) H
theorem call_lenK : CallR X (.builtin "len") (rLenS K) := by subst hK; exact call_len_seq
def rListS (K : PySem.W.Frag) : List V → Hp → VK → Prop := fun xs H Q => ∃ p ys, xs = [.ref p] ∧ (SqL K H p ys ∨ SqT K H p ys) ∧ ∀ l, H l = none → Q (.ref l) (upd H l (.lst ys))
theorem call_listK : CallR X (.type "list") (rListS K) := by subst hK; exact call_list_of
def rTupS (K : PySem.W.Frag) : List V → Hp → VK → Prop := fun xs H Q => ∃ p ys, xs = [.ref p] ∧ ((SqL K H p ys ∧ ∀ l, H l = none → Q (.ref l) (upd H l (.tup ys))) ∨ (SqT K H p ys ∧ Q (.ref p) H))
theorem call_tupleK : CallR X (.type "tuple") (rTupS K) := by subst hK; exact call_tuple_of
theorem cr_sumK (hc : X.calm = true) : CallR X (.builtin "sum") (rSum K) := by subst hK; exact cr_sum hc
theorem cr_anyK (hc : X.calm = true) : CallR X (.builtin "any") (rAny K) := by subst hK; exact cr_any hc
theorem cr_allK (hc : X.calm = true) : CallR X (.builtin "all") (rAll K) := by subst hK; exact cr_all hc
theorem cr_sortedK : CallR X (.builtin "sorted") (rSortedI K) := by subst hK; exact cr_sortedI
end
section
variable {X : Cx} (K : PySem.W.Frag)
theorem op_eqDK (hu : X.A.units + 64 < cLine) (hK : X.K = K := by rfl) : OpR X (compareOp .Eq) (rEqD K) := by subst hK; exact op_eqD hu
theorem op_neDK (hu : X.A.units + 64 < cLine) (hK : X.K = K := by rfl) : OpR X (compareOp .NotEq) (rNeD K) := by subst hK; exact op_neD hu
theorem op_inDK (hu : X.A.units + 65 < cLine) (hK : X.K = K := by rfl) : OpR X (compareOp .In) (rInD K) := by subst hK; exact op_inD hu
theorem op_notInDK (hu : X.A.units + 65 < cLine) (hK : X.K = K := by rfl) : OpR X (compareOp .NotIn) (rNotInD K) := by subst hK; exact op_notInD hu
theorem mt_indexK (hK : X.K = K := by rfl) : MtR X "list.index" (rIndex K) := by subst hK; exact mt_index
theorem mt_indexDK (hu : X.A.units + 65 < cLine) (hK : X.K = K := by rfl) : MtR X "list.index" (rIndexD K) := by subst hK; exact mt_indexD hu
end
theorem _root_.L2.Room.units65 {k : Nat} {A : Around} (r : Room k A) : A.units + 65 < cLine := by have := r.un; omega
section
variable {X : Cx} (K : PySem.W.Frag) {o e a b value : Expr} {es : List Expr} {ta te tv to : TE} {t : TA} {f : Str} {pos p p' pos' cpos apos tpos : Pos} {tg : Expr} {T name id : String}
theorem pe_fldK (he : PE X e ta) (hb : attributeBase e f X.env (eval e X.env) = eval e X.env := by rfl) (hK : X.K = K := by rfl) : PE X (.Attribute e f pos) (tFld K ta f) := by
  subst hK
  exact pe_fld he hb
theorem pe_bm0K {r : V → List V → Hp → VK → Prop} (pa : PlainAttrs T) (slot : Slot T name id) (hty : typeOf (.builtin id) = pure (.type "method_descriptor")) (hm : MtR X id r) (ho : PE X o to)
    (hbase : attributeBase o name X.env (eval o X.env) = eval o X.env := by rfl) (hline : (apos.endLine == cpos.line) = true := by rfl) (hK : X.K = K := by rfl) : PE X (.Call (.Attribute o name apos) [] [] cpos) (tBM0 K T r to) := by
  subst hK
  exact pe_bm0 pa slot hty hm ho hbase hline
theorem pe_bmK {r : V → List V → Hp → VK → Prop} (pa : PlainAttrs T) (slot : Slot T name id) (hty : typeOf (.builtin id) = pure (.type "method_descriptor")) (hm : MtR X id r) (ho : PE X o to) (ha : PA X (e :: es) t)
    (hbase : attributeBase o name X.env (eval o X.env) = eval o X.env := by rfl)
    (hfew : ((backTo cpos (starEach (e :: es) X.env)).all (fun x => !x.1) && (backToKw cpos (keywordEach [] X.env)).all (fun x => x.1.isSome)
      && decide ((e :: es).length + ([] : List Keyword).length + (if ([] : List Keyword).isEmpty then 0 else 1) < 30)) = true := by rfl)
    (hline : (apos.endLine == cpos.line) = true := by rfl) (hs : starEach (e :: es) X.env = (false, eval e X.env) :: starEach es X.env := by rfl) (hplain : (backTo cpos (starEach es X.env)).any (·.1) = false := by rfl) (hK : X.K = K := by rfl) :
    PE X (.Call (.Attribute o name apos) (e :: es) [] cpos) (tBM K T r to t) := by
  subst hK
  exact pe_bm pa slot hty hm ho ha hbase hfew hline hs hplain
theorem pe_revK {k : Nat} {p1 p2 p3 : Pos} (he : PE X e te) (hK : X.K = K := by rfl) : PE X (.Subscript e (.Slice none none (some (.UnaryOp .USub (.Constant (.int 1) k p1) p2)) p3) pos) (tRevL K te) := by
  subst hK
  exact pe_revL he
theorem pi_listK (he : PE X e te) (hK : X.K = K := by rfl) : PI X tg e (iList K te) := by
  subst hK
  exact pi_list he
theorem pi_tupK (he : PE X e te) (hK : X.K = K := by rfl) : PI X tg e (iTup K te) := by
  subst hK
  exact pi_tup he
theorem pi_enumK {elts : List Expr} {kk : Nat} (hg : Gl X "enumerate") (hm : X.mg "enumerate" = none) (ha : PA X [e] t) (hs : starEach [e] X.env = [(false, eval e X.env)] := by rfl) (hK : X.K = K := by rfl) :
    PI X (.Tuple elts kk tpos) (.Call (.Name "enumerate" p) [e] [] pos) (iEnum K t) := by
  subst hK
  exact pi_enum hg hm ha hs
theorem pg_tupK {k n : Nat} {u : TGs} (hc : X.calm = true) (h : PGs X es u) (hn : (assignEach es X.env).length = n := by rfl) (hst : (assignEach es X.env).findIdx? (·.1) = none := by rfl) (hK : X.K = K := by rfl) : PG X (.Tuple es k pos) (gTup K n u) := by
  subst hK
  exact pg_tup hc h hn hst
theorem ps_fldK (ha : PE X o ta) (hv : PE X value tv) (hs : swapsWith value (some (.Attribute o f pos')) pos.line X.env = pure false := by rfl) (hK : X.K = K := by rfl) : PS X (.Assign [.Attribute o f pos'] value pos) (sFld K ta tv f) := by
  subst hK
  exact ps_fld ha hv hs
theorem ps_fldaugK {op : Operator} {rd : V → V → Hp → VK → Prop} (ha : PE X o ta) (hv : PE X value tv) (hop : InOp X op rd) (hK : X.K = K := by rfl) : PS X (.AugAssign (.Attribute o f tpos) op value pos) (sFldAug K ta tv rd f) := by
  subst hK
  exact ps_fldaug ha hv hop
end
end SPW
namespace SPW
open PySem PySem.Spec PyProof.Rows L2
def tTruK (K : PySem.W.Frag) (ta : TE) : TT := fun σ H Q => ta σ H fun x H' => ∃ k, TruV K x H' k ∧ Q k H'
theorem pt_truthK {X : Cx} (K : PySem.W.Frag) {a : Expr} {ta : TE} (ha : PE X a ta) (he : ∀ whole, isTrue a X.env whole = (do let v ← whole; standAt a.pos; holding [v] (truthy v)) := by intro _; rfl) (hK : X.K = K := by rfl) : PT X a (tTruK K ta) := by
  subst hK
  exact pt_truth ha he
end SPW
namespace SPW
open PySem PySem.Spec PyProof.Rows L2
/-! ### the small readings, to be seen through -/
abbrev nil1 : TA := fun _ H Q => Q [] H
abbrev noPart1 : TO := fun _ H Q => Q none H
abbrev c1 (v : V) : TE := fun _ H Q => Q v H
section
variable {X : Cx} {x : Str} {pos : Pos}
theorem pa_nil1 : PA X [] nil1 := pa_nil
theorem po_none1 : PO X none noPart1 := po_none
theorem pe_int1 {i : Int} {j : Nat} : PE X (.Constant (.int i) j pos) (c1 (.int i)) := pe_int
theorem pe_bl1 {b : Bool} {j : Nat} : PE X (.Constant (.bool b) j pos) (c1 (.bl b)) := pe_bl
theorem pe_non1 {j : Nat} : PE X (.Constant .none j pos) (c1 .non) := pe_non
theorem pe_str1 {z : Str} {j : Nat} : PE X (.Constant (.str z) j pos) (c1 (.str z)) := pe_str
theorem pe_ci1 {i : Int} (h : ∃ t, X.mg x = some (.int i t)) (hg : Gl X x := by rfl) (hd : (x == ("__debug__" : Str)) = false := by decide) : PE X (.Name x pos) (c1 (.int i)) := pe_ci h hg hd
theorem pe_ca1 {a : Addr} (h : X.mg x = some (.ref a)) (hg : Gl X x := by rfl) (hd : (x == ("__debug__" : Str)) = false := by decide) : PE X (.Name x pos) (c1 (.ref a)) := pe_ca h hg hd
end
end SPW
end
section
set_option autoImplicit false
set_option linter.all false
namespace SP
section
variable {A : Type} [BEq A] [LawfulBEq A]
/-- the unlike ones, as they come -/
def grow (seen : List A) : List A → List A
  | [] => seen
  | a :: l => grow (if seen.contains a = true then seen else seen ++ [a]) l
theorem loop_grow : ∀ (l bs : List A), List.eraseDupsBy.loop (· == ·) l bs = grow bs.reverse l
  | [], bs => by simp [List.eraseDupsBy.loop, grow]
  | a :: l, bs => by
    rw [List.eraseDupsBy.loop, grow]
    have e : (bs.any fun b => a == b) = bs.reverse.contains a := by
      rw [List.contains_reverse, List.contains_eq_any_beq]
    show (match bs.any (fun b => a == b) with | true => List.eraseDupsBy.loop (· == ·) l bs | false => List.eraseDupsBy.loop (· == ·) l (a :: bs)) = _
    rw [e]
    cases q : bs.reverse.contains a with
    | true =>
      rw [if_pos rfl]
      exact loop_grow l bs
    | false =>
      rw [if_neg (by decide)]
      show List.eraseDupsBy.loop (· == ·) l (a :: bs) = _
      rw [loop_grow l (a :: bs), List.reverse_cons]
theorem eraseDups_grow (l : List A) : l.eraseDups = grow [] l := loop_grow l []
theorem grow_snoc (s : List A) (l : List A) (a : A) : grow s (l ++ [a]) = if (grow s l).contains a = true then grow s l else grow s l ++ [a] := by
  induction l generalizing s with
  | nil => rfl
  | cons b l ih => exact ih _
theorem grow_append (s l k : List A) : grow s (l ++ k) = grow (grow s l) k := by
  induction l generalizing s with
  | nil => rfl
  | cons b l ih => exact ih _
theorem grow_nodup {s : List A} (h : s.Nodup) (l : List A) : (grow s l).Nodup := by
  induction l generalizing s with
  | nil => exact h
  | cons a l ih =>
    rw [grow]
    by_cases q : s.contains a = true
    · rw [if_pos q]; exact ih h
    · rw [if_neg q]
      refine ih ?_
      rw [List.nodup_append]
      refine ⟨h, by simp, fun x hx y hy => ?_⟩
      have : y = a := by simpa using hy
      subst this
      intro e
      subst e
      exact q (by simpa using hx)
theorem grow_mem {s : List A} {l : List A} {x : A} : x ∈ grow s l ↔ x ∈ s ∨ x ∈ l := by
  induction l generalizing s with
  | nil => simp [grow]
  | cons a l ih =>
    rw [grow, ih]
    by_cases q : s.contains a = true
    · rw [if_pos q]
      have q2 : a ∈ s := by simpa using q
      constructor
      · rintro (h | h)
        · exact .inl h
        · exact .inr (List.mem_cons_of_mem _ h)
      · rintro (h | h)
        · exact .inl h
        · rcases List.mem_cons.mp h with rfl | h
          · exact .inl q2
          · exact .inr h
    · rw [if_neg q]
      simp only [List.mem_append, List.mem_cons, List.not_mem_nil, or_false]
      constructor
      · rintro ((h | h) | h)
        · exact .inl h
        · exact .inr (.inl h)
        · exact .inr (.inr h)
      · rintro (h | h | h)
        · exact .inl (.inl h)
        · exact .inl (.inr h)
        · exact .inr h
theorem grow_prefix (s l : List A) : ∃ k, grow s l = s ++ k := by
  induction l generalizing s with
  | nil => exact ⟨[], by simp [grow]⟩
  | cons a l ih =>
    rw [grow]
    by_cases q : s.contains a = true
    · rw [if_pos q]; exact ih s
    · rw [if_neg q]
      obtain ⟨k, hk⟩ := ih (s ++ [a])
      exact ⟨a :: k, by rw [hk]; simp⟩
theorem nodup_sub_len {l k : List A} (hn : l.Nodup) (h : ∀ v ∈ l, v ∈ k) : l.length ≤ k.length := by
  induction l generalizing k with
  | nil => exact Nat.zero_le _
  | cons a l ih =>
    obtain ⟨h1, h2⟩ := List.nodup_cons.mp hn
    have ha := h a List.mem_cons_self
    have := ih (k := k.erase a) h2 fun v hv => by
      have hne : v ≠ a := fun e => h1 (e ▸ hv)
      exact (List.mem_erase_of_ne hne).mpr (h v (List.mem_cons_of_mem _ hv))
    have e := List.length_erase_of_mem ha
    have : 0 < k.length := List.length_pos_of_mem ha
    simp only [List.length_cons]
    omega
theorem eraseDups_nodup (l : List A) : l.eraseDups.Nodup := by
  rw [eraseDups_grow]
  exact grow_nodup (by simp) l
theorem eraseDups_mem {l : List A} {x : A} : x ∈ l.eraseDups ↔ x ∈ l := by
  rw [eraseDups_grow, grow_mem]
  simp
theorem eraseDups_len (l : List A) : l.eraseDups.length ≤ l.length := nodup_sub_len (eraseDups_nodup l) fun _ h => eraseDups_mem.mp h
theorem grow_map {B : Type} [BEq B] [LawfulBEq B] {f : A → B} (hf : ∀ x y, f x = f y → x = y) (s l : List A) : grow (s.map f) (l.map f) = (grow s l).map f := by
  induction l generalizing s with
  | nil => rfl
  | cons a l ih =>
    rw [List.map_cons, grow, grow]
    have e : (s.map f).contains (f a) = s.contains a := by
      rw [Bool.eq_iff_iff]
      simp only [List.contains_iff_mem, List.mem_map]
      constructor
      · rintro ⟨x, hx, e⟩
        exact hf _ _ e ▸ hx
      · intro h
        exact ⟨a, h, rfl⟩
    rw [e]
    by_cases q : s.contains a = true
    · rw [if_pos q, if_pos q]; exact ih s
    · rw [if_neg q, if_neg q]
      have := ih (s ++ [a])
      rw [List.map_append] at this
      exact this
theorem eraseDups_map {B : Type} [BEq B] [LawfulBEq B] {f : A → B} (hf : ∀ x y, f x = f y → x = y) (l : List A) : (l.map f).eraseDups = l.eraseDups.map f := by
  rw [eraseDups_grow, eraseDups_grow]
  exact grow_map hf [] l
end
end SP
end
section
set_option autoImplicit false
set_option linter.all false
namespace SP
open Vapcma (Form size vars rename normal replace code top)

/-! ### forms as lists of numbers -/
def ci (F : Form) : List Int := (code F).map Int.ofNat
theorem ci_var (v : Nat) : ci (.var v) = [0, (v : Int)] := rfl
theorem ci_imp (a b : Form) : ci (.imp a b) = 1 :: (ci a ++ ci b) := by simp [ci, code]
theorem ci_neg (a : Form) : ci (.neg a) = 2 :: ci a := by simp [ci, code]
theorem size_pos : ∀ F : Form, 0 < size F
  | .var _ => by simp [size]
  | .imp a b => by simp [size]
  | .neg a => by simp [size]
theorem vars_le : ∀ F : Form, (vars F).length ≤ size F
  | .var _ => by simp [vars, size]
  | .imp a b => by have := vars_le a; have := vars_le b; simp [vars, size]; omega
  | .neg a => by have := vars_le a; simp [vars, size]; omega
theorem ci_len : ∀ F : Form, (ci F).length = size F + (vars F).length
  | .var v => by simp [ci_var, size, vars]
  | .imp a b => by rw [ci_imp]; have := ci_len a; have := ci_len b; simp [size, vars]; omega
  | .neg a => by rw [ci_neg]; have := ci_len a; simp [size, vars]; omega
theorem ci_pos (F : Form) : 0 < (ci F).length := by rw [ci_len]; have := size_pos F; omega
theorem ci_ne (F : Form) : ci F ≠ [] := by intro h; have := ci_pos F; rw [h] at this; simp at this
theorem ci_le (F : Form) : (ci F).length ≤ 2 * size F := by rw [ci_len]; have := vars_le F; omega
theorem ci_inj_pre : ∀ (F G : Form) (r s : List Int), ci F ++ r = ci G ++ s → F = G ∧ r = s
  | .var v, .var u, r, s, h => by
    simp only [ci_var, List.cons_append, List.nil_append, List.cons.injEq] at h
    obtain ⟨_, h1, h2⟩ := h
    exact ⟨by rw [Int.ofNat_inj.mp h1], h2⟩
  | .var v, .imp a b, r, s, h => by simp [ci_var, ci_imp] at h
  | .var v, .neg a, r, s, h => by simp [ci_var, ci_neg] at h
  | .imp a b, .var u, r, s, h => by simp [ci_var, ci_imp] at h
  | .imp a b, .neg u, r, s, h => by simp [ci_neg, ci_imp] at h
  | .neg a, .var u, r, s, h => by simp [ci_var, ci_neg] at h
  | .neg a, .imp u w, r, s, h => by simp [ci_neg, ci_imp] at h
  | .imp a b, .imp c d, r, s, h => by
    rw [ci_imp, ci_imp, List.cons_append, List.cons_append, List.append_assoc, List.append_assoc] at h
    obtain ⟨rfl, h2⟩ := ci_inj_pre a c _ _ (List.cons.inj h).2
    obtain ⟨rfl, h3⟩ := ci_inj_pre b d _ _ h2
    exact ⟨rfl, h3⟩
  | .neg a, .neg c, r, s, h => by
    rw [ci_neg, ci_neg, List.cons_append, List.cons_append] at h
    obtain ⟨rfl, h2⟩ := ci_inj_pre a c _ _ (List.cons.inj h).2
    exact ⟨rfl, h2⟩
theorem ci_inj {F G : Form} (h : ci F = ci G) : F = G := (ci_inj_pre F G [] [] (by rw [h])).1
theorem ci_eq {F G : Form} : ci F = ci G ↔ F = G := ⟨ci_inj, fun h => by rw [h]⟩
/-- the number at a form's head -/
def hd : Form → Int
  | .var _ => 0
  | .imp _ _ => 1
  | .neg _ => 2
theorem ci_hd (F : Form) : (ci F)[0]? = some (hd F) := by
  cases F <;> simp [ci_var, ci_imp, ci_neg, hd]
/-- an item's formula, none told as the empty list -/
def co : Option Form → List Int
  | none => []
  | some F => ci F
theorem co_inj : ∀ {a b : Option Form}, co a = co b → a = b
  | none, none, _ => rfl
  | none, some F, h => absurd h.symm (ci_ne F)
  | some F, none, h => absurd h (ci_ne F)
  | some F, some G, h => by rw [ci_inj h]
theorem co_nil {a : Option Form} : co a = [] ↔ a = none := by
  cases a with
  | none => simp [co]
  | some F => simp [co, ci_ne]

/-! ### many forms, one behind another -/
def cis (l : List Form) : List Int := l.flatMap ci
theorem cis_nil : cis [] = [] := rfl
theorem cis_cons (F : Form) (l : List Form) : cis (F :: l) = ci F ++ cis l := by simp [cis]
theorem cis_imp (a b : Form) (l : List Form) : cis (.imp a b :: l) = 1 :: cis (a :: b :: l) := by simp [cis, ci_imp]
theorem cis_neg (a : Form) (l : List Form) : cis (.neg a :: l) = 2 :: cis (a :: l) := by simp [cis, ci_neg]
theorem cis_var (v : Nat) (l : List Form) : cis (.var v :: l) = 0 :: (v : Int) :: cis l := by simp [cis, ci_var]

/-! ### where signs and unknowns stand -/
def sgn : Form → Nat → List Nat
  | .var _, o => [o]
  | .imp a b, o => o :: (sgn a (o + 1) ++ sgn b (o + 1 + (ci a).length))
  | .neg a, o => o :: sgn a (o + 1)
def sgns : List Form → Nat → List Nat
  | [], _ => []
  | F :: l, o => sgn F o ++ sgns l (o + (ci F).length)
theorem sgn_len : ∀ (F : Form) (o : Nat), (sgn F o).length = size F
  | .var _, _ => rfl
  | .imp a b, o => by simp [sgn, size, sgn_len a, sgn_len b]
  | .neg a, o => by simp [sgn, size, sgn_len a]
theorem sgns_var (v : Nat) (l : List Form) (o : Nat) : sgns (.var v :: l) o = o :: sgns l (o + 2) := by simp [sgns, sgn, ci_var]
theorem sgns_imp (a b : Form) (l : List Form) (o : Nat) : sgns (.imp a b :: l) o = o :: sgns (a :: b :: l) (o + 1) := by
  simp only [sgns, sgn, ci_imp, List.length_cons, List.length_append, List.cons_append, List.append_assoc]
  rw [show o + ((ci a).length + (ci b).length + 1) = o + 1 + (ci a).length + (ci b).length by omega]
theorem sgns_neg (a : Form) (l : List Form) (o : Nat) : sgns (.neg a :: l) o = o :: sgns (a :: l) (o + 1) := by
  simp only [sgns, sgn, ci_neg, List.length_cons, List.cons_append]
  rw [show o + ((ci a).length + 1) = o + 1 + (ci a).length by omega]
/-- where the numbers of the unknowns stand -/
def vpl : Form → Nat → List Nat
  | .var _, o => [o + 1]
  | .imp a b, o => vpl a (o + 1) ++ vpl b (o + 1 + (ci a).length)
  | .neg a, o => vpl a (o + 1)
theorem vpl_len : ∀ (F : Form) (o : Nat), (vpl F o).length = (vars F).length
  | .var _, _ => rfl
  | .imp a b, o => by simp [vpl, vars, vpl_len a, vpl_len b]
  | .neg a, o => by simp [vpl, vars, vpl_len a]
/-- the signs' places whose number is 0 are the unknowns' -/
theorem sgn_vpl : ∀ (F : Form) (pre suf : List Int), ((sgn F pre.length).filter fun i => (pre ++ ci F ++ suf).getD i 9 == 0).map (· + 1) = vpl F pre.length
  | .var v, pre, suf => by
    have h : (pre ++ ci (.var v) ++ suf).getD pre.length 9 = 0 := by simp [ci_var, List.getD]
    simp only [sgn, vpl]
    rw [List.filter_cons, if_pos (by rw [h]; decide)]
    rfl
  | .imp a b, pre, suf => by
    have h : (pre ++ ci (.imp a b) ++ suf).getD pre.length 9 = 1 := by simp [ci_imp, List.getD]
    have ea := sgn_vpl a (pre ++ [1]) (ci b ++ suf)
    have eb := sgn_vpl b (pre ++ [1] ++ ci a) suf
    have e1 : pre ++ [1] ++ ci a ++ (ci b ++ suf) = pre ++ ci (.imp a b) ++ suf := by simp [ci_imp]
    have e2 : pre ++ [1] ++ ci a ++ ci b ++ suf = pre ++ ci (.imp a b) ++ suf := by simp [ci_imp]
    rw [e1] at ea
    rw [e2] at eb
    have l1 : (pre ++ [1] : List Int).length = pre.length + 1 := by simp
    have l2 : (pre ++ [1] ++ ci a : List Int).length = pre.length + 1 + (ci a).length := by simp; omega
    rw [l1] at ea
    rw [l2] at eb
    simp only [sgn, vpl]
    rw [List.filter_cons, if_neg (by rw [h]; decide), List.filter_append, List.map_append, ea, eb]
  | .neg a, pre, suf => by
    have h : (pre ++ ci (.neg a) ++ suf).getD pre.length 9 = 2 := by simp [ci_neg, List.getD]
    have ea := sgn_vpl a (pre ++ [2]) suf
    have e1 : pre ++ [2] ++ ci a ++ suf = pre ++ ci (.neg a) ++ suf := by simp [ci_neg]
    rw [e1] at ea
    have l1 : (pre ++ [2] : List Int).length = pre.length + 1 := by simp
    rw [l1] at ea
    simp only [sgn, vpl]
    rw [List.filter_cons, if_neg (by rw [h]; decide), ea]
theorem sgn_vpl0 (F : Form) : ((sgn F 0).filter fun i => (ci F).getD i 9 == 0).map (· + 1) = vpl F 0 := by
  have h := sgn_vpl F [] []
  simpa using h
theorem sgn_lt : ∀ (F : Form) (o : Nat), ∀ i ∈ sgn F o, o ≤ i ∧ i < o + (ci F).length
  | .var v, o, i, h => by simp [sgn] at h; subst h; simp [ci_var]
  | .imp a b, o, i, h => by
    simp only [sgn, List.mem_cons, List.mem_append] at h
    rw [ci_imp, List.length_cons, List.length_append]
    rcases h with rfl | h | h
    · omega
    · have := sgn_lt a _ i h; omega
    · have := sgn_lt b _ i h; omega
  | .neg a, o, i, h => by
    simp only [sgn, List.mem_cons] at h
    rw [ci_neg, List.length_cons]
    rcases h with rfl | h
    · omega
    · have := sgn_lt a _ i h; omega
theorem vpl_lt : ∀ (F : Form) (o : Nat), ∀ i ∈ vpl F o, o < i ∧ i < o + (ci F).length
  | .var v, o, i, h => by simp [vpl] at h; subst h; simp [ci_var]
  | .imp a b, o, i, h => by
    simp only [vpl, List.mem_append] at h
    rw [ci_imp, List.length_cons, List.length_append]
    rcases h with h | h
    · have := vpl_lt a _ i h; omega
    · have := vpl_lt b _ i h; omega
  | .neg a, o, i, h => by
    simp only [vpl] at h
    rw [ci_neg, List.length_cons]
    have := vpl_lt a _ i h; omega
/-- what stands at the unknowns' places -/
theorem vpl_get : ∀ (F : Form) (pre suf : List Int), (vpl F pre.length).map (fun i => (pre ++ ci F ++ suf).getD i 9) = (vars F).map Int.ofNat
  | .var v, pre, suf => by
    have h : (pre ++ ci (.var v) ++ suf).getD (pre.length + 1) 9 = (v : Int) := by
      simp [ci_var, List.getD]
    simp only [vpl, vars, List.map_cons, List.map_nil]
    rw [h]
    rfl
  | .imp a b, pre, suf => by
    have ea := vpl_get a (pre ++ [1]) (ci b ++ suf)
    have eb := vpl_get b (pre ++ [1] ++ ci a) suf
    have e1 : pre ++ [1] ++ ci a ++ (ci b ++ suf) = pre ++ ci (.imp a b) ++ suf := by simp [ci_imp]
    have e2 : pre ++ [1] ++ ci a ++ ci b ++ suf = pre ++ ci (.imp a b) ++ suf := by simp [ci_imp]
    rw [e1] at ea
    rw [e2] at eb
    have l1 : (pre ++ [1] : List Int).length = pre.length + 1 := by simp
    have l2 : (pre ++ [1] ++ ci a : List Int).length = pre.length + 1 + (ci a).length := by simp; omega
    rw [l1] at ea
    rw [l2] at eb
    simp only [vpl, vars, List.map_append, ea, eb]
  | .neg a, pre, suf => by
    have ea := vpl_get a (pre ++ [2]) suf
    have e1 : pre ++ [2] ++ ci a ++ suf = pre ++ ci (.neg a) ++ suf := by simp [ci_neg]
    rw [e1] at ea
    have l1 : (pre ++ [2] : List Int).length = pre.length + 1 := by simp
    rw [l1] at ea
    simp only [vpl, vars, ea]
theorem vpl_get0 (F : Form) : (vpl F 0).map (fun i => (ci F).getD i 9) = (vars F).map Int.ofNat := by
  have h := vpl_get F [] []
  simpa using h

/-! ### numbers set at the unknowns' places -/
/-- at each of some places one of some numbers -/
def setAll : List Int → List Nat → List Int → List Int
  | l, p :: ps, v :: vs => setAll (l.set p v) ps vs
  | l, _, _ => l
theorem setAll_len : ∀ (l : List Int) (ps : List Nat) (vs : List Int), (setAll l ps vs).length = l.length
  | _, [], _ => by simp [setAll]
  | _, _ :: _, [] => by simp [setAll]
  | l, p :: ps, v :: vs => by rw [setAll, setAll_len]; simp
theorem setAll_append : ∀ (l : List Int) (ps qs : List Nat) (vs ws : List Int), ps.length = vs.length → setAll l (ps ++ qs) (vs ++ ws) = setAll (setAll l ps vs) qs ws
  | l, [], qs, [], ws, _ => by simp [setAll]
  | l, p :: ps, qs, v :: vs, ws, h => by
    simp only [List.cons_append, setAll]
    exact setAll_append _ ps qs vs ws (by simpa using h)
  | l, [], qs, _ :: _, ws, h => by simp at h
  | l, _ :: _, qs, [], ws, h => by simp at h
theorem setAll_code (g : Nat → Nat) : ∀ (F : Form) (pre suf : List Int), setAll (pre ++ ci F ++ suf) (vpl F pre.length) ((vars F).map fun v => Int.ofNat (g v)) = pre ++ ci (rename g F) ++ suf
  | .var v, pre, suf => by
    simp [vpl, vars, setAll, ci_var, rename]
  | .imp a b, pre, suf => by
    have ea := setAll_code g a (pre ++ [1]) (ci b ++ suf)
    have eb := setAll_code g b (pre ++ [1] ++ ci (rename g a)) suf
    have la : (ci (rename g a)).length = (ci a).length := by
      have h := congrArg List.length ea
      rw [setAll_len] at h
      simp at h
      omega
    have l1 : (pre ++ [1] : List Int).length = pre.length + 1 := by simp
    have l2 : (pre ++ [1] ++ ci (rename g a) : List Int).length = pre.length + 1 + (ci a).length := by simp [la]; omega
    rw [l1] at ea
    rw [l2] at eb
    have e1 : pre ++ ci (.imp a b) ++ suf = pre ++ [1] ++ ci a ++ (ci b ++ suf) := by simp [ci_imp]
    simp only [vpl, vars, List.map_append]
    rw [setAll_append _ _ _ _ _ (by simp [vpl_len]), e1, ea]
    have e2 : pre ++ [1] ++ ci (rename g a) ++ (ci b ++ suf) = pre ++ [1] ++ ci (rename g a) ++ ci b ++ suf := by simp
    rw [e2, eb]
    simp [rename, ci_imp]
  | .neg a, pre, suf => by
    have ea := setAll_code g a (pre ++ [2]) suf
    have l1 : (pre ++ [2] : List Int).length = pre.length + 1 := by simp
    rw [l1] at ea
    have e1 : pre ++ ci (.neg a) ++ suf = pre ++ [2] ++ ci a ++ suf := by simp [ci_neg]
    simp only [vpl, vars]
    rw [e1, ea]
    simp [rename, ci_neg]
theorem setAll_code0 (g : Nat → Nat) (F : Form) : setAll (ci F) (vpl F 0) ((vars F).map fun v => Int.ofNat (g v)) = ci (rename g F) := by
  have h := setAll_code g F [] []
  simpa using h
theorem rename_size (g : Nat → Nat) : ∀ F : Form, size (rename g F) = size F
  | .var _ => rfl
  | .imp a b => by simp [rename, size, rename_size g a, rename_size g b]
  | .neg a => by simp [rename, size, rename_size g a]
theorem rename_vars (g : Nat → Nat) : ∀ F : Form, vars (rename g F) = (vars F).map g
  | .var _ => rfl
  | .imp a b => by simp [rename, vars, rename_vars g a, rename_vars g b]
  | .neg a => by simp [rename, vars, rename_vars g a]
end SP
end
section
set_option autoImplicit false
set_option linter.all false
namespace SP
open Vapcma (Form size vars rename normal replace code top Differ differ Fit fitBy fit FITS detach SIZE)

/-! ### putting forms for unknowns -/
def sub (t : Nat → Form) : Form → Form
  | .var v => t v
  | .imp a b => .imp (sub t a) (sub t b)
  | .neg a => .neg (sub t a)
theorem sub_id : ∀ F : Form, sub .var F = F
  | .var _ => rfl
  | .imp a b => by rw [sub, sub_id a, sub_id b]
  | .neg a => by rw [sub, sub_id a]
theorem sub_sub (t u : Nat → Form) : ∀ F : Form, sub t (sub u F) = sub (fun x => sub t (u x)) F
  | .var _ => rfl
  | .imp a b => by simp only [sub, sub_sub t u a, sub_sub t u b]
  | .neg a => by simp only [sub, sub_sub t u a]
theorem replace_sub (v : Nat) (t : Form) : ∀ F : Form, replace v t F = sub (fun x => if x = v then t else .var x) F
  | .var _ => rfl
  | .imp a b => by simp only [sub, replace, replace_sub v t a, replace_sub v t b]
  | .neg a => by simp only [sub, replace, replace_sub v t a]
theorem rename_sub (g : Nat → Nat) : ∀ F : Form, rename g F = sub (fun x => .var (g x)) F
  | .var _ => rfl
  | .imp a b => by simp only [sub, rename, rename_sub g a, rename_sub g b]
  | .neg a => by simp only [sub, rename, rename_sub g a]
theorem vars_sub (t : Nat → Form) : ∀ F : Form, vars (sub t F) = (vars F).flatMap fun x => vars (t x)
  | .var _ => by simp [sub, vars]
  | .imp a b => by simp [sub, vars, vars_sub t a, vars_sub t b]
  | .neg a => by simp [sub, vars, vars_sub t a]
theorem sub_congr {t u : Nat → Form} : ∀ {F : Form}, (∀ v ∈ vars F, t v = u v) → sub t F = sub u F
  | .var v, h => h v (by simp [vars])
  | .imp a b, h => by
    rw [sub, sub, sub_congr (F := a) fun v hv => h v (by simp [vars, hv]), sub_congr (F := b) fun v hv => h v (by simp [vars, hv])]
  | .neg a, h => by rw [sub, sub, sub_congr (F := a) fun v hv => h v (by simpa [vars] using hv)]
theorem replace_not {v : Nat} {t F : Form} (h : v ∉ vars F) : replace v t F = F := by
  rw [replace_sub]
  refine (sub_congr fun x hx => ?_).trans (sub_id F)
  have e : ¬ x = v := fun e => h (by rw [← e]; exact hx)
  rw [if_neg e]
theorem vars_replace {v : Nat} {t F : Form} {x : Nat} (h : x ∈ vars (replace v t F)) : (x ∈ vars F ∧ x ≠ v) ∨ x ∈ vars t := by
  rw [replace_sub, vars_sub, List.mem_flatMap] at h
  obtain ⟨y, hy, hx⟩ := h
  by_cases e : y = v
  · rw [if_pos e] at hx
    exact .inr hx
  · rw [if_neg e] at hx
    have : x = y := by simpa [vars] using hx
    exact .inl ⟨this ▸ hy, this ▸ e⟩
theorem sub_size_le {t : Nat → Form} : ∀ F : Form, size F ≤ size (sub t F)
  | .var v => size_pos _
  | .imp a b => by have := sub_size_le (t := t) a; have := sub_size_le (t := t) b; simp only [sub, size]; omega
  | .neg a => by have := sub_size_le (t := t) a; simp only [sub, size]; omega
theorem size_var_le {x : Nat} {t : Nat → Form} : ∀ {F : Form}, x ∈ vars F → size (t x) ≤ size (sub t F) ∧ (F ≠ .var x → size (t x) < size (sub t F))
  | .var v, h => by
    have : x = v := by simpa [vars] using h
    subst this
    exact ⟨Nat.le_refl _, fun h => absurd rfl h⟩
  | .imp a b, h => by
    have h : x ∈ vars a ∨ x ∈ vars b := by simpa [vars] using h
    have : size (t x) ≤ size (sub t a) ∨ size (t x) ≤ size (sub t b) := h.imp (fun h => (size_var_le h).1) (fun h => (size_var_le h).1)
    have := size_pos (sub t a)
    have := size_pos (sub t b)
    simp only [sub, size]
    constructor
    · omega
    · intro _; omega
  | .neg a, h => by
    have h : x ∈ vars a := by simpa [vars] using h
    have := (size_var_le (t := t) h).1
    simp only [sub, size]
    constructor
    · omega
    · intro _; omega

/-! ### bound unknowns, the latest first -/
abbrev Bd := List (Nat × Form)
def look (R : Bd) (v : Nat) : Option Form := R.lookup v
def dom (R : Bd) : List Nat := R.map (·.1)
/-- all put in -/
def app : Bd → Form → Form
  | [], F => F
  | (v, g) :: R, F => replace v (app R g) (app R F)
/-- what's put for an unknown, until that's no bound unknown -/
def wk : Bd → Form → Form
  | [], F => F
  | (u, g) :: R, F => if wk R F = .var u then g else wk R F
/-- how often -/
def wn : Bd → Form → Nat
  | [], _ => 0
  | (u, _) :: R, F => if wk R F = .var u then wn R F + 1 else wn R F
def free (R : Bd) (F : Form) : Prop := ∀ v, F = .var v → v ∉ dom R
def Valid : Bd → Prop
  | [] => True
  | (v, g) :: R => Valid R ∧ v ∉ dom R ∧ free R g ∧ v ∉ vars (app R g)
theorem look_none {R : Bd} {v : Nat} : look R v = none ↔ v ∉ dom R := by
  induction R with
  | nil => simp [look, dom]
  | cons p R ih =>
    obtain ⟨u, g⟩ := p
    by_cases e : v = u
    · subst e; simp [look, dom]
    · have q : (v == u) = false := by simpa using e
      simp only [look, dom, List.lookup, q, List.map_cons, List.mem_cons, not_or] at ih ⊢
      rw [ih]
      exact ⟨fun h => ⟨e, h⟩, fun h => h.2⟩
theorem look_cons_self {R : Bd} {v : Nat} {g : Form} : look ((v, g) :: R) v = some g := by simp [look, List.lookup]
theorem look_cons_ne {R : Bd} {u v : Nat} {g : Form} (h : v ≠ u) : look ((u, g) :: R) v = look R v := by
  have q : (v == u) = false := by simpa using h
  simp [look, List.lookup, q]
theorem look_mem {R : Bd} {v : Nat} {g : Form} (h : look R v = some g) : (v, g) ∈ R := by
  induction R with
  | nil => simp [look] at h
  | cons p R ih =>
    obtain ⟨u, k⟩ := p
    by_cases e : v = u
    · subst e
      rw [look_cons_self] at h
      cases h
      exact List.mem_cons_self
    · rw [look_cons_ne e] at h
      exact List.mem_cons_of_mem _ (ih h)
theorem look_dom {R : Bd} {v : Nat} {g : Form} (h : look R v = some g) : v ∈ dom R := List.mem_map.mpr ⟨_, look_mem h, rfl⟩
theorem app_imp (R : Bd) (a b : Form) : app R (.imp a b) = .imp (app R a) (app R b) := by
  induction R with
  | nil => rfl
  | cons p R ih => obtain ⟨u, g⟩ := p; simp only [app, ih, replace]
theorem app_neg (R : Bd) (a : Form) : app R (.neg a) = .neg (app R a) := by
  induction R with
  | nil => rfl
  | cons p R ih => obtain ⟨u, g⟩ := p; simp only [app, ih, replace]
theorem app_sub (R : Bd) : ∀ F : Form, app R F = sub (fun x => app R (.var x)) F
  | .var _ => rfl
  | .imp a b => by rw [app_imp, sub, app_sub R a, app_sub R b]
  | .neg a => by rw [app_neg, sub, app_sub R a]
theorem app_var {R : Bd} {v : Nat} (h : v ∉ dom R) : app R (.var v) = .var v := by
  induction R with
  | nil => rfl
  | cons p R ih =>
    obtain ⟨u, g⟩ := p
    simp only [dom, List.map_cons, List.mem_cons, not_or] at h
    rw [app, ih h.2, replace, if_neg h.1]
theorem app_dom : ∀ {R : Bd}, Valid R → ∀ {v : Nat}, v ∈ dom R → ∀ F, v ∉ vars (app R F)
  | [], _, v, hv, _ => by simp [dom] at hv
  | (u, g) :: R, hV, v, hv, F => by
    obtain ⟨h1, h2, h3, h4⟩ := hV
    intro hx
    simp only [app] at hx
    simp only [dom, List.map_cons, List.mem_cons] at hv
    rcases vars_replace hx with ⟨hy, hne⟩ | hy
    · rcases hv with rfl | hv
      · exact hne rfl
      · exact app_dom h1 hv F hy
    · rcases hv with rfl | hv
      · exact h4 hy
      · exact app_dom h1 hv g hy
theorem app_look : ∀ {R : Bd}, Valid R → ∀ {v : Nat} {g : Form}, look R v = some g → app R (.var v) = app R g
  | [], _, v, g, h => by simp [look] at h
  | (u, k) :: R, hV, v, g, h => by
    obtain ⟨h1, h2, h3, h4⟩ := hV
    by_cases e : v = u
    · subst e
      rw [look_cons_self] at h
      cases h
      rw [app, app, app_var h2, replace, if_pos rfl, replace_not h4]
    · rw [look_cons_ne e] at h
      rw [app, app, app_look h1 h]
theorem wk_free {R : Bd} {F : Form} (h : free R F) : wk R F = F ∧ wn R F = 0 := by
  induction R with
  | nil => exact ⟨rfl, rfl⟩
  | cons p R ih =>
    obtain ⟨u, g⟩ := p
    have hf : free R F := fun v e hv => h v e (by simp only [dom, List.map_cons, List.mem_cons]; exact .inr hv)
    obtain ⟨e1, e2⟩ := ih hf
    have hne : F ≠ .var u := fun e => h u e (by simp [dom])
    constructor
    · rw [wk, e1, if_neg hne]
    · rw [wn, e1, if_neg hne, e2]
theorem wk_imp (R : Bd) (a b : Form) : wk R (.imp a b) = .imp a b := (wk_free fun v h => by cases h).1
theorem wk_neg (R : Bd) (a : Form) : wk R (.neg a) = .neg a := (wk_free fun v h => by cases h).1
theorem wk_step : ∀ {R : Bd}, Valid R → ∀ {v : Nat} {g : Form}, look R v = some g → wk R (.var v) = wk R g ∧ wn R (.var v) = wn R g + 1
  | [], _, v, g, h => by simp [look] at h
  | (u, k) :: R, hV, v, g, h => by
    obtain ⟨h1, h2, h3, h4⟩ := hV
    by_cases e : v = u
    · subst e
      rw [look_cons_self] at h
      cases h
      have f1 : free R (.var v) := fun w e => by cases e; exact h2
      obtain ⟨a1, a2⟩ := wk_free f1
      obtain ⟨b1, b2⟩ := wk_free h3
      have hne : k ≠ .var v := fun e => by
        subst e
        rw [app_var h2] at h4
        simp [vars] at h4
      simp only [wk, wn, a1, a2, b1, b2, if_neg hne, if_pos, and_self]
    · rw [look_cons_ne e] at h
      obtain ⟨a1, a2⟩ := wk_step h1 h
      simp only [wk, wn, a1, a2]
      refine ⟨trivial, ?_⟩
      by_cases q : wk R g = .var u
      · rw [if_pos q, if_pos q]
      · rw [if_neg q, if_neg q]
theorem wk_app : ∀ {R : Bd}, Valid R → ∀ F, app R (wk R F) = app R F
  | [], _, F => rfl
  | (u, g) :: R, hV, F => by
    have hV0 := hV
    obtain ⟨h1, h2, h3, h4⟩ := hV
    have ih := wk_app h1 F
    by_cases q : wk R F = .var u
    · rw [wk, if_pos q]
      show replace u (app R g) (app R g) = replace u (app R g) (app R F)
      rw [← ih, q, app_var h2, replace, if_pos rfl, replace_not h4]
    · rw [wk, if_neg q]
      show replace u (app R g) (app R (wk R F)) = replace u (app R g) (app R F)
      rw [ih]
theorem wk_is_free : ∀ {R : Bd}, Valid R → ∀ F, free R (wk R F)
  | [], _, F => fun _ _ h => by simp [dom] at h
  | (u, g) :: R, hV, F => by
    obtain ⟨h1, h2, h3, h4⟩ := hV
    have ih := wk_is_free h1 F
    by_cases q : wk R F = .var u
    · rw [wk, if_pos q]
      intro v e hv
      simp only [dom, List.map_cons, List.mem_cons] at hv
      rcases hv with rfl | hv
      · subst e
        rw [app_var h2] at h4
        simp [vars] at h4
      · exact h3 v e hv
    · rw [wk, if_neg q]
      intro v e hv
      simp only [dom, List.map_cons, List.mem_cons] at hv
      rcases hv with rfl | hv
      · exact q e
      · exact ih v e hv
theorem dom_nodup : ∀ {R : Bd}, Valid R → (dom R).Nodup
  | [], _ => by simp [dom]
  | (u, g) :: R, h => by
    simp only [dom, List.map_cons]
    exact List.nodup_cons.mpr ⟨h.2.1, dom_nodup h.1⟩
theorem valid_look : ∀ {R : Bd}, Valid R → ∀ {v : Nat} {g : Form}, (v, g) ∈ R → look R v = some g
  | [], _, v, g, h => by simp at h
  | (u, k) :: R, hV, v, g, h => by
    rcases List.mem_cons.mp h with e | h
    · cases e
      exact look_cons_self
    · have : v ≠ u := fun e => hV.2.1 (e ▸ List.mem_map.mpr ⟨_, h, rfl⟩)
      rw [look_cons_ne this]
      exact valid_look hV.1 h
end SP
end
section
set_option autoImplicit false
set_option linter.all false
namespace SP
open Vapcma (Form size vars rename normal replace code top Differ differ Fit fitBy fit FITS detach SIZE)

/-! ### sizes, depths -/
def dep : Form → Nat
  | .var _ => 0
  | .imp a b => max (dep a) (dep b) + 1
  | .neg a => dep a + 1
theorem dep_lt_size : ∀ F : Form, dep F < size F
  | .var _ => by simp [dep, size]
  | .imp a b => by
    have := dep_lt_size a
    have := dep_lt_size b
    simp only [dep, size]
    omega
  | .neg a => by have := dep_lt_size a; simp only [dep, size]; omega
/-- what falls from an unknown to those that stand in what's put for it -/
def pos : Bd → Nat → Nat
  | [], _ => 0
  | (u, _) :: R, v => if v = u then 0 else pos R v + 1
theorem pos_le : ∀ (R : Bd) (v : Nat), pos R v ≤ R.length
  | [], _ => Nat.le_refl _
  | (u, _) :: R, v => by
    have := pos_le R v
    unfold pos
    split <;> simp <;> omega
def key (R : Bd) (v : Nat) : Nat := size (app R (.var v)) * (R.length + 1) + pos R v
theorem pos_chain : ∀ {R : Bd}, Valid R → ∀ {v w : Nat}, look R v = some (.var w) → w ∈ dom R → pos R w < pos R v
  | [], _, v, w, h, _ => by simp [look] at h
  | (u, k) :: R, hV, v, w, h, hw => by
    obtain ⟨h1, h2, h3, h4⟩ := hV
    by_cases e : v = u
    · subst e
      rw [look_cons_self] at h
      cases h
      exfalso
      simp only [dom, List.map_cons, List.mem_cons] at hw
      rcases hw with rfl | hw
      · rw [app_var h2] at h4
        simp [vars] at h4
      · exact h3 w rfl hw
    · rw [look_cons_ne e] at h
      simp only [dom, List.map_cons, List.mem_cons] at hw
      unfold pos
      rw [if_neg e]
      by_cases q : w = u
      · rw [if_pos q]
        omega
      · rw [if_neg q]
        have := pos_chain h1 h (hw.resolve_left q)
        omega
theorem key_lt {R : Bd} (hV : Valid R) {v w : Nat} {g : Form} (h : look R v = some g) (hw : w ∈ vars g) (hd : w ∈ dom R) : key R w < key R v := by
  have e : app R (.var v) = app R g := app_look hV h
  have hs := size_var_le (t := fun x => app R (.var x)) hw
  rw [← app_sub R g] at hs
  have p1 := pos_le R w
  unfold key
  rw [e]
  by_cases q : g = .var w
  · subst q
    have := pos_chain hV h hd
    omega
  · have := hs.2 q
    have h2 : (size (app R (.var w)) + 1) * (R.length + 1) ≤ size (app R g) * (R.length + 1) := Nat.mul_le_mul_right _ this
    rw [Nat.add_mul] at h2
    omega
def sumD (R : Bd) (L : List (Nat × Form)) (k : Nat) : Nat := (L.map fun p => if key R p.1 < k then dep p.2 else 0).sum
theorem sumD_mono {R : Bd} {k k' : Nat} (h : k ≤ k') : ∀ L, sumD R L k ≤ sumD R L k'
  | [] => Nat.le_refl _
  | p :: L => by
    have := sumD_mono (R := R) h L
    simp only [sumD, List.map_cons, List.sum_cons] at this ⊢
    by_cases q : key R p.1 < k
    · rw [if_pos q, if_pos (by omega)]
      omega
    · rw [if_neg q]
      omega
theorem sumD_more {R : Bd} {k : Nat} {v : Nat} {g : Form} (h : key R v < k) : ∀ {L : List (Nat × Form)}, (v, g) ∈ L → sumD R L (key R v) + dep g ≤ sumD R L k
  | [], hm => by simp at hm
  | p :: L, hm => by
    have mono := sumD_mono (R := R) (k := key R v) (k' := k) (by omega)
    rcases List.mem_cons.mp hm with e | hm
    · subst e
      have := mono L
      simp only [sumD, List.map_cons, List.sum_cons] at this ⊢
      rw [if_neg (by omega), if_pos h]
      omega
    · have := sumD_more h hm
      simp only [sumD, List.map_cons, List.sum_cons] at this ⊢
      by_cases q : key R p.1 < key R v
      · rw [if_pos q, if_pos (by omega)]
        omega
      · rw [if_neg q]
        omega
theorem dep_app {R : Bd} (hV : Valid R) : ∀ (k : Nat) (F : Form), (∀ v ∈ vars F, v ∈ dom R → key R v < k) → dep (app R F) ≤ dep F + sumD R R k := by
  intro k
  induction k using Nat.strongRecOn with
  | ind k ih =>
    intro F
    induction F with
    | var v =>
      intro h
      by_cases hd : v ∈ dom R
      · cases hl : look R v with
        | none => exact absurd hd (look_none.mp hl)
        | some g =>
          have hk := h v (by simp [vars]) hd
          rw [app_look hV hl]
          have h1 := ih _ hk g fun w hw hwd => key_lt hV hl hw hwd
          have h2 := sumD_more hk (look_mem hl)
          simp only [dep]
          omega
      · rw [app_var hd]
        simp [dep]
    | imp a b iha ihb =>
      intro h
      have ha := iha fun v hv => h v (by simp [vars, hv])
      have hb := ihb fun v hv => h v (by simp [vars, hv])
      rw [app_imp]
      simp only [dep]
      omega
    | neg a iha =>
      intro h
      have ha := iha fun v hv => h v (by simpa [vars] using hv)
      rw [app_neg]
      simp only [dep]
      omega
theorem sumD_le {R : Bd} {k m : Nat} : ∀ {L : List (Nat × Form)}, (∀ p ∈ L, size p.2 ≤ m) → sumD R L k ≤ L.length * m
  | [], _ => by simp [sumD]
  | p :: L, h => by
    have := sumD_le (R := R) (k := k) (L := L) fun q hq => h q (List.mem_cons_of_mem _ hq)
    have h1 := h p List.mem_cons_self
    have h2 := dep_lt_size p.2
    simp only [sumD, List.map_cons, List.sum_cons, List.length_cons] at this ⊢
    rw [Nat.add_mul, Nat.one_mul]
    split <;> omega
theorem key_le (R : Bd) : ∃ k, ∀ v ∈ dom R, key R v < k := by
  have : ∀ l : List Nat, ∃ k, ∀ v ∈ l, key R v < k := by
    intro l
    induction l with
    | nil => exact ⟨0, fun v h => by simp at h⟩
    | cons a l ih =>
      obtain ⟨k, hk⟩ := ih
      refine ⟨k + key R a + 1, fun v hv => ?_⟩
      rcases List.mem_cons.mp hv with rfl | hv
      · omega
      · have := hk v hv
        omega
  exact this _
theorem dep_app_le {R : Bd} (hV : Valid R) {m : Nat} (hs : ∀ p ∈ R, size p.2 ≤ m) (F : Form) : dep (app R F) ≤ dep F + R.length * m := by
  obtain ⟨k, hk⟩ := key_le R
  have h1 := dep_app hV k F fun v _ hd => hk v hd
  have h2 := sumD_le (R := R) (k := k) hs
  omega

/-! ### a form within another one, so deep -/
inductive At : Nat → Form → Form → Prop where
  | here (F : Form) : At 0 F F
  | left {n : Nat} {a S : Form} (b : Form) : At n a S → At (n + 1) (.imp a b) S
  | right {n : Nat} {b S : Form} (a : Form) : At n b S → At (n + 1) (.imp a b) S
  | under {n : Nat} {a S : Form} : At n a S → At (n + 1) (.neg a) S
theorem At.dep {n : Nat} {T S : Form} (h : At n T S) : n + dep S ≤ dep T := by
  induction h with
  | here F => simp
  | left b _ ih => simp only [SP.dep]; omega
  | right a _ ih => simp only [SP.dep]; omega
  | under _ ih => simp only [SP.dep]; omega
theorem At.sub {n : Nat} {T S : Form} (t : Nat → Form) (h : At n T S) : At n (sub t T) (sub t S) := by
  induction h with
  | here F => exact .here _
  | left b _ ih => exact .left _ ih
  | right a _ ih => exact .right _ ih
  | under _ ih => exact .under ih
theorem At.trans {n m : Nat} {T S U : Form} (h : At n T S) (h2 : At m S U) : At (n + m) T U := by
  induction h with
  | here F => rw [Nat.zero_add]; exact h2
  | left b _ ih => rw [Nat.succ_add]; exact .left b (ih h2)
  | right a _ ih => rw [Nat.succ_add]; exact .right a (ih h2)
  | under _ ih => rw [Nat.succ_add]; exact .under (ih h2)
end SP
end
section
set_option autoImplicit false
set_option linter.all false
namespace SP
open Vapcma (Form size vars rename normal replace code top Differ differ Fit fitBy fit FITS detach SIZE)

/-! ### made the same, step by step -/
def dAll : List (Form × Form) → Differ
  | [] => .same
  | p :: r => match differ p.1 p.2 with
    | .same => dAll r
    | d => d
theorem differ_self : ∀ F : Form, differ F F = .same
  | .var x => by simp [differ]
  | .imp a b => by simp [differ, differ_self a, differ_self b]
  | .neg a => by simp [differ, differ_self a]
theorem dAll_cons_same {p : Form × Form} {r : List (Form × Form)} (h : p.1 = p.2) : dAll (p :: r) = dAll r := by
  rw [dAll, h, differ_self]
theorem dAll_cons_not {p : Form × Form} {r : List (Form × Form)} {d : Differ} (h : differ p.1 p.2 = d) (hd : d ≠ .same) : dAll (p :: r) = d := by
  rw [dAll, h]
  cases d with
  | same => exact absurd rfl hd
  | at_ _ _ => rfl
  | clash => rfl
theorem dAll_imp (a b c d : Form) (r : List (Form × Form)) : dAll ((.imp a b, .imp c d) :: r) = dAll ((a, c) :: (b, d) :: r) := by
  simp only [dAll, differ]
  cases differ a c <;> rfl
theorem dAll_neg (a c : Form) (r : List (Form × Form)) : dAll ((.neg a, .neg c) :: r) = dAll ((a, c) :: r) := by
  simp only [dAll, differ]
theorem differ_var_left {x : Nat} {T : Form} (h : T ≠ .var x) : differ (.var x) T = .at_ x T := by
  cases T with
  | var y =>
    have : x ≠ y := fun e => h (by rw [e])
    simp [differ, this]
  | imp a b => rfl
  | neg a => rfl
theorem differ_var_right {y : Nat} {T : Form} (h : ∀ x, T ≠ .var x) : differ T (.var y) = .at_ y T := by
  cases T with
  | var x => exact absurd rfl (h x)
  | imp a b => rfl
  | neg a => rfl
def msStep (R : Bd) (one other : Form) (W : List (Form × Form)) : Option (Bd × List (Form × Form)) :=
  if wk R one = wk R other then some (R, W) else match wk R one, wk R other with
  | .var x, c => if x ∈ vars (app R c) then none else some ((x, c) :: R, W)
  | a, .var y => if y ∈ vars (app R a) then none else some ((y, a) :: R, W)
  | .imp a1 a2, .imp c1 c2 => some (R, (a1, c1) :: (a2, c2) :: W)
  | .neg a1, .neg c1 => some (R, (a1, c1) :: W)
  | _, _ => none
/-- what the walk wants of a state -/
structure MOk (m : Nat) (R : Bd) (W : List (Form × Form)) : Prop where
  valid : Valid R
  szR : ∀ p ∈ R, size p.2 ≤ m
  szW : ∀ p ∈ W, size p.1 ≤ m ∧ size p.2 ≤ m
  lenR : R.length ≤ 2 * m
  lenW : W.length ≤ m + 2 * m * m + 2
inductive Ms (m : Nat) : Bd → List (Form × Form) → Nat → Option Bd → Prop where
  | done {R : Bd} : MOk m R [] → Ms m R [] 0 (some R)
  | fail {R : Bd} {p : Form × Form} {W : List (Form × Form)} : MOk m R (p :: W) → msStep R p.1 p.2 W = none → Ms m R (p :: W) 0 none
  | step {R : Bd} {p : Form × Form} {W : List (Form × Form)} {S : Bd × List (Form × Form)} {n : Nat} {r : Option Bd} : MOk m R (p :: W) → msStep R p.1 p.2 W = some S → Ms m S.1 S.2 n r → Ms m R (p :: W) (n + 1) r

/-! ### how deep the pairs stand -/
def Lv (T : Form) : Nat → List Form → Prop
  | _, [] => True
  | n, e :: l => ∃ k, k < n ∧ At k T e ∧ Lv T k l
theorem Lv.mono {T : Form} : ∀ {l : List Form} {n k : Nat}, n ≤ k → Lv T n l → Lv T k l
  | [], _, _, _, _ => trivial
  | _ :: _, _, _, h, ⟨j, h1, h2, h3⟩ => ⟨j, by omega, h2, h3⟩
theorem Lv.sub {T : Form} (t : Nat → Form) : ∀ {l : List Form} {n : Nat}, Lv T n l → Lv (sub t T) n (l.map (SP.sub t))
  | [], _, _ => trivial
  | _ :: _, _, ⟨j, h1, h2, h3⟩ => ⟨j, h1, h2.sub t, h3.sub t⟩
theorem Lv.len {T : Form} : ∀ {l : List Form} {n : Nat}, Lv T n l → l.length ≤ n
  | [], _, _ => Nat.zero_le _
  | _ :: _, _, ⟨_, h1, _, h3⟩ => by have := h3.len; simp; omega
def Stk (T : Form) : List Form → Prop
  | [] => True
  | e :: l => ∃ k, At k T e ∧ Lv T (k + 1) l
theorem Stk.sub {T : Form} (t : Nat → Form) : ∀ {l : List Form}, Stk T l → Stk (sub t T) (l.map (SP.sub t))
  | [], _ => trivial
  | _ :: _, ⟨j, h1, h2⟩ => ⟨j, h1.sub t, h2.sub t⟩
theorem Stk.len {T : Form} : ∀ {l : List Form}, Stk T l → l.length ≤ dep T + 2
  | [], _ => Nat.zero_le _
  | _ :: _, ⟨j, h1, h2⟩ => by have := h1.dep; have := h2.len; simp; omega
theorem Stk.pop {T e : Form} {l : List Form} (h : Stk T (e :: l)) : Stk T l := by
  obtain ⟨k, _, h2⟩ := h
  cases l with
  | nil => trivial
  | cons f l =>
    obtain ⟨j, hj, a, b⟩ := h2
    exact ⟨j, a, b.mono (by omega)⟩
theorem Stk.imp {T a b : Form} {l : List Form} (h : Stk T (.imp a b :: l)) : Stk T (a :: b :: l) := by
  obtain ⟨k, h1, h2⟩ := h
  exact ⟨k + 1, h1.trans (.left b (.here a)), k + 1, by omega, h1.trans (.right a (.here b)), h2⟩
theorem Stk.neg {T a : Form} {l : List Form} (h : Stk T (.neg a :: l)) : Stk T (a :: l) := by
  obtain ⟨k, h1, h2⟩ := h
  exact ⟨k + 1, h1.trans (.under (.here a)), h2.mono (by omega)⟩

theorem wk_mem : ∀ (R : Bd) (F : Form), wk R F = F ∨ ∃ p ∈ R, wk R F = p.2
  | [], F => .inl rfl
  | (u, g) :: R, F => by
    unfold wk
    by_cases q : wk R F = .var u
    · rw [if_pos q]
      exact .inr ⟨(u, g), List.mem_cons_self, rfl⟩
    · rw [if_neg q]
      rcases wk_mem R F with h | ⟨p, h1, h2⟩
      · exact .inl h
      · exact .inr ⟨p, List.mem_cons_of_mem _ h1, h2⟩

section
variable (F0 G0 H0 : Form) (N m : Nat)
def nums : List Nat := (vars F0 ++ vars G0).eraseDups
structure MI (R : Bd) (W : List (Form × Form)) : Prop where
  valid : Valid R
  szR : ∀ p ∈ R, size p.2 ≤ m ∧ ∀ v ∈ vars p.2, v ∈ nums F0 G0
  dm : ∀ v ∈ dom R, v ∈ nums F0 G0
  szW : ∀ p ∈ W, (size p.1 ≤ m ∧ ∀ v ∈ vars p.1, v ∈ nums F0 G0) ∧ (size p.2 ≤ m ∧ ∀ v ∈ vars p.2, v ∈ nums F0 G0)
  stk : Stk (app R F0) (W.map fun p => app R p.1)
  diff : ∀ t : Nat → Form, differ (sub t (app R F0)) (sub t (app R G0)) = dAll (W.map fun p => (sub t (app R p.1), sub t (app R p.2)))
  link : (fitBy (N - R.length) (app R F0) (app R G0) (app R H0) = fitBy N F0 G0 H0 ∧ size (app R F0) ≤ FITS) ∨ (fitBy N F0 G0 H0 = .large ∧ FITS < size (app R F0))
variable {F0 G0 H0 N m}
theorem MI.len (hN : N = (nums F0 G0).length + 1) {R : Bd} {W : List (Form × Form)} (h : MI F0 G0 H0 N m R W) : R.length < N := by
  have := nodup_sub_len (dom_nodup h.valid) h.dm
  simp only [dom, List.length_map] at this
  omega
def weight (R : Bd) (W : List (Form × Form)) : Nat := (W.map fun p => size (app R p.1)).sum
/-- what a binding does -/
theorem MI.bind (hN : N = (nums F0 G0).length + 1) {R : Bd} {W : List (Form × Form)} {p : Form × Form} (h : MI F0 G0 H0 N m R (p :: W)) {x : Nat} {c : Form} (hx : x ∉ dom R) (hc : free R c) (ho : x ∉ vars (app R c))
    (hsz : size c ≤ m ∧ ∀ v ∈ vars c, v ∈ nums F0 G0) (hxn : x ∈ nums F0 G0)
    (hd : differ (app R p.1) (app R p.2) = .at_ x (app R c)) (he : replace x (app R c) (app R p.1) = replace x (app R c) (app R p.2)) : MI F0 G0 H0 N m ((x, c) :: R) W := by
  have hl := h.len hN
  refine ⟨⟨h.valid, hx, hc, ho⟩, ?_, ?_, ?_, ?_, ?_, ?_⟩
  · intro q hq
    rcases List.mem_cons.mp hq with rfl | hq
    · exact hsz
    · exact h.szR q hq
  · intro v hv
    simp only [dom, List.map_cons, List.mem_cons] at hv
    rcases hv with rfl | hv
    · exact hxn
    · exact h.dm v hv
  · exact fun q hq => h.szW q (List.mem_cons_of_mem _ hq)
  · have := (h.stk.pop).sub fun y => if y = x then app R c else .var y
    rw [← replace_sub, List.map_map] at this
    have e : (W.map fun p => app ((x, c) :: R) p.1) = W.map (SP.sub (fun y => if y = x then app R c else .var y) ∘ fun p => app R p.1) := by
      refine List.map_congr_left fun q _ => ?_
      show replace x (app R c) (app R q.1) = _
      rw [replace_sub]
      rfl
    rw [e]
    exact this
  · intro t
    have := h.diff fun y => SP.sub t (if y = x then app R c else .var y)
    rw [List.map_cons, dAll_cons_same] at this
    · simp only [app, replace_sub, sub_sub]
      exact this
    · simp only [← sub_sub, ← replace_sub]
      rw [he]
  · have hsize : size (app R F0) ≤ size (app ((x, c) :: R) F0) := by
      show _ ≤ size (replace x (app R c) (app R F0))
      rw [replace_sub]
      exact sub_size_le _
    rcases h.link with ⟨h1, h2⟩ | ⟨h1, h2⟩
    · have d0 := h.diff .var
      simp only [sub_id, List.map_cons] at d0
      rw [dAll_cons_not hd (by simp)] at d0
      obtain ⟨k, hk⟩ : ∃ k, N - R.length = k + 1 := ⟨N - R.length - 1, by omega⟩
      rw [hk, fitBy] at h1
      rw [d0] at h1
      simp only at h1
      have hcn : ((vars (app R c)).contains x) = false := by simpa using ho
      rw [if_neg (by rw [hcn]; decide)] at h1
      by_cases hs : FITS < size (replace x (app R c) (app R F0))
      · rw [if_pos hs] at h1
        exact .inr ⟨h1.symm, hs⟩
      · rw [if_neg hs] at h1
        refine .inl ⟨?_, Nat.le_of_not_lt hs⟩
        have : N - ((x, c) :: R).length = k := by simp; omega
        rw [this]
        exact h1
    · exact .inr ⟨h1, by omega⟩
theorem MI.no {R : Bd} {W : List (Form × Form)} {p : Form × Form} (hN : N = (nums F0 G0).length + 1) (h : MI F0 G0 H0 N m R (p :: W)) (hd : differ (app R p.1) (app R p.2) = .clash ∨ ∃ x T, differ (app R p.1) (app R p.2) = .at_ x T ∧ x ∈ vars T) :
    fitBy N F0 G0 H0 = .no ∨ fitBy N F0 G0 H0 = .large := by
  have hl := h.len hN
  rcases h.link with ⟨h1, h2⟩ | ⟨h1, h2⟩
  · have d0 := h.diff .var
    simp only [sub_id, List.map_cons] at d0
    obtain ⟨k, hk⟩ : ∃ k, N - R.length = k + 1 := ⟨N - R.length - 1, by omega⟩
    rw [hk, fitBy] at h1
    rcases hd with hd | ⟨x, T, hd, hx⟩
    · rw [dAll_cons_not hd (by simp)] at d0
      rw [d0] at h1
      exact .inl h1.symm
    · rw [dAll_cons_not hd (by simp)] at d0
      rw [d0] at h1
      simp only at h1
      have hcn : ((vars T).contains x) = true := by simpa using hx
      rw [if_pos hcn] at h1
      exact .inl h1.symm
  · exact .inr h1
theorem MI.mok (hN : N = (nums F0 G0).length + 1) (hm : size F0 ≤ m ∧ size G0 ≤ m) {R : Bd} {W : List (Form × Form)} (h : MI F0 G0 H0 N m R W) : MOk m R W := by
  have hl := h.len hN
  have hn : (nums F0 G0).length ≤ 2 * m := by
    have h1 : (nums F0 G0).length ≤ (vars F0 ++ vars G0).length := eraseDups_len _
    have := vars_le F0
    have := vars_le G0
    rw [List.length_append] at h1
    omega
  refine ⟨h.valid, fun p hp => (h.szR p hp).1, fun p hp => ⟨(h.szW p hp).1.1, (h.szW p hp).2.1⟩, by omega, ?_⟩
  have h1 := h.stk.len
  have h2 := dep_app_le h.valid (fun p hp => (h.szR p hp).1) F0
  have h3 := dep_lt_size F0
  rw [List.length_map] at h1
  have h4 : R.length * m ≤ 2 * m * m := Nat.mul_le_mul_right _ (by omega)
  omega
/-- a step keeps the invariant, and something falls; or there is no way -/
theorem MI.step (hN : N = (nums F0 G0).length + 1) {R : Bd} {W : List (Form × Form)} {p : Form × Form} (h : MI F0 G0 H0 N m R (p :: W)) :
    (msStep R p.1 p.2 W = none → fitBy N F0 G0 H0 = .no ∨ fitBy N F0 G0 H0 = .large) ∧
    (∀ S, msStep R p.1 p.2 W = some S → MI F0 G0 H0 N m S.1 S.2 ∧ (N - S.1.length < N - R.length ∨ (S.1 = R ∧ weight R S.2 < weight R (p :: W)))) := by
  have hl := h.len hN
  have w1 := wk_app h.valid p.1
  have w2 := wk_app h.valid p.2
  have f1 := wk_is_free h.valid p.1
  have f2 := wk_is_free h.valid p.2
  have hp := h.szW p List.mem_cons_self
  have s1 : size (wk R p.1) ≤ m ∧ ∀ v ∈ vars (wk R p.1), v ∈ nums F0 G0 := by
    rcases wk_mem R p.1 with e | ⟨q, hq, e⟩
    · rw [e]; exact hp.1
    · rw [e]; exact h.szR q hq
  have s2 : size (wk R p.2) ≤ m ∧ ∀ v ∈ vars (wk R p.2), v ∈ nums F0 G0 := by
    rcases wk_mem R p.2 with e | ⟨q, hq, e⟩
    · rw [e]; exact hp.2
    · rw [e]; exact h.szR q hq
  have wt : weight R (p :: W) = size (app R p.1) + weight R W := by simp [weight]
  have hpos := size_pos (app R p.1)
  unfold msStep
  by_cases e : wk R p.1 = wk R p.2
  · rw [if_pos e]
    refine ⟨fun z => by simp at z, fun S hS => ?_⟩
    cases hS
    have eq : app R p.1 = app R p.2 := by rw [← w1, ← w2, e]
    refine ⟨⟨h.valid, h.szR, h.dm, fun q hq => h.szW q (List.mem_cons_of_mem _ hq), h.stk.pop, fun t => ?_, h.link⟩, .inr ⟨rfl, by dsimp only; omega⟩⟩
    have := h.diff t
    rw [List.map_cons, dAll_cons_same (by rw [eq])] at this
    exact this
  · rw [if_neg e]
    generalize ha : wk R p.1 = a at *
    generalize hc : wk R p.2 = c at *
    cases a with
    | var x =>
      have hx : x ∉ dom R := f1 x rfl
      have a1 : app R p.1 = .var x := by rw [← w1, app_var hx]
      have hT : app R c ≠ .var x := by
        intro z
        cases c with
        | var y =>
          have hy : y ∉ dom R := f2 y rfl
          rw [app_var hy] at z
          exact e z.symm
        | imp _ _ => rw [app_imp] at z; cases z
        | neg _ => rw [app_neg] at z; cases z
      have hd : differ (app R p.1) (app R p.2) = .at_ x (app R c) := by
        rw [a1, ← w2]
        exact differ_var_left hT
      by_cases q : x ∈ vars (app R c)
      · simp only [if_pos q]
        exact ⟨fun _ => h.no hN (.inr ⟨x, _, hd, q⟩), fun S hS => by simp at hS⟩
      · simp only [if_neg q]
        refine ⟨fun z => by simp at z, fun S hS => ?_⟩
        cases hS
        refine ⟨h.bind hN hx f2 q s2 (s1.2 x (by simp [vars])) hd ?_, .inl (by simp; omega)⟩
        rw [a1, ← w2, replace, if_pos rfl, replace_not q]
    | imp a1 a2 =>
      cases c with
      | var y =>
        have hy : y ∉ dom R := f2 y rfl
        have c1 : app R p.2 = .var y := by rw [← w2, app_var hy]
        have hd : differ (app R p.1) (app R p.2) = .at_ y (app R (.imp a1 a2)) := by
          rw [c1, ← w1]
          exact differ_var_right fun x z => by rw [app_imp] at z; cases z
        by_cases q : y ∈ vars (app R (.imp a1 a2))
        · simp only [if_pos q]
          exact ⟨fun _ => h.no hN (.inr ⟨y, _, hd, q⟩), fun S hS => by simp at hS⟩
        · simp only [if_neg q]
          refine ⟨fun z => by simp at z, fun S hS => ?_⟩
          cases hS
          refine ⟨h.bind hN hy f1 q s1 (s2.2 y (by simp [vars])) hd ?_, .inl (by simp; omega)⟩
          rw [c1, ← w1, replace_not q, replace, if_pos rfl]
      | imp c1 c2 =>
        refine ⟨fun z => by simp at z, fun S hS => ?_⟩
        cases hS
        have e1 : app R p.1 = .imp (app R a1) (app R a2) := by rw [← w1, app_imp]
        have e2 : app R p.2 = .imp (app R c1) (app R c2) := by rw [← w2, app_imp]
        have q1 := s1.1
        have q2 := s2.1
        simp only [size] at q1 q2
        refine ⟨⟨h.valid, h.szR, h.dm, fun q hq => ?_, ?_, fun t => ?_, h.link⟩, .inr ⟨rfl, ?_⟩⟩
        · rcases List.mem_cons.mp hq with rfl | hq
          · exact ⟨⟨by dsimp only; omega, fun v hv => s1.2 v (by simp [vars, hv])⟩, ⟨by dsimp only; omega, fun v hv => s2.2 v (by simp [vars, hv])⟩⟩
          · rcases List.mem_cons.mp hq with rfl | hq
            · exact ⟨⟨by dsimp only; omega, fun v hv => s1.2 v (by simp [vars, hv])⟩, ⟨by dsimp only; omega, fun v hv => s2.2 v (by simp [vars, hv])⟩⟩
            · exact h.szW q (List.mem_cons_of_mem _ hq)
        · have := h.stk
          rw [List.map_cons, e1] at this
          exact this.imp
        · have := h.diff t
          rw [List.map_cons, e1, e2] at this
          simp only [SP.sub] at this
          rw [dAll_imp] at this
          exact this
        · rw [wt, e1]
          simp only [weight, List.map_cons, List.sum_cons, size]
          omega
      | neg c1 =>
        refine ⟨fun _ => h.no hN (.inl ?_), fun S hS => by simp at hS⟩
        rw [← w1, ← w2, app_imp, app_neg]
        rfl
    | neg a1 =>
      cases c with
      | var y =>
        have hy : y ∉ dom R := f2 y rfl
        have c1 : app R p.2 = .var y := by rw [← w2, app_var hy]
        have hd : differ (app R p.1) (app R p.2) = .at_ y (app R (.neg a1)) := by
          rw [c1, ← w1]
          exact differ_var_right fun x z => by rw [app_neg] at z; cases z
        by_cases q : y ∈ vars (app R (.neg a1))
        · simp only [if_pos q]
          exact ⟨fun _ => h.no hN (.inr ⟨y, _, hd, q⟩), fun S hS => by simp at hS⟩
        · simp only [if_neg q]
          refine ⟨fun z => by simp at z, fun S hS => ?_⟩
          cases hS
          refine ⟨h.bind hN hy f1 q s1 (s2.2 y (by simp [vars])) hd ?_, .inl (by simp; omega)⟩
          rw [c1, ← w1, replace_not q, replace, if_pos rfl]
      | imp c1 c2 =>
        refine ⟨fun _ => h.no hN (.inl ?_), fun S hS => by simp at hS⟩
        rw [← w1, ← w2, app_imp, app_neg]
        rfl
      | neg c1 =>
        refine ⟨fun z => by simp at z, fun S hS => ?_⟩
        cases hS
        have e1 : app R p.1 = .neg (app R a1) := by rw [← w1, app_neg]
        have e2 : app R p.2 = .neg (app R c1) := by rw [← w2, app_neg]
        have q1 := s1.1
        have q2 := s2.1
        simp only [size] at q1 q2
        refine ⟨⟨h.valid, h.szR, h.dm, fun q hq => ?_, ?_, fun t => ?_, h.link⟩, .inr ⟨rfl, ?_⟩⟩
        · rcases List.mem_cons.mp hq with rfl | hq
          · exact ⟨⟨by dsimp only; omega, fun v hv => s1.2 v (by simp [vars, hv])⟩, ⟨by dsimp only; omega, fun v hv => s2.2 v (by simp [vars, hv])⟩⟩
          · exact h.szW q (List.mem_cons_of_mem _ hq)
        · have := h.stk
          rw [List.map_cons, e1] at this
          exact this.neg
        · have := h.diff t
          rw [List.map_cons, e1, e2] at this
          simp only [SP.sub] at this
          rw [dAll_neg] at this
          exact this
        · rw [wt, e1]
          simp only [weight, List.map_cons, List.sum_cons, size]
          omega
/-- the end of a run -/
def MEnd (F0 G0 H0 : Form) (N m : Nat) : Option Bd → Prop
  | none => fitBy N F0 G0 H0 = .no ∨ fitBy N F0 G0 H0 = .large
  | some R => MOk m R [] ∧ ((fitBy N F0 G0 H0 = .so (app R H0) ∧ size (app R F0) ≤ FITS) ∨ (fitBy N F0 G0 H0 = .large ∧ FITS < size (app R F0)))
theorem ms_run (hN : N = (nums F0 G0).length + 1) (hm : size F0 ≤ m ∧ size G0 ≤ m) : ∀ (j s : Nat) (R : Bd) (W : List (Form × Form)), N - R.length = j → weight R W = s → MI F0 G0 H0 N m R W → ∃ n r, Ms m R W n r ∧ MEnd F0 G0 H0 N m r := by
  intro j
  induction j using Nat.strongRecOn with
  | ind j ihj =>
    intro s
    induction s using Nat.strongRecOn with
    | ind s ihs =>
      intro R W hj hs h
      cases W with
      | nil =>
        refine ⟨0, some R, .done (h.mok hN hm), h.mok hN hm, ?_⟩
        rcases h.link with ⟨h1, h2⟩ | ⟨h1, h2⟩
        · have d0 := h.diff .var
          have hl := h.len hN
          simp only [sub_id, List.map_nil, dAll] at d0
          obtain ⟨k, hk⟩ : ∃ k, N - R.length = k + 1 := ⟨N - R.length - 1, by omega⟩
          rw [hk, fitBy, d0] at h1
          exact .inl ⟨h1.symm, h2⟩
        · exact .inr ⟨h1, h2⟩
      | cons p W =>
        obtain ⟨a, b⟩ := h.step hN
        cases hS : msStep R p.1 p.2 W with
        | none => exact ⟨0, none, .fail (h.mok hN hm) hS, a hS⟩
        | some S =>
          obtain ⟨hM, hlt⟩ := b S hS
          rcases hlt with hlt | ⟨e, hlt⟩
          · obtain ⟨n, r, hr, he⟩ := ihj _ (by omega) _ S.1 S.2 rfl rfl hM
            exact ⟨n + 1, r, .step (h.mok hN hm) hS hr, he⟩
          · have : weight S.1 S.2 < s := by rw [e]; omega
            obtain ⟨n, r, hr, he⟩ := ihs _ this S.1 S.2 (by rw [e]; exact hj) rfl hM
            exact ⟨n + 1, r, .step (h.mok hN hm) hS hr, he⟩
theorem ms_all (F0 G0 H0 : Form) (m : Nat) (hm : size F0 ≤ m ∧ size G0 ≤ m) (hF : size F0 ≤ FITS) : ∃ n r, Ms m [] [(F0, G0)] n r ∧ MEnd F0 G0 H0 ((nums F0 G0).length + 1) m r := by
  refine ms_run rfl hm _ _ [] [(F0, G0)] rfl rfl ⟨trivial, fun p hp => by simp at hp, fun v hv => by simp [dom] at hv, fun p hp => ?_, ⟨0, .here _, trivial⟩, fun t => ?_, .inl ⟨rfl, hF⟩⟩
  · have : p = (F0, G0) := by simpa using hp
    subst this
    exact ⟨⟨hm.1, fun v hv => eraseDups_mem.mpr (by simp [hv])⟩, ⟨hm.2, fun v hv => eraseDups_mem.mpr (by simp [hv])⟩⟩
  · simp only [app, List.map_cons, List.map_nil, dAll]
    cases differ (sub t F0) (sub t G0) <;> rfl
end
end SP
end
section
set_option autoImplicit false
set_option linter.all false
namespace SP
open Vapcma (Form size vars rename normal replace code top matchBy instanceOf detach fit fitBy Fit FITS SIZE)
/-! ### the forms a form is straight made of -/
def subs : Form → List Form
  | .var _ => []
  | .imp a b => [a, b]
  | .neg a => [a]
/-! ### instances, pair by pair -/
def mAll : List (Form × Form) → List (Nat × Form) → Option (List (Nat × Form))
  | [], s => some s
  | p :: r, s => (matchBy p.1 p.2 s).bind (mAll r)
theorem mAll_imp (a b c d : Form) (r : List (Form × Form)) (s : List (Nat × Form)) : mAll ((.imp a b, .imp c d) :: r) s = mAll ((a, c) :: (b, d) :: r) s := by
  simp only [mAll, matchBy]
  cases matchBy a c s <;> rfl
theorem mAll_neg (a c : Form) (r : List (Form × Form)) (s : List (Nat × Form)) : mAll ((.neg a, .neg c) :: r) s = mAll ((a, c) :: r) s := by
  simp only [mAll, matchBy]
theorem mAll_clash {a c : Form} (r : List (Form × Form)) (s : List (Nat × Form)) (h : hd a ≠ hd c) (hv : ∀ v, a ≠ .var v) : mAll ((a, c) :: r) s = none := by
  cases a with
  | var v => exact absurd rfl (hv v)
  | imp a b => cases c <;> first | rfl | exact absurd rfl h
  | neg a => cases c <;> first | rfl | exact absurd rfl h
theorem mAll_var_old {v : Nat} {t u : Form} (r : List (Form × Form)) {s : List (Nat × Form)} (h : (s.find? fun x => x.1 == v) = some (v, u)) : mAll ((.var v, t) :: r) s = if u = t then mAll r s else none := by
  simp only [mAll, matchBy, h]
  by_cases e : u = t
  · rw [if_pos e, if_pos e]; rfl
  · rw [if_neg e, if_neg e]; rfl
theorem mAll_var_new {v : Nat} {t : Form} (r : List (Form × Form)) {s : List (Nat × Form)} (h : (s.find? fun x => x.1 == v) = none) : mAll ((.var v, t) :: r) s = mAll r (s ++ [(v, t)]) := by
  simp only [mAll, matchBy, h]
  rfl
theorem instance_mAll (F G : Form) : instanceOf G F = (mAll [(G, F)] []).isSome := by
  simp only [mAll, instanceOf]
  cases matchBy G F [] <;> rfl
/-! ### numbered -/
theorem normal_eq (F : Form) : normal F = rename (fun v => (grow [] (vars F)).findIdx fun x => x == v) F := by
  rw [normal, eraseDups_grow]
theorem findIdx_grow {s : List Nat} {v : Nat} (h : v ∈ s) (l : List Nat) : ((grow s l).findIdx fun x => x == v) = s.findIdx fun x => x == v := by
  obtain ⟨k, hk⟩ := grow_prefix s l
  rw [hk, List.findIdx_append, if_pos]
  rw [List.findIdx_lt_length]
  exact ⟨v, h, by simp⟩
/-- numbers for unknowns: put otherwise, alike -/
theorem rename_congr {f g : Nat → Nat} {F : Form} (h : ∀ v ∈ vars F, f v = g v) : rename f F = rename g F := by
  rw [rename_sub, rename_sub]
  exact sub_congr fun v hv => by rw [h v hv]
theorem rename_rename (f g : Nat → Nat) (F : Form) : rename f (rename g F) = rename (fun v => f (g v)) F := by
  simp only [rename_sub, sub_sub]
  rfl
theorem rename_id {f : Nat → Nat} {F : Form} (h : ∀ v ∈ vars F, f v = v) : rename f F = F := by
  rw [rename_sub]
  exact (sub_congr fun v hv => by rw [h v hv]).trans (sub_id F)
theorem findIdx_map {f : Nat → Nat} (hf : ∀ x y, f x = f y → x = y) (v : Nat) : ∀ l : List Nat, ((l.map f).findIdx fun x => x == f v) = l.findIdx fun x => x == v
  | [] => rfl
  | a :: l => by
    rw [List.map_cons, List.findIdx_cons, List.findIdx_cons, findIdx_map hf v l]
    have : (f a == f v) = (a == v) := by
      rw [Bool.eq_iff_iff]
      simp only [beq_iff_eq]
      exact ⟨fun e => hf _ _ e, fun e => by rw [e]⟩
    rw [this]
theorem normal_rename {f : Nat → Nat} (hf : ∀ x y, f x = f y → x = y) (F : Form) : normal (rename f F) = normal F := by
  rw [normal_eq, normal_eq, rename_rename, rename_vars]
  refine rename_congr fun v _ => ?_
  have h := grow_map hf [] (vars F)
  rw [List.map_nil] at h
  rw [h]
  exact findIdx_map hf v _
theorem normal_size (F : Form) : size (normal F) = size F := by rw [normal_eq, rename_size]
theorem findIdx_lt {l : List Nat} {v : Nat} (h : v ∈ l) : (l.findIdx fun x => x == v) < l.length := List.findIdx_lt_length.mpr ⟨v, h, by simp⟩
theorem normal_vars {F : Form} {v : Nat} (h : v ∈ vars (normal F)) : v < (vars F).length := by
  rw [normal_eq, rename_vars] at h
  obtain ⟨u, hu, rfl⟩ := List.mem_map.mp h
  have h1 : u ∈ grow [] (vars F) := grow_mem.mpr (.inr hu)
  have h2 := findIdx_lt h1
  have h3 := eraseDups_len (vars F)
  rw [eraseDups_grow] at h3
  omega
/-! ### made to fit, the unknowns named otherwise -/
section
variable {f : Nat → Nat} (hf : ∀ x y, f x = f y → x = y)
include hf
theorem rename_inj : ∀ {F G : Form}, rename f F = rename f G → F = G
  | .var x, .var y, h => by simp [rename] at h; rw [hf _ _ h]
  | .imp a b, .imp c d, h => by
    simp only [rename, Form.imp.injEq] at h
    rw [rename_inj h.1, rename_inj h.2]
  | .neg a, .neg c, h => by
    simp only [rename, Form.neg.injEq] at h
    rw [rename_inj h]
  | .var _, .imp _ _, h => by cases h
  | .var _, .neg _, h => by cases h
  | .imp _ _, .var _, h => by cases h
  | .imp _ _, .neg _, h => by cases h
  | .neg _, .var _, h => by cases h
  | .neg _, .imp _ _, h => by cases h
def rnD (f : Nat → Nat) : Vapcma.Differ → Vapcma.Differ
  | .same => .same
  | .at_ v t => .at_ (f v) (rename f t)
  | .clash => .clash
theorem differ_rename : ∀ F G : Form, Vapcma.differ (rename f F) (rename f G) = rnD f (Vapcma.differ F G)
  | .var x, .var y => by
    simp only [rename, Vapcma.differ]
    by_cases e : x = y
    · subst e; simp [rnD]
    · rw [if_neg e, if_neg fun h => e (hf _ _ h)]
      rfl
  | .imp a b, .imp c d => by
    simp only [rename, Vapcma.differ, differ_rename a c]
    cases Vapcma.differ a c with
    | same => exact differ_rename b d
    | at_ v t => rfl
    | clash => rfl
  | .neg a, .neg c => by simp only [rename, Vapcma.differ, differ_rename a c]
  | .var _, .imp _ _ => rfl
  | .var _, .neg _ => rfl
  | .imp _ _, .var _ => rfl
  | .imp _ _, .neg _ => rfl
  | .neg _, .var _ => rfl
  | .neg _, .imp _ _ => rfl
theorem replace_rename (v : Nat) (t : Form) : ∀ F : Form, replace (f v) (rename f t) (rename f F) = rename f (replace v t F)
  | .var x => by
    simp only [rename, replace]
    by_cases e : x = v
    · subst e; simp
    · rw [if_neg e, if_neg fun h => e (hf _ _ h)]
      rfl
  | .imp a b => by simp only [rename, replace, replace_rename v t a, replace_rename v t b]
  | .neg a => by simp only [rename, replace, replace_rename v t a]
def rnF (f : Nat → Nat) : Fit → Fit
  | .no => .no
  | .large => .large
  | .so h => .so (rename f h)
theorem fitBy_rename : ∀ (n : Nat) (F G H : Form), fitBy n (rename f F) (rename f G) (rename f H) = rnF f (fitBy n F G H)
  | 0, _, _, _ => rfl
  | n + 1, F, G, H => by
    rw [fitBy, fitBy, differ_rename hf]
    cases Vapcma.differ F G with
    | same => rfl
    | clash => rfl
    | at_ v t =>
      simp only [rnD]
      have e : (vars (rename f t)).contains (f v) = (vars t).contains v := by
        rw [Bool.eq_iff_iff, rename_vars]
        simp only [List.contains_iff_mem, List.mem_map]
        constructor
        · rintro ⟨x, hx, e⟩
          exact hf _ _ e ▸ hx
        · intro h
          exact ⟨v, h, rfl⟩
      rw [e]
      by_cases q : (vars t).contains v = true
      · rw [if_pos q, if_pos q]; rfl
      · rw [if_neg q, if_neg q]
        simp only [replace_rename hf, rename_size]
        by_cases q2 : FITS < size (replace v t F)
        · rw [if_pos q2, if_pos q2]; rfl
        · rw [if_neg q2, if_neg q2]
          exact fitBy_rename n _ _ _
end
theorem top_le {F : Form} {m : Nat} : ∀ l : List Nat, (∀ v ∈ l, v < m) → ∀ s, s ≤ m → l.foldl (fun m v => Nat.max m (v + 1)) s ≤ m
  | [], _, s, hs => hs
  | v :: l, h, s, hs => by
    have h1 := h v List.mem_cons_self
    exact top_le (F := F) l (fun u hu => h u (List.mem_cons_of_mem _ hu)) _ (Nat.max_le.mpr ⟨hs, h1⟩)
theorem top_ge : ∀ (l : List Nat) (s v : Nat), (v ∈ l → v < l.foldl (fun m v => Nat.max m (v + 1)) s) ∧ s ≤ l.foldl (fun m v => Nat.max m (v + 1)) s
  | [], s, v => ⟨fun h => by simp at h, Nat.le_refl _⟩
  | u :: l, s, v => by
    obtain ⟨h1, h2⟩ := top_ge l (Nat.max s (u + 1)) v
    have h3 : s ≤ Nat.max s (u + 1) := Nat.le_max_left _ _
    have h4 : u + 1 ≤ Nat.max s (u + 1) := Nat.le_max_right _ _
    constructor
    · intro h
      rcases List.mem_cons.mp h with rfl | h
      · exact Nat.lt_of_lt_of_le h4 h2
      · exact h1 h
    · exact Nat.le_trans h3 h2
/-- what's detached, by a run of pairs made the same; m bounds both formulas' signs -/
theorem detach_run {a b G : Form} {m : Nat} (hm : size (.imp a b) ≤ m ∧ size G ≤ m) (hF : m ≤ FITS) (hv : ∀ v ∈ vars (.imp a b), v < 1000) :
    ∃ n r, Ms m [] [(a, rename (fun v => v + 1000) G)] n r ∧ (r = none → detach (.imp a b) G = none) ∧
      ∀ R, r = some R → MOk m R [] ∧ detach (.imp a b) G = if FITS < size (app R a) ∨ SIZE < size (app R b) then none else some (normal (app R b)) := by
  have hk : top (.imp a b) ≤ 1000 := top_le (F := .imp a b) _ hv 0 (by omega)
  generalize hkk : top (.imp a b) = k at hk
  have lt_k : ∀ v ∈ vars (.imp a b), v < k := fun v h => by rw [← hkk]; exact (top_ge _ 0 v).1 h
  let f : Nat → Nat := fun x => if x < k then x else x - k + 1000
  have fi : ∀ x y, f x = f y → x = y := by
    intro x y h
    simp only [f] at h
    split at h <;> split at h <;> omega
  have ea : rename f a = a := rename_id fun v h => if_pos (lt_k v (by simp [vars, h]))
  have eb : rename f b = b := rename_id fun v h => if_pos (lt_k v (by simp [vars, h]))
  have eg : rename f (rename (fun v => v + k) G) = rename (fun v => v + 1000) G := by
    rw [rename_rename]
    refine rename_congr fun v _ => ?_
    show (if v + k < k then v + k else v + k - k + 1000) = v + 1000
    rw [if_neg (by omega)]
    omega
  have sa : size a ≤ m := by have := hm.1; simp only [size] at this; omega
  obtain ⟨n, r, hr, he⟩ := ms_all a (rename (fun v => v + 1000) G) b m ⟨sa, by rw [rename_size]; exact hm.2⟩ (by omega)
  have hfit : fitBy ((nums a (rename (fun v => v + 1000) G)).length + 1) a (rename (fun v => v + 1000) G) b = rnF f (fitBy ((vars a ++ vars (rename (fun v => v + k) G)).eraseDups.length + 1) a (rename (fun v => v + k) G) b) := by
    have h1 := fitBy_rename fi ((vars a ++ vars (rename (fun v => v + k) G)).eraseDups.length + 1) a (rename (fun v => v + k) G) b
    rw [ea, eb, eg] at h1
    have h2 : (nums a (rename (fun v => v + 1000) G)).length = (vars a ++ vars (rename (fun v => v + k) G)).eraseDups.length := by
      have h3 := eraseDups_map fi (vars a ++ vars (rename (fun v => v + k) G))
      rw [List.map_append, ← rename_vars, ← rename_vars, ea, eg] at h3
      rw [nums, h3, List.length_map]
    rw [h2]
    exact h1
  refine ⟨n, r, hr, fun e => ?_, fun R e => ?_⟩
  · subst e
    rw [detach]
    simp only [hkk, fit]
    rcases he with he | he
    · rw [hfit] at he
      cases q : fitBy ((vars a ++ vars (rename (fun v => v + k) G)).eraseDups.length + 1) a (rename (fun v => v + k) G) b with
      | no => rfl
      | large => rfl
      | so h => rw [q] at he; cases he
    · rw [hfit] at he
      cases q : fitBy ((vars a ++ vars (rename (fun v => v + k) G)).eraseDups.length + 1) a (rename (fun v => v + k) G) b with
      | no => rfl
      | large => rfl
      | so h => rw [q] at he; cases he
  · subst e
    obtain ⟨hM, he⟩ := he
    refine ⟨hM, ?_⟩
    rw [detach]
    simp only [hkk, fit]
    rcases he with ⟨he, hs⟩ | ⟨he, hs⟩
    · rw [hfit] at he
      cases q : fitBy ((vars a ++ vars (rename (fun v => v + k) G)).eraseDups.length + 1) a (rename (fun v => v + k) G) b with
      | no => rw [q] at he; cases he
      | large => rw [q] at he; cases he
      | so h =>
        rw [q] at he
        have e2 : rename f h = app R b := by
          simp only [rnF, Fit.so.injEq] at he
          exact he
        simp only [Option.bind_some]
        have e3 : size (app R b) = size h := by rw [← e2, rename_size]
        have e4 : normal (app R b) = normal h := by rw [← e2, normal_rename fi]
        rw [e3, e4]
        by_cases q2 : SIZE < size h
        · rw [if_pos q2, if_pos (.inr q2)]
        · rw [if_neg q2, if_neg (by rintro (z | z); omega; exact q2 z)]
    · rw [hfit] at he
      rw [if_pos (.inl hs)]
      cases q : fitBy ((vars a ++ vars (rename (fun v => v + k) G)).eraseDups.length + 1) a (rename (fun v => v + k) G) b with
      | no => rfl
      | large => rfl
      | so h => rw [q] at he; cases he
end SP
end
section
set_option Elab.async false
set_option linter.all false
set_option maxRecDepth 100000
set_option maxHeartbeats 4000000
namespace SPW
open PySem PySem.Spec PyProof.Rows L2
section
variable {K : PySem.W.Frag} {H : Hp} {a : Addr} {Q : VK}
theorem cut_mid {A : Type} (pre mid suf : List A) : ((pre ++ mid ++ suf).drop pre.length).take mid.length = mid := by
  rw [List.append_assoc, List.drop_left, List.take_left]
theorem cutV_mid {L : List V} {pre mid suf : List V} (e : L = pre ++ mid ++ suf) : cutV L (some (pre.length : Int)) (some ((pre.length + mid.length : Nat) : Int)) = mid := by
  subst e
  unfold cutV
  rw [HT.sIx_nat, HT.sIx_nat]
  have h1 : min pre.length (pre ++ mid ++ suf).length = pre.length := by simp
  have h2 : min (pre.length + mid.length) (pre ++ mid ++ suf).length = pre.length + mid.length := by simp
  rw [h1, h2, show pre.length + mid.length - pre.length = mid.length by omega]
  exact cut_mid pre mid suf
theorem cutV_suf {L : List V} {pre mid : List V} (e : L = pre ++ mid) : cutV L (some (pre.length : Int)) none = mid := by
  subst e
  unfold cutV
  rw [HT.sIx_nat, HT.sIx_none]
  have h1 : min pre.length (pre ++ mid).length = pre.length := by simp
  rw [h1, List.drop_left, List.take_of_length_le]
  simp
/-- t[i:j], in the middle -/
theorem slA {L pre mid suf : List Int} {lo hi : Int} (h : SqT K H a (vis L)) (e : L = pre ++ mid ++ suf) (hl : lo = (pre.length : Int)) (hh : hi = ((pre.length + mid.length : Nat) : Int))
    (k : ∀ p H', Same H H' → SqT K H' p (vis mid) → Q (.ref p) H') : rSlA K (.ref a) (some lo) (some hi) H Q := by
  subst hl hh
  have e2 : vis L = vis pre ++ vis mid ++ vis suf := by rw [e, vis_append, vis_append]
  have c := cutV_mid e2
  rw [vis_len, vis_len] at c
  refine ⟨a, _, rfl, h, fun w => ?_, fun w p hp => ?_⟩
  · refine k a H (Same.refl H) ?_
    have : cutV (vis L) (some (pre.length : Int)) (some ((pre.length + mid.length : Nat) : Int)) = vis L := by
      unfold cutV
      rw [w.1, w.2]
      simp
    rw [c] at this
    rw [this]
    exact h
  · refine k p _ (Same.new hp) (SqT.of ?_)
    rw [upd_same, c]
/-- t[i:] -/
theorem slE {L pre mid : List Int} {lo : Int} (h : SqT K H a (vis L)) (e : L = pre ++ mid) (hl : lo = (pre.length : Int)) (k : ∀ p H', Same H H' → SqT K H' p (vis mid) → Q (.ref p) H') : rSlA K (.ref a) (some lo) none H Q := by
  subst hl
  have e2 : vis L = vis pre ++ vis mid := by rw [e, vis_append]
  have c := cutV_suf e2
  rw [vis_len] at c
  refine ⟨a, _, rfl, h, fun w => ?_, fun w p hp => ?_⟩
  · refine k a H (Same.refl H) ?_
    have : cutV (vis L) (some (pre.length : Int)) none = vis L := by
      unfold cutV
      rw [w.1, w.2]
      simp
    rw [c] at this
    rw [this]
    exact h
  · refine k p _ (Same.new hp) (SqT.of ?_)
    rw [upd_same, c]
/-- t + u -/
theorem catA {b : Addr} {l k : List Int} (h1 : SqT K H a (vis l)) (h2 : SqT K H b (vis k)) (hz : l.length + k.length ≤ 1000000) (q : ∀ p H', Same H H' → SqT K H' p (vis (l ++ k)) → Q (.ref p) H') : rCatA K (.ref a) (.ref b) H Q := by
  refine ⟨a, b, _, _, rfl, rfl, h1, h2, small_size (by rw [vis_len, vis_len]; omega), fun e => ?_, fun e1 e2 => ?_, fun e1 e2 p hp => ?_⟩
  · have : l = [] := List.map_eq_nil_iff.mp e
    subst this
    exact q b H (Same.refl H) h2
  · have : k = [] := List.map_eq_nil_iff.mp e2
    subst this
    exact q a H (Same.refl H) (by rw [List.append_nil]; exact h1)
  · refine q p _ (Same.new hp) (SqT.of ?_)
    rw [upd_same, vis_append]
end
end SPW
end
section
set_option Elab.async false
set_option linter.all false
set_option maxRecDepth 100000
set_option maxHeartbeats 4000000
namespace SPW
open PySem PySem.Spec PyProof.Rows L2
open SP (ci sgn sgns vpl cis subs)
open Vapcma (Form)
variable {P : Program} {w : World} {K : PySem.W.Frag} {mg : Str → Option Value} {base : Heap}
/-- sign_places(f) -/
def sp_sign_places (K : PySem.W.Frag) : Sp := fun vs H Q _ => ∃ (a : Addr) (F : Form), vs = [.ref a] ∧ SqT K H a (vis (ci F)) ∧ (ci F).length ≤ 20000 ∧
  ∀ H' p, Same H H' → H p = none → H' p = some (.lst (vn (sgn F 0))) → Q (.ref p) H'
abbrev N_sign_places : List Str := ["f", "out", "at"]
theorem sc_sign_places : FnScope N_sign_places ["f"] (defScope s_sign_places) := ⟨rfl, rfl, rfl, by decide +kernel, rfl, by decide +kernel, by decide +kernel⟩
theorem g_sign_places (T : Tx K mg) : GFn P w K mg base CX0 1 "sign_places" ["f"] (sp_sign_places K) := by
  refine gfn0 (f_sign_places T) (t_sign_places T) sc_sign_places (fun _ _ _ _ _ _ us hl => match us, hl with | [_], _ => rfl) (fun vs H Q E h => ?_) (fun f cdv A outer s H vs Q E hr h => ⟨_, (pss_cons (ps_set (i := 1) sc_sign_places.nd rfl (Or.inl rfl) (pe_lst pa_nil1))
  (pss_cons (ps_set (i := 2) sc_sign_places.nd rfl (Or.inl rfl) pe_int1)
  (pss_cons (ps_while PassesOwn.never (pt_cmpR op_lt (pv 2) (pe_callB (call_lenK K) (by rfl) (t_len T) PySem.boot_len (pa_cons (pv 0) pa_nil1)) (nomark _))
  (pss_cons (ps_expr (pe_bmK K PySem.F.plainAttrs_list PySem.F.slot_list_append PySem.F.type_list_append mt_append (pv 1) (pa_cons (pv 2) pa_nil1)))
  (pss_one (ps_if (pt_cmpR op_eq (pe_ix (ix_tupK K) (pv 0) (pv 2) (fun _ _ => rfl)) (pe_ci1 (t_UNKNOWN T)) (nomark _)) (pss_one (ps_aug (i := 2) sc_sign_places.nd rfl (Or.inl rfl) pe_int1 ip_add))
  (pss_one (ps_aug (i := 2) sc_sign_places.nd rfl (Or.inl rfl) pe_int1 ip_add))))))
  (pss_one (ps_ret (pv 1)))))), ?_⟩)
  · obtain ⟨a, F, rfl, _⟩ := h
    rfl
  · obtain ⟨a, F, rfl, hS, hz, k⟩ := h
    refine ⟨small_size (by decide), fun o ho => ?_⟩
    refine wh_by (fun m σ' H' => ∃ (l : List Form) (pre : List Nat) (i : Nat), σ' = [some (.ref a), some (.ref o), some (.int (i : Int))] ∧ Same H H' ∧ H' o = some (.lst (vn pre)) ∧
        (ci F).drop i = cis l ∧ pre ++ sgns l i = sgn F 0 ∧ pre.length ≤ i ∧ m = (cis l).length) _ ⟨[F], [], 0, rfl, Same.new ho, upd_same, by simp [SP.cis], by simp [sgns], by simp, rfl⟩ ?_
    rintro m σ' H' ⟨l, pre, i, rfl, s5, hO, hd, hs, hi, rfl⟩
    refine ⟨_, rfl, _, rfl, a, _, rfl, .inr (s5.tup hS), _, _, rfl, rfl, _, rfl, ?_⟩
    have hlen : (ci F).length - i = (cis l).length := by rw [← hd, List.length_drop]
    cases l with
    | nil =>
      have e : ¬ (i : Int) < ((vis (ci F)).length : Int) := by
        rw [vis_len]
        simp [SP.cis] at hlen
        omega
      refine if_false_of (decide_eq_false e) ?_
      refine ⟨_, rfl, k _ o s5 ho ?_⟩
      rw [hO]
      simp [sgns] at hs
      rw [hs]
    | cons F1 l =>
      have hne : 0 < (cis (F1 :: l)).length := by rw [SP.cis_cons, List.length_append]; have := SP.ci_pos F1; omega
      have e : (i : Int) < ((vis (ci F)).length : Int) := by
        rw [vis_len]
        omega
      refine if_true_of (decide_eq_true e) ?_
      refine ⟨_, fun _ _ h => h, ?_⟩
      refine ⟨_, rfl, .inl ⟨rfl, _, SqL.of hO⟩, _, rfl, o, _, _, rfl, rfl, hO, small_lt (by rw [vn_len]; omega), ?_⟩
      have s6 : Same H (upd H' o (.lst (vn pre ++ [.int i]))) := s5.mut ho
      have hO6 : upd H' o (.lst (vn pre ++ [.int i])) o = some (.lst (vn (pre ++ [i]))) := by rw [upd_same, vn_snoc]
      cases F1 with
      | var v =>
        rw [SP.cis_var] at hd hlen ⊢
        obtain ⟨h1, h2, h3⟩ := drop_at hd
        obtain ⟨_, h5, _⟩ := drop_at h2
        refine ⟨_, rfl, _, rfl, a, _, _, _, rfl, rfl, s6.tup hS, vis_at h1, rfl, _, rfl, ?_⟩
        refine if_true_of (int_eq 0) ?_
        refine ⟨_, rfl, _, _, rfl, rfl, ?_⟩
        refine ⟨(cis l).length, by simp only [List.length_cons]; omega, l, pre ++ [i], i + 2, rfl, s6, hO6, h5, ?_, by simp; omega, rfl⟩
        rw [← hs, SP.sgns_var]
        simp
      | imp x y =>
        rw [SP.cis_imp] at hd hlen ⊢
        obtain ⟨h1, h2, h3⟩ := drop_at hd
        refine ⟨_, rfl, _, rfl, a, _, _, _, rfl, rfl, s6.tup hS, vis_at h1, rfl, _, rfl, ?_⟩
        refine if_false_of (int_ne (by decide)) ?_
        refine ⟨_, rfl, _, _, rfl, rfl, ?_⟩
        refine ⟨(cis (x :: y :: l)).length, by simp, x :: y :: l, pre ++ [i], i + 1, rfl, s6, hO6, h2, ?_, by simp; omega, rfl⟩
        rw [← hs, SP.sgns_imp]
        simp
      | neg x =>
        rw [SP.cis_neg] at hd hlen ⊢
        obtain ⟨h1, h2, h3⟩ := drop_at hd
        refine ⟨_, rfl, _, rfl, a, _, _, _, rfl, rfl, s6.tup hS, vis_at h1, rfl, _, rfl, ?_⟩
        refine if_false_of (int_ne (by decide)) ?_
        refine ⟨_, rfl, _, _, rfl, rfl, ?_⟩
        refine ⟨(cis (x :: l)).length, by simp, x :: l, pre ++ [i], i + 1, rfl, s6, hO6, h2, ?_, by simp; omega, rfl⟩
        rw [← hs, SP.sgns_neg]
        simp
/-- unknown_places(f) -/
def sp_unknown_places (K : PySem.W.Frag) : Sp := fun vs H Q _ => ∃ (a : Addr) (F : Form), vs = [.ref a] ∧ SqT K H a (vis (ci F)) ∧ (ci F).length ≤ 1000 ∧
  ∀ H' p, Same H H' → H p = none → H' p = some (.lst (vn (vpl F 0))) → Q (.ref p) H'
abbrev N_unknown_places : List Str := ["f", "at"]
theorem sc_unknown_places : FnScope N_unknown_places ["f"] (defScope s_unknown_places) := ⟨rfl, rfl, rfl, by decide +kernel, rfl, by decide +kernel, by decide +kernel⟩
theorem g_unknown_places (T : Tx K mg) : GFn P w K mg base CX0 2 "unknown_places" ["f"] (sp_unknown_places K) := by
  have g_sign_places : GFn P w K mg base CX0 1 "sign_places" ["f"] (sp_sign_places K) := g_sign_places T
  refine gfn0 (f_unknown_places T) (t_unknown_places T) sc_unknown_places (fun _ _ _ _ _ _ us hl => match us, hl with | [_], _ => rfl) (fun vs H Q E h => ?_) (fun f cdv A outer s H vs Q E hr h => ⟨_, (pss_one (ps_ret (pe_lc (own := [("at", 1)]) (g := gName 1) rfl sc_unknown_places.nd (pi_listK K (pe_fn g_sign_places (hr.mono (by decide)) pass0 (pa_cons (pv 0) pa_nil1))) (blkOk_by (own := [("at", 1)]) (N := N_unknown_places) (sc := defScope s_unknown_places) (by decide +kernel)) (fun _ _ _ _ _ => (pg_name (i := 1) sc_unknown_places.nd rfl (Or.inl rfl))) (fun _ _ _ _ _ => (pts_one (pt_cmpR op_eq (pe_ix (ix_tupK K) (pv 0) (pv 1) (fun _ _ => rfl)) (pe_ci1 (t_UNKNOWN T)) (nomark _)))) (fun _ _ _ _ _ => (pe_op op_add (pv 1) pe_int1))))), ?_⟩)
  · obtain ⟨a, F, rfl, _⟩ := h
    rfl
  · obtain ⟨a, F, rfl, hS, hz, k⟩ := h
    refine ⟨_, rfl, a, F, rfl, hS, by omega, fun H1 o s1 ho hO => ⟨o, rfl, ⟨_, SqL.of hO⟩, fun D hD => ?_⟩⟩
    let res : Nat → List V := fun i => vn ((((sgn F 0).take i).filter fun j => (ci F).getD j 9 == 0).map (· + 1))
    have hlen : (vn (sgn F 0)).length ≤ 1000000 := by
      rw [vn_len, SP.sgn_len]
      have := SP.ci_len F
      omega
    refine lcl hD (SqL.of hO) res rfl hlen ?_ ?_
    · intro i x H' hx s5 Y Z hY hZ
      obtain ⟨j, hj, rfl⟩ := vn_inv hx
      have hjl := SP.sgn_lt F 0 j (List.mem_of_getElem? hj)
      have hv : (ci F)[j]? = some ((ci F).getD j 9) := by
        rw [List.getD_eq_getElem?_getD, List.getElem?_eq_getElem (by omega)]
        rfl
      refine ⟨rfl, _, rfl, _, rfl, a, _, _, _, rfl, rfl, (s1.trans s5).tup hS, vis_at hv, rfl, _, rfl, ?_⟩
      rw [int_dec]
      by_cases c : (ci F).getD j 9 = 0
      · refine if_true_of (decide_eq_true c) ?_
        refine ⟨_, rfl, _, _, rfl, rfl, hY _ _ (Same.refl _) ?_⟩
        show vn _ = vn _ ++ _
        rw [take_more hj, List.filter_append, List.map_append, List.filter_cons, if_pos (by rw [c]; decide)]
        simp [vn]
      · refine if_false_of (decide_eq_false c) (hZ _ (Same.refl _) ?_)
        show vn _ = vn _
        rw [take_more hj, List.filter_append, List.map_append, List.filter_cons, if_neg (by simpa using c)]
        simp
    · intro H' s5 hD'
      refine k H' D (s1.trans s5) (s1.free hD) ?_
      rw [hD']
      show some (HO.lst (vn _)) = _
      rw [vn_len, List.take_length, SP.sgn_vpl0]
/-- unknowns(f) -/
def sp_unknowns (K : PySem.W.Frag) : Sp := fun vs H Q _ => ∃ (a : Addr) (F : Form), vs = [.ref a] ∧ SqT K H a (vis (ci F)) ∧ (ci F).length ≤ 1000 ∧
  ∀ H' p, Same H H' → H p = none → H' p = some (.lst (vn (Vapcma.vars F))) → Q (.ref p) H'
abbrev N_unknowns : List Str := ["f", "at"]
theorem sc_unknowns : FnScope N_unknowns ["f"] (defScope s_unknowns) := ⟨rfl, rfl, rfl, by decide +kernel, rfl, by decide +kernel, by decide +kernel⟩
theorem g_unknowns (T : Tx K mg) : GFn P w K mg base CX0 3 "unknowns" ["f"] (sp_unknowns K) := by
  have g_unknown_places : GFn P w K mg base CX0 2 "unknown_places" ["f"] (sp_unknown_places K) := g_unknown_places T
  refine gfn0 (f_unknowns T) (t_unknowns T) sc_unknowns (fun _ _ _ _ _ _ us hl => match us, hl with | [_], _ => rfl) (fun vs H Q E h => ?_) (fun f cdv A outer s H vs Q E hr h => ⟨_, (pss_one (ps_ret (pe_lc (own := [("at", 1)]) (g := gName 1) (tt := tYes) rfl sc_unknowns.nd (pi_listK K (pe_fn g_unknown_places (hr.mono (by decide)) pass0 (pa_cons (pv 0) pa_nil1))) (blkOk_by (own := [("at", 1)]) (N := N_unknowns) (sc := defScope s_unknowns) (by decide +kernel)) (fun _ _ _ _ _ => (pg_name (i := 1) sc_unknowns.nd rfl (Or.inl rfl))) (fun _ _ _ _ _ => pts_nil) (fun _ _ _ _ _ => (pe_ix (ix_tupK K) (pv 0) (pv 1) (fun _ _ => rfl)))))), ?_⟩)
  · obtain ⟨a, F, rfl, _⟩ := h
    rfl
  · obtain ⟨a, F, rfl, hS, hz, k⟩ := h
    refine ⟨_, rfl, a, F, rfl, hS, hz, fun H1 o s1 ho hO => ⟨o, rfl, ⟨_, SqL.of hO⟩, fun D hD => ?_⟩⟩
    have hget : ∀ (i : Nat) (j : Nat), (vpl F 0)[i]? = some j → (ci F)[j]? = some ((ci F).getD j 9) ∧ (Vapcma.vars F)[i]? = some ((ci F).getD j 9).toNat ∧ (ci F).getD j 9 = (((ci F).getD j 9).toNat : Int) := by
      intro i j hj
      have hjl := SP.vpl_lt F 0 j (List.mem_of_getElem? hj)
      have hv : (ci F)[j]? = some ((ci F).getD j 9) := by
        rw [List.getD_eq_getElem?_getD, List.getElem?_eq_getElem (by omega)]
        rfl
      have h1 := congrArg (fun l => l[i]?) (SP.vpl_get0 F)
      simp only [List.getElem?_map, hj, Option.map_some] at h1
      cases e : (Vapcma.vars F)[i]? with
      | none => rw [e] at h1; cases h1
      | some u =>
        rw [e] at h1
        simp only [Option.map_some, Option.some.injEq] at h1
        rw [h1]
        exact ⟨hv ▸ by rw [h1], by simp, by simp⟩
    refine lcl hD (SqL.of hO) (fun i => vn ((Vapcma.vars F).take i)) rfl ?_ ?_ ?_
    · rw [vn_len, SP.vpl_len]
      have := SP.ci_len F
      omega
    · intro i x H' hx s5 Y Z hY hZ
      obtain ⟨j, hj, rfl⟩ := vn_inv hx
      obtain ⟨h1, h2, h3⟩ := hget i j hj
      refine ⟨rfl, ?_⟩
      refine ⟨_, rfl, _, rfl, a, _, _, _, rfl, rfl, (s1.trans s5).tup hS, vis_at h1, hY _ _ (Same.refl _) ?_⟩
      show vn _ = vn _ ++ _
      rw [take_more h2, h3, ← vn_snoc]
      simp
    · intro H' s5 hD'
      refine k H' D (s1.trans s5) (s1.free hD) ?_
      rw [hD']
      show some (HO.lst (vn _)) = _
      rw [vn_len, SP.vpl_len, List.take_length]
end SPW
end
section
set_option Elab.async false
set_option linter.all false
set_option maxRecDepth 100000
set_option maxHeartbeats 4000000
namespace SPW
open PySem PySem.Spec PyProof.Rows L2
open SP (ci sgn sgns vpl cis subs grow setAll)
open Vapcma (Form)
variable {P : Program} {w : World} {K : PySem.W.Frag} {mg : Str → Option Value} {base : Heap}
theorem ixN_nat {n j : Nat} (h : j < n) : ixN n (j : Int) = some j := by
  unfold ixN
  rw [if_pos (by omega), if_pos (by omega)]
  simp
theorem flat_nats (l : List Nat) : (vn l).all flatV = true := by rw [vn_vis]; exact flat_ints _
theorem inV_nats (v : Nat) (l : List Nat) : inV (.int (v : Int)) (vn l) = l.contains v := by
  rw [vn_vis, inV_ints, Bool.eq_iff_iff]
  simp only [List.contains_iff_mem, List.mem_map]
  constructor
  · rintro ⟨x, hx, e⟩
    have : x = v := by omega
    exact this ▸ hx
  · intro h
    exact ⟨v, h, rfl⟩
/-- seen.index(v) -/
theorem index_nats {H : Hp} {a : Addr} {l : List Nat} {v : Nat} {Q : VK} (hL : SqL K H a (vn l)) (hv : v ∈ l) (q : Q (.int ((l.findIdx fun x => x == v : Nat) : Int)) H) : rIndex K (.ref a) [.int (v : Int)] H Q := by
  have hlt := SP.findIdx_lt hv
  have hget : l[l.findIdx fun x => x == v]? = some v := by
    rw [List.getElem?_eq_getElem hlt]
    have := List.findIdx_getElem (w := hlt)
    simp only [beq_iff_eq] at this
    rw [this]
  refine ⟨a, _, _, _, _, rfl, rfl, hL, rfl, flat_nats l, vn_get hget, ?_, ?_, q⟩
  · show decide ((v : Int) = (v : Int)) = true
    exact decide_eq_true rfl
  · intro m z hm hz
    obtain ⟨u, hu, rfl⟩ := vn_inv hz
    have h1 := List.not_of_lt_findIdx hm
    have h2 : l[m]? = some l[m] := List.getElem?_eq_getElem (by omega)
    rw [hu] at h2
    have h3 : u = l[m] := Option.some.inj h2
    rw [← h3] at h1
    show decide ((u : Int) = (v : Int)) = false
    refine decide_eq_false fun e => ?_
    have : u = v := by omega
    simp [this] at h1
/-- count_signs(f) -/
def sp_count_signs (K : PySem.W.Frag) : Sp := fun vs H Q _ => ∃ (a : Addr) (F : Form), vs = [.ref a] ∧ SqT K H a (vis (ci F)) ∧ (ci F).length ≤ 20000 ∧ ∀ H', Same H H' → Q (.int (Vapcma.size F : Int)) H'
abbrev N_count_signs : List Str := ["f"]
theorem sc_count_signs : FnScope N_count_signs ["f"] (defScope s_count_signs) := ⟨rfl, rfl, rfl, by decide +kernel, rfl, by decide +kernel, by decide +kernel⟩
theorem g_count_signs (T : Tx K mg) : GFn P w K mg base CX0 2 "count_signs" ["f"] (sp_count_signs K) := by
  have g_sign_places : GFn P w K mg base CX0 1 "sign_places" ["f"] (sp_sign_places K) := g_sign_places T
  refine gfn0 (f_count_signs T) (t_count_signs T) sc_count_signs (fun _ _ _ _ _ _ us hl => match us, hl with | [_], _ => rfl) (fun vs H Q E h => ?_) (fun f cdv A outer s H vs Q E hr h => ⟨_, (pss_one (ps_ret (pe_callB (call_lenK K) (by rfl) (t_len T) PySem.boot_len (pa_cons (pe_fn g_sign_places (hr.mono (by decide)) pass0 (pa_cons (pv 0) pa_nil1)) pa_nil1)))), ?_⟩)
  · obtain ⟨a, F, rfl, _⟩ := h
    rfl
  · obtain ⟨a, F, rfl, hS, hz, k⟩ := h
    refine ⟨_, rfl, a, F, rfl, hS, hz, fun H1 p s1 hp hL => ⟨p, _, rfl, .inl (SqL.of hL), ?_⟩⟩
    have := k H1 s1
    rw [vn_len, SP.sgn_len]
    exact this
/-- part_end(f, start) -/
def sp_part_end (K : PySem.W.Frag) : Sp := fun vs H Q _ => ∃ (a : Addr) (L pre suf : List Int) (F : Form), vs = [.ref a, .int (pre.length : Int)] ∧ SqT K H a (vis L) ∧ L = pre ++ ci F ++ suf ∧ Q (.int ((pre.length + (ci F).length : Nat) : Int)) H
abbrev N_part_end : List Str := ["f", "start", "at", "due"]
theorem sc_part_end : FnScope N_part_end ["f", "start"] (defScope s_part_end) := ⟨rfl, rfl, rfl, by decide +kernel, rfl, by decide +kernel, by decide +kernel⟩
theorem g_part_end (T : Tx K mg) : GFn P w K mg base CX0 1 "part_end" ["f", "start"] (sp_part_end K) := by
  refine gfn0 (f_part_end T) (t_part_end T) sc_part_end (fun _ _ _ _ _ _ us hl => match us, hl with | [_, _], _ => rfl) (fun vs H Q E h => ?_) (fun f cdv A outer s H vs Q E hr h => ⟨_, (pss_cons (ps_set (i := 2) sc_part_end.nd rfl (Or.inl rfl) (pv 1))
  (pss_cons (ps_set (i := 3) sc_part_end.nd rfl (Or.inl rfl) pe_int1)
  (pss_cons (ps_while PassesOwn.never (pt_cmpR op_gt (pv 3) pe_int1 (nomark _))
  (pss_one (ps_if (pt_cmpR op_eq (pe_ix (ix_tupK K) (pv 0) (pv 2) (fun _ _ => rfl)) (pe_ci1 (t_UNKNOWN T)) (nomark _)) (pss_cons (ps_aug (i := 2) sc_part_end.nd rfl (Or.inl rfl) pe_int1 ip_add)
  (pss_one (ps_aug (i := 3) sc_part_end.nd rfl (Or.inl rfl) pe_int1 ip_sub)))
  (pss_cons (ps_if (pt_cmpR op_eq (pe_ix (ix_tupK K) (pv 0) (pv 2) (fun _ _ => rfl)) (pe_ci1 (t_IMPLIES T)) (nomark _)) (pss_one (ps_aug (i := 3) sc_part_end.nd rfl (Or.inl rfl) pe_int1 ip_add))
  pss_nil)
  (pss_one (ps_aug (i := 2) sc_part_end.nd rfl (Or.inl rfl) pe_int1 ip_add))))))
  (pss_one (ps_ret (pv 2)))))), ?_⟩)
  · obtain ⟨a, L, pre, suf, F, rfl, _⟩ := h
    rfl
  · obtain ⟨a, L, pre, suf, F, rfl, hS, hL, k⟩ := h
    refine ⟨_, rfl, ?_⟩
    refine wh_by (fun m σ' H' => ∃ (l : List Form) (i : Nat), σ' = [some (.ref a), some (.int (pre.length : Int)), some (.int (i : Int)), some (.int (l.length : Int))] ∧ H' = H ∧
        L.drop i = cis l ++ suf ∧ i + (cis l).length = pre.length + (ci F).length ∧ m = (cis l).length) _ ⟨[F], pre.length, rfl, rfl, by rw [hL]; simp [SP.cis], by simp [SP.cis], rfl⟩ ?_
    rintro m σ' H' ⟨l, i, rfl, rfl, hd, hi, rfl⟩
    refine ⟨_, rfl, _, _, rfl, rfl, _, rfl, ?_⟩
    cases l with
    | nil =>
      refine if_false_of (decide_eq_false (by simp)) ?_
      refine ⟨_, rfl, ?_⟩
      simp [SP.cis] at hi
      rw [hi]
      exact k
    | cons F1 l =>
      refine if_true_of (decide_eq_true (by simp only [List.length_cons]; omega)) ?_
      refine ⟨_, fun _ _ h => h, ?_⟩
      cases F1 with
      | var v =>
        rw [SP.cis_var, List.cons_append, List.cons_append] at hd
        rw [SP.cis_var] at hi ⊢
        obtain ⟨h1, h2, h3⟩ := drop_at hd
        obtain ⟨_, h5, _⟩ := drop_at h2
        refine ⟨_, rfl, _, rfl, a, _, _, _, rfl, rfl, hS, vis_at h1, rfl, _, rfl, ?_⟩
        refine if_true_of (int_eq 0) ?_
        refine ⟨_, rfl, _, _, rfl, rfl, ?_⟩
        refine ⟨_, rfl, _, _, rfl, rfl, ?_⟩
        refine ⟨(cis l).length, by simp only [List.length_cons]; omega, l, i + 2, ?_, rfl, h5, by simp only [List.length_cons] at hi; omega, rfl⟩
        simp
      | imp x y =>
        rw [SP.cis_imp, List.cons_append] at hd
        rw [SP.cis_imp] at hi ⊢
        obtain ⟨h1, h2, h3⟩ := drop_at hd
        refine ⟨_, rfl, _, rfl, a, _, _, _, rfl, rfl, hS, vis_at h1, rfl, _, rfl, ?_⟩
        refine if_false_of (int_ne (by decide)) ?_
        refine ⟨_, rfl, _, rfl, a, _, _, _, rfl, rfl, hS, vis_at h1, rfl, _, rfl, ?_⟩
        refine if_true_of (int_eq 1) ?_
        refine ⟨_, rfl, _, _, rfl, rfl, ?_⟩
        refine ⟨_, rfl, _, _, rfl, rfl, ?_⟩
        refine ⟨(cis (x :: y :: l)).length, by simp, x :: y :: l, i + 1, ?_, rfl, h2, by simp only [List.length_cons] at hi; omega, rfl⟩
        simp
      | neg x =>
        rw [SP.cis_neg, List.cons_append] at hd
        rw [SP.cis_neg] at hi ⊢
        obtain ⟨h1, h2, h3⟩ := drop_at hd
        refine ⟨_, rfl, _, rfl, a, _, _, _, rfl, rfl, hS, vis_at h1, rfl, _, rfl, ?_⟩
        refine if_false_of (int_ne (by decide)) ?_
        refine ⟨_, rfl, _, rfl, a, _, _, _, rfl, rfl, hS, vis_at h1, rfl, _, rfl, ?_⟩
        refine if_false_of (int_ne (by decide)) ?_
        refine ⟨_, rfl, _, _, rfl, rfl, ?_⟩
        refine ⟨(cis (x :: l)).length, by simp, x :: l, i + 1, ?_, rfl, h2, by simp only [List.length_cons] at hi; omega, rfl⟩
        simp
/-- parts(f) -/
def sp_parts (K : PySem.W.Frag) : Sp := fun vs H Q _ => ∃ (a : Addr) (F : Form), vs = [.ref a] ∧ SqT K H a (vis (ci F)) ∧
  ∀ H' p as, Same H H' → H p = none → H' p = some (.lst (vr as)) → TupsAt K H' as ((subs F).map ci) → Q (.ref p) H'
abbrev N_parts : List Str := ["f", "middle"]
theorem sc_parts : FnScope N_parts ["f"] (defScope s_parts) := ⟨rfl, rfl, rfl, by decide +kernel, rfl, by decide +kernel, by decide +kernel⟩
theorem g_parts (T : Tx K mg) : GFn P w K mg base CX0 2 "parts" ["f"] (sp_parts K) := by
  have g_part_end : GFn P w K mg base CX0 1 "part_end" ["f", "start"] (sp_part_end K) := g_part_end T
  refine gfn0 (f_parts T) (t_parts T) sc_parts (fun _ _ _ _ _ _ us hl => match us, hl with | [_], _ => rfl) (fun vs H Q E h => ?_) (fun f cdv A outer s H vs Q E hr h => ⟨_, (pss_cons (ps_if (pt_cmpR op_eq (pe_ix (ix_tupK K) (pv 0) pe_int1 (fun _ _ => rfl)) (pe_ci1 (t_UNKNOWN T)) (nomark _)) (pss_one (ps_ret (pe_lst pa_nil1)))
  pss_nil)
  (pss_cons (ps_if (pt_cmpR op_eq (pe_ix (ix_tupK K) (pv 0) pe_int1 (fun _ _ => rfl)) (pe_ci1 (t_DENIED T)) (nomark _)) (pss_one (ps_ret (pe_lst (pa_cons (pe_slice (sl_tupK K) (pv 0) (po_some pe_int1) po_none1) pa_nil1))))
  pss_nil)
  (pss_cons (ps_set (i := 1) sc_parts.nd rfl (Or.inl rfl) (pe_fn g_part_end (hr.mono (by decide)) pass0 (pa_cons (pv 0) (pa_cons pe_int1 pa_nil1))))
  (pss_one (ps_ret (pe_lst (pa_cons (pe_slice (sl_tupK K) (pv 0) (po_some pe_int1) (po_some (pv 1))) (pa_cons (pe_slice (sl_tupK K) (pv 0) (po_some (pv 1)) po_none1) pa_nil1)))))))), ?_⟩)
  · obtain ⟨a, F, rfl, _⟩ := h
    rfl
  · obtain ⟨a, F, rfl, hS, k⟩ := h
    have h0 := SP.ci_hd F
    refine ⟨_, rfl, a, _, 0, _, rfl, rfl, hS, vis_at (j := 0) h0, rfl, _, rfl, ?_⟩
    cases F with
    | var v =>
      refine if_true_of (int_eq 0) ?_
      refine ⟨small_size (by decide), fun p hp => k _ p [] (Same.new hp) hp upd_same .nil⟩
    | neg x =>
      refine if_false_of (int_ne (i := 2) (by decide)) ?_
      refine ⟨_, rfl, a, _, 0, _, rfl, rfl, hS, vis_at (j := 0) h0, rfl, _, rfl, ?_⟩
      refine if_true_of (int_eq 2) ?_
      refine ⟨_, rfl, _, rfl, ?_⟩
      refine slE hS (pre := [2]) (mid := ci x) (SP.ci_neg x) (by rfl) fun q H1 s1 hq => ?_
      refine ⟨small_size (by simp), fun p hp => k _ p [q] (s1.trans (Same.new hp)) (s1.free hp) upd_same (.cons ((Same.new hp).tup hq) .nil)⟩
    | imp x y =>
      refine if_false_of (int_ne (i := 1) (by decide)) ?_
      refine ⟨_, rfl, a, _, 0, _, rfl, rfl, hS, vis_at (j := 0) h0, rfl, _, rfl, ?_⟩
      refine if_false_of (int_ne (i := 1) (by decide)) ?_
      refine ⟨_, rfl, a, ci (.imp x y), [1], ci y, x, rfl, hS, by simp [SP.ci_imp], ?_⟩
      refine ⟨_, rfl, _, rfl, _, rfl, _, rfl, ?_⟩
      refine slA hS (pre := [1]) (mid := ci x) (suf := ci y) (by simp [SP.ci_imp]) (by rfl) (by rfl) fun q H1 s1 hq => ?_
      refine ⟨_, rfl, _, rfl, _, rfl, ?_⟩
      refine slE (s1.tup hS) (pre := 1 :: ci x) (mid := ci y) (by simp [SP.ci_imp]) (by simp; omega) fun q2 H2 s2 hq2 => ?_
      refine ⟨small_size (by simp), fun p hp => k _ p [q, q2] ((s1.trans s2).trans (Same.new hp)) ((s1.trans s2).free hp) upd_same
        (.cons ((s2.trans (Same.new hp)).tup hq) (.cons ((Same.new hp).tup hq2) .nil))⟩
theorem setAll_snoc {l : List Int} {ps : List Nat} {vs : List Int} {p : Nat} {v : Int} (h : ps.length = vs.length) : setAll l (ps ++ [p]) (vs ++ [v]) = (setAll l ps vs).set p v := by
  rw [SP.setAll_append _ _ _ _ _ h]
  rfl
/-- where the i-th unknown's number stands, and what it is -/
theorem vpl_at {F : Form} {i j : Nat} (hj : (vpl F 0)[i]? = some j) : ∃ v : Nat, (Vapcma.vars F)[i]? = some v ∧ (ci F)[j]? = some (v : Int) := by
  have hjl := SP.vpl_lt F 0 j (List.mem_of_getElem? hj)
  have hv : (ci F)[j]? = some ((ci F).getD j 9) := by
    rw [List.getD_eq_getElem?_getD, List.getElem?_eq_getElem (by omega)]
    rfl
  have h1 := congrArg (fun l => l[i]?) (SP.vpl_get0 F)
  simp only [List.getElem?_map, hj, Option.map_some] at h1
  cases e : (Vapcma.vars F)[i]? with
  | none => rw [e] at h1; cases h1
  | some u =>
    rw [e] at h1
    simp only [Option.map_some, Option.some.injEq] at h1
    exact ⟨u, rfl, by rw [hv, h1]; rfl⟩
/-- shifted(f, more) -/
def sp_shifted (K : PySem.W.Frag) : Sp := fun vs H Q _ => ∃ (a : Addr) (F : Form) (m : Nat), vs = [.ref a, .int (m : Int)] ∧ SqT K H a (vis (ci F)) ∧ (ci F).length ≤ 1000 ∧
  ∀ H' p, Same H H' → SqT K H' p (vis (ci (Vapcma.rename (fun v => v + m) F))) → Q (.ref p) H'
abbrev N_shifted : List Str := ["f", "more", "out", "at"]
theorem sc_shifted : FnScope N_shifted ["f", "more"] (defScope s_shifted) := ⟨rfl, rfl, rfl, by decide +kernel, rfl, by decide +kernel, by decide +kernel⟩
theorem g_shifted (T : Tx K mg) : GFn P w K mg base CX0 3 "shifted" ["f", "more"] (sp_shifted K) := by
  have g_unknown_places : GFn P w K mg base CX0 2 "unknown_places" ["f"] (sp_unknown_places K) := g_unknown_places T
  refine gfn0 (f_shifted T) (t_shifted T) sc_shifted (fun _ _ _ _ _ _ us hl => match us, hl with | [_, _], _ => rfl) (fun vs H Q E h => ?_) (fun f cdv A outer s H vs Q E hr h => ⟨_, (pss_cons (ps_set (i := 2) sc_shifted.nd rfl (Or.inl rfl) (pe_callTy (call_listK K) (by rfl) (t_list T) (by decide +kernel) (pa_cons (pv 0) pa_nil1)))
  (pss_cons (ps_for PassesOwn.never rfl (pi_listK K (pe_fn g_unknown_places (hr.mono (by decide)) pass0 (pa_cons (pv 0) pa_nil1))) (pg_name (i := 3) sc_shifted.nd rfl (Or.inl rfl))
  (pss_one (ps_asg (pe_op op_add (pe_ix (ix_tupK K) (pv 0) (pv 3) (fun _ _ => rfl)) (pv 1)) (pg_sub (pv 2) (pv 3) set_list))))
  (pss_one (ps_ret (pe_callTy (call_tupleK K) (by rfl) (t_tuple T) (by decide +kernel) (pa_cons (pv 2) pa_nil1)))))), ?_⟩)
  · obtain ⟨a, F, m, rfl, _⟩ := h
    rfl
  · obtain ⟨a, F, m, rfl, hS, hz, k⟩ := h
    refine ⟨_, rfl, a, _, rfl, .inr hS, fun o ho => ?_⟩
    have s1 : Same H (upd H o (.lst (vis (ci F)))) := Same.new ho
    refine ⟨_, rfl, a, F, rfl, s1.tup hS, hz, fun H1 p s2 hp hL => ⟨p, rfl, ⟨_, SqL.of hL⟩, ?_⟩⟩
    have hpo : p ≠ o := fun e => by rw [e, upd_same] at hp; cases hp
    refine for_list (K := K) (a := p) (xs := vn (vpl F 0)) (fun i σ' H' => ∃ v, σ' = [some (.ref a), some (.int (m : Int)), some (.ref o), v] ∧ Same H H' ∧ H' p = some (.lst (vn (vpl F 0))) ∧
        H' o = some (.lst (vis (setAll (ci F) ((vpl F 0).take i) (((Vapcma.vars F).take i).map fun v => Int.ofNat (v + m))))))
      ⟨none, rfl, s1.trans s2, hL, s2 _ _ upd_same⟩ (fun i σ' H' _ ⟨_, _, _, h, _⟩ => SqL.of h) ?_ ?_
    · rintro i x σ' H' hx ⟨v, rfl, s3, hp3, ho3⟩
      obtain ⟨j, hj, rfl⟩ := vn_inv hx
      obtain ⟨u, hu, hc⟩ := vpl_at hj
      refine ⟨_, rfl, _, rfl, a, _, _, _, rfl, rfl, s3.tup hS, vis_at hc, _, rfl, _, _, rfl, rfl, ?_⟩
      refine ⟨_, rfl, _, rfl, o, _, _, j, rfl, rfl, ho3, ixN_nat ?_, ?_⟩
      · rw [vis_len, SP.setAll_len]
        exact (List.getElem?_eq_some_iff.mp hc).1
      · refine ⟨_, rfl, s3.mut ho, by rw [upd_ne hpo]; exact hp3, ?_⟩
        have e1 : ((vpl F 0).take i).length = (((Vapcma.vars F).take i).map fun v => Int.ofNat (v + m)).length := by
          rw [List.length_map, List.length_take, List.length_take, SP.vpl_len]
        rw [upd_same, take_more hj, take_more hu, List.map_append, List.map_cons, List.map_nil, setAll_snoc e1]
        simp only [vis, List.map_set]
        congr 3
    · rintro σ' H' ⟨v, rfl, s3, hp3, ho3⟩
      rw [vn_len, List.take_length, SP.vpl_len, List.take_length, SP.setAll_code0] at ho3
      refine ⟨_, rfl, o, _, rfl, .inl ⟨SqL.of ho3, fun q hq => k _ q (s3.trans (Same.new hq)) (SqT.of upd_same)⟩⟩
/-- numbered(f) -/
def sp_numbered (K : PySem.W.Frag) : Sp := fun vs H Q _ => ∃ (a : Addr) (F : Form), vs = [.ref a] ∧ SqT K H a (vis (ci F)) ∧ (ci F).length ≤ 1000 ∧
  ∀ H' p, Same H H' → SqT K H' p (vis (ci (Vapcma.normal F))) → Q (.ref p) H'
abbrev N_numbered : List Str := ["f", "out", "seen", "at"]
theorem sc_numbered : FnScope N_numbered ["f"] (defScope s_numbered) := ⟨rfl, rfl, rfl, by decide +kernel, rfl, by decide +kernel, by decide +kernel⟩
theorem g_numbered (T : Tx K mg) : GFn P w K mg base CX0 3 "numbered" ["f"] (sp_numbered K) := by
  have g_unknown_places : GFn P w K mg base CX0 2 "unknown_places" ["f"] (sp_unknown_places K) := g_unknown_places T
  refine gfn0 (f_numbered T) (t_numbered T) sc_numbered (fun _ _ _ _ _ _ us hl => match us, hl with | [_], _ => rfl) (fun vs H Q E h => ?_) (fun f cdv A outer s H vs Q E hr h => ⟨_, (pss_cons (ps_set (i := 1) sc_numbered.nd rfl (Or.inl rfl) (pe_callTy (call_listK K) (by rfl) (t_list T) (by decide +kernel) (pa_cons (pv 0) pa_nil1)))
  (pss_cons (ps_set (i := 2) sc_numbered.nd rfl (Or.inl rfl) (pe_lst pa_nil1))
  (pss_cons (ps_for PassesOwn.never rfl (pi_listK K (pe_fn g_unknown_places (hr.mono (by decide)) pass0 (pa_cons (pv 0) pa_nil1))) (pg_name (i := 3) sc_numbered.nd rfl (Or.inl rfl))
  (pss_cons (ps_if (pt_cmpR (op_notInK K) (pe_ix (ix_tupK K) (pv 0) (pv 3) (fun _ _ => rfl)) (pv 2) (by rfl)) (pss_one (ps_expr (pe_bmK K PySem.F.plainAttrs_list PySem.F.slot_list_append PySem.F.type_list_append mt_append (pv 2) (pa_cons (pe_ix (ix_tupK K) (pv 0) (pv 3) (fun _ _ => rfl)) pa_nil1))))
  pss_nil)
  (pss_one (ps_asg (pe_bmK K PySem.F.plainAttrs_list PySem.F.slot_list_index PySem.F.type_list_index (mt_indexK K) (pv 2) (pa_cons (pe_ix (ix_tupK K) (pv 0) (pv 3) (fun _ _ => rfl)) pa_nil1)) (pg_sub (pv 1) (pv 3) set_list)))))
  (pss_one (ps_ret (pe_callTy (call_tupleK K) (by rfl) (t_tuple T) (by decide +kernel) (pa_cons (pv 1) pa_nil1))))))), ?_⟩)
  · obtain ⟨a, F, rfl, _⟩ := h
    rfl
  · obtain ⟨a, F, rfl, hS, hz, k⟩ := h
    refine ⟨_, rfl, a, _, rfl, .inr hS, fun o ho => ?_⟩
    have s1 : Same H (upd H o (.lst (vis (ci F)))) := Same.new ho
    refine ⟨small_size (by decide), fun q hq => ?_⟩
    have hq0 : H q = none := s1.free hq
    have hqo : q ≠ o := fun e => by rw [e, upd_same] at hq; cases hq
    have s2 : Same H (upd (upd H o (.lst (vis (ci F)))) q (.lst [])) := s1.trans (Same.new hq)
    refine ⟨_, rfl, a, F, rfl, s2.tup hS, hz, fun H1 p s3 hp hL => ⟨p, rfl, ⟨_, SqL.of hL⟩, ?_⟩⟩
    have hpq : p ≠ q := fun e => by rw [e, upd_same] at hp; cases hp
    have hpo : p ≠ o := fun e => by rw [e, upd_ne (Ne.symm hqo), upd_same] at hp; cases hp
    have hvl : (Vapcma.vars F).length ≤ 1000 := by have := SP.ci_len F; omega
    let fd : Nat → Int := fun v => Int.ofNat ((grow [] (Vapcma.vars F)).findIdx fun x => x == v)
    refine for_list (K := K) (a := p) (xs := vn (vpl F 0)) (fun i σ' H' => ∃ v, σ' = [some (.ref a), some (.ref o), some (.ref q), v] ∧ Same H H' ∧ H' p = some (.lst (vn (vpl F 0))) ∧
        H' o = some (.lst (vis (setAll (ci F) ((vpl F 0).take i) (((Vapcma.vars F).take i).map fd)))) ∧ H' q = some (.lst (vn (grow [] ((Vapcma.vars F).take i)))))
      ⟨none, rfl, s2.trans s3, hL, s3 _ _ (by rw [upd_ne (Ne.symm hqo), upd_same]; rfl), s3 _ _ upd_same⟩ (fun i σ' H' _ ⟨_, _, _, h, _⟩ => SqL.of h) ?_ ?_
    · rintro i x σ' H' hx ⟨v, rfl, s4, hp4, ho4, hq4⟩
      obtain ⟨j, hj, rfl⟩ := vn_inv hx
      obtain ⟨u, hu, hc⟩ := vpl_at hj
      have hgl : (grow [] ((Vapcma.vars F).take i)).length ≤ 1000 := by
        have := SP.eraseDups_len ((Vapcma.vars F).take i)
        rw [SP.eraseDups_grow, List.length_take] at this
        omega
      -- the rest of a turn, u among those seen
      have rest : ∀ (H2 : Hp), Same H H2 → H2 p = some (.lst (vn (vpl F 0))) → H2 o = some (.lst (vis (setAll (ci F) ((vpl F 0).take i) (((Vapcma.vars F).take i).map fd)))) →
          H2 q = some (.lst (vn (grow [] ((Vapcma.vars F).take (i + 1))))) → u ∈ grow [] ((Vapcma.vars F).take (i + 1)) →
          ∃ v, [some (V.ref a), some (.ref o), some (.ref q), some (.int (j : Int))] = [some (V.ref a), some (.ref o), some (.ref q), v] ∧
            Same H (upd H2 o (.lst ((vis (setAll (ci F) ((vpl F 0).take i) (((Vapcma.vars F).take i).map fd))).set j (.int ((grow [] ((Vapcma.vars F).take (i + 1))).findIdx fun x => x == u : Nat))))) ∧
            upd H2 o (.lst ((vis (setAll (ci F) ((vpl F 0).take i) (((Vapcma.vars F).take i).map fd))).set j (.int ((grow [] ((Vapcma.vars F).take (i + 1))).findIdx fun x => x == u : Nat)))) p = some (.lst (vn (vpl F 0))) ∧
            upd H2 o (.lst ((vis (setAll (ci F) ((vpl F 0).take i) (((Vapcma.vars F).take i).map fd))).set j (.int ((grow [] ((Vapcma.vars F).take (i + 1))).findIdx fun x => x == u : Nat)))) o =
              some (.lst (vis (setAll (ci F) ((vpl F 0).take (i + 1)) (((Vapcma.vars F).take (i + 1)).map fd)))) ∧
            upd H2 o (.lst ((vis (setAll (ci F) ((vpl F 0).take i) (((Vapcma.vars F).take i).map fd))).set j (.int ((grow [] ((Vapcma.vars F).take (i + 1))).findIdx fun x => x == u : Nat)))) q = some (.lst (vn (grow [] ((Vapcma.vars F).take (i + 1))))) := by
        intro H2 s5 a1 a2 a3 a4
        refine ⟨_, rfl, s5.mut ho, by rw [upd_ne hpo]; exact a1, ?_, by rw [upd_ne hqo]; exact a3⟩
        have e1 : ((vpl F 0).take i).length = (((Vapcma.vars F).take i).map fd).length := by
          rw [List.length_map, List.length_take, List.length_take, SP.vpl_len]
        have e2 : (grow [] (Vapcma.vars F)).findIdx (fun x => x == u) = (grow [] ((Vapcma.vars F).take (i + 1))).findIdx fun x => x == u := by
          conv => lhs; rw [← List.take_append_drop (i + 1) (Vapcma.vars F), SP.grow_append]
          exact SP.findIdx_grow a4 _
        rw [upd_same, take_more hj, take_more hu, List.map_append, List.map_cons, List.map_nil, setAll_snoc e1]
        simp only [vis, List.map_set]
        congr 3
        show V.int _ = V.int (Int.ofNat _)
        rw [e2, take_more hu]
        rfl
      have hmem : u ∈ grow [] ((Vapcma.vars F).take (i + 1)) := SP.grow_mem.mpr (.inr (by rw [take_more hu]; simp))
      have hix : j < (vis (setAll (ci F) ((vpl F 0).take i) (((Vapcma.vars F).take i).map fd))).length := by
        rw [vis_len, SP.setAll_len]
        exact (List.getElem?_eq_some_iff.mp hc).1
      have hg : grow [] ((Vapcma.vars F).take (i + 1)) = if (grow [] ((Vapcma.vars F).take i)).contains u = true then grow [] ((Vapcma.vars F).take i) else grow [] ((Vapcma.vars F).take i) ++ [u] := by
        rw [take_more hu, SP.grow_snoc]
      refine ⟨_, rfl, _, rfl, a, _, _, _, rfl, rfl, s4.tup hS, vis_at hc, _, rfl, q, _, rfl, .inl (SqL.of hq4), rfl, flat_nats _, _, rfl, ?_⟩
      rw [inV_nats]
      cases hcu : (grow [] ((Vapcma.vars F).take i)).contains u with
      | true =>
        rw [hcu, if_pos rfl] at hg
        refine if_false_of (by simp) ?_
        refine ⟨_, rfl, .inl ⟨rfl, _, SqL.of hq4⟩, _, rfl, _, rfl, a, _, _, _, rfl, rfl, s4.tup hS, vis_at hc, ?_⟩
        refine index_nats (SqL.of (by rw [hg]; exact hq4)) hmem ?_
        exact ⟨_, rfl, _, rfl, o, _, _, j, rfl, rfl, ho4, ixN_nat hix, rest H' s4 hp4 ho4 (by rw [hg]; exact hq4) hmem⟩
      | false =>
        rw [hcu, if_neg (by decide)] at hg
        refine if_true_of (by simp) ?_
        refine ⟨_, rfl, .inl ⟨rfl, _, SqL.of hq4⟩, _, rfl, _, rfl, a, _, _, _, rfl, rfl, s4.tup hS, vis_at hc, q, _, _, rfl, rfl, hq4, small_lt (by rw [vn_len]; omega), ?_⟩
        have hq5 : upd H' q (.lst (vn (grow [] ((Vapcma.vars F).take i)) ++ [.int (u : Int)])) q = some (.lst (vn (grow [] ((Vapcma.vars F).take (i + 1))))) := by
          rw [upd_same, vn_snoc, hg]
        have s5 := s4.mut (o := .lst (vn (grow [] ((Vapcma.vars F).take i)) ++ [.int (u : Int)])) hq0
        refine ⟨_, rfl, .inl ⟨rfl, _, SqL.of hq5⟩, _, rfl, _, rfl, a, _, _, _, rfl, rfl, s5.tup hS, vis_at hc, ?_⟩
        refine index_nats (SqL.of hq5) hmem ?_
        have ho5 : upd H' q (.lst (vn (grow [] ((Vapcma.vars F).take i)) ++ [.int (u : Int)])) o = _ := (upd_ne (Ne.symm hqo)).trans ho4
        exact ⟨_, rfl, _, rfl, o, _, _, j, rfl, rfl, ho5, ixN_nat hix, rest _ s5 (by rw [upd_ne hpq]; exact hp4) ho5 hq5 hmem⟩
    · rintro σ' H' ⟨v, rfl, s4, hp4, ho4, hq4⟩
      rw [vn_len, List.take_length, SP.vpl_len, List.take_length, SP.setAll_code0, ← SP.normal_eq] at ho4
      refine ⟨_, rfl, o, _, rfl, .inl ⟨SqL.of ho4, fun q hq => k _ q (s4.trans (Same.new hq)) (SqT.of upd_same)⟩⟩
end SPW
end
section
set_option Elab.async false
set_option linter.all false
set_option maxRecDepth 100000
set_option maxHeartbeats 4000000
namespace SPW
open PySem PySem.Spec PyProof.Rows L2
open SP (ci co sgn sgns vpl cis subs grow setAll mAll)
open Vapcma (Form)
variable {P : Program} {w : World} {K : PySem.W.Frag} {mg : Str → Option Value} {base : Heap}
/-- what's put so far: number by number a tuple -/
def PutAt (K : PySem.W.Frag) (H : Hp) (kvs : List (Key × V)) (s : List (Nat × Form)) : Prop := Paired (fun (kv : Key × V) (q : Nat × Form) => ∃ c, kv = (Sum.inl (q.1 : Int), V.ref c) ∧ SqT K H c (vis (ci q.2))) kvs s
theorem PutAt.same {H H' : Hp} (e : Same H H') : ∀ {kvs : List (Key × V)} {s : List (Nat × Form)}, PutAt K H kvs s → PutAt K H' kvs s
  | _, _, .nil => .nil
  | _, _, .cons ⟨c, h1, h2⟩ t => .cons ⟨c, h1, e.tup h2⟩ (PutAt.same e t)
theorem PutAt.len {H : Hp} {kvs : List (Key × V)} {s : List (Nat × Form)} (h : PutAt K H kvs s) : kvs.length = s.length := Paired.length h
theorem PutAt.snoc {H : Hp} {v : Nat} {c : Addr} {t : Form} (hc : SqT K H c (vis (ci t))) : ∀ {kvs : List (Key × V)} {s : List (Nat × Form)}, PutAt K H kvs s → PutAt K H (kvs ++ [(Sum.inl (v : Int), V.ref c)]) (s ++ [(v, t)])
  | _, _, .nil => .cons ⟨c, rfl, hc⟩ .nil
  | _, _, .cons h t => .cons h (PutAt.snoc hc t)
theorem PutAt.find {H : Hp} (v : Nat) : ∀ {kvs : List (Key × V)} {s : List (Nat × Form)}, PutAt K H kvs s →
    (valV kvs (Sum.inl (v : Int)) = none ∧ (s.find? fun x => x.1 == v) = none) ∨ ∃ c t, valV kvs (Sum.inl (v : Int)) = some (.ref c) ∧ (s.find? fun x => x.1 == v) = some (v, t) ∧ SqT K H c (vis (ci t))
  | _, _, .nil => .inl ⟨rfl, rfl⟩
  | _, _, .cons (a := kv) (b := q) (l₁ := kvs) (l₂ := s) ⟨c, h1, h2⟩ t => by
    by_cases e : q.1 = v
    · subst e
      refine .inr ⟨c, q.2, ?_, ?_, h2⟩
      · rw [valV_pos (by rw [h1]), h1]
      · rw [List.find?_cons]
        simp
    · have hne : ¬ kv.1 = (Sum.inl (v : Int) : Key) := by
        rw [h1]
        intro z
        have := Sum.inl.inj z
        omega
      have hb : (q.1 == v) = false := by simpa using e
      rcases PutAt.find v t with ⟨a, b⟩ | ⟨c', t', a, b, d⟩
      · refine .inl ⟨by rw [valV_neg hne]; exact a, by rw [List.find?_cons, hb]; exact b⟩
      · exact .inr ⟨c', t', by rw [valV_neg hne]; exact a, by rw [List.find?_cons, hb]; exact b, d⟩
/-- is_instance(f, g) -/
def sp_is_instance (K : PySem.W.Frag) : Sp := fun vs H Q _ => ∃ (a b : Addr) (F G : Form), vs = [.ref a, .ref b] ∧ SqT K H a (vis (ci F)) ∧ SqT K H b (vis (ci G)) ∧ (ci G).length ≤ 1000 ∧
  ∀ H', Same H H' → Q (.bl (Vapcma.instanceOf G F)) H'
abbrev N_is_instance : List Str := ["f", "g", "put", "here", "at", "behind", "part"]
theorem sc_is_instance : FnScope N_is_instance ["f", "g"] (defScope s_is_instance) := ⟨rfl, rfl, rfl, by decide +kernel, rfl, by decide +kernel, by decide +kernel⟩
theorem g_is_instance (T : Tx K mg) : GFn P w K mg base CX0 2 "is_instance" ["f", "g"] (sp_is_instance K) := by
  have g_sign_places : GFn P w K mg base CX0 1 "sign_places" ["f"] (sp_sign_places K) := g_sign_places T
  have g_part_end : GFn P w K mg base CX0 1 "part_end" ["f", "start"] (sp_part_end K) := g_part_end T
  refine gfn0 (f_is_instance T) (t_is_instance T) sc_is_instance (fun _ _ _ _ _ _ us hl => match us, hl with | [_, _], _ => rfl) (fun vs H Q E h => ?_) (fun f cdv A outer s H vs Q E hr h => ⟨_, (pss_cons (ps_set (i := 2) sc_is_instance.nd rfl (Or.inl rfl) pe_dnewK)
  (pss_cons (ps_set (i := 3) sc_is_instance.nd rfl (Or.inl rfl) pe_int1)
  (pss_cons (ps_for PassesOwn.never rfl (pi_listK K (pe_fn g_sign_places (hr.mono (by decide)) pass0 (pa_cons (pv 1) pa_nil1))) (pg_name (i := 4) sc_is_instance.nd rfl (Or.inl rfl))
  (pss_one (ps_if (pt_cmpR op_eq (pe_ix (ix_tupK K) (pv 1) (pv 4) (fun _ _ => rfl)) (pe_ci1 (t_UNKNOWN T)) (nomark _)) (pss_cons (ps_set (i := 5) sc_is_instance.nd rfl (Or.inl rfl) (pe_fn g_part_end (hr.mono (by decide)) pass0 (pa_cons (pv 0) (pa_cons (pv 3) pa_nil1))))
  (pss_cons (ps_set (i := 6) sc_is_instance.nd rfl (Or.inl rfl) (pe_slice (sl_tupK K) (pv 0) (po_some (pv 3)) (po_some (pv 5))))
  (pss_cons (ps_if (pt_cmpR (op_neDK K hr.units) (pe_dsetd (pv 2) (pe_ix (ix_tupK K) (pv 1) (pe_op op_add (pv 4) pe_int1) (fun _ _ => rfl)) (pv 6) ⟨rfl, rfl, rfl, rfl⟩) (pv 6) (nomark _)) (pss_one (ps_ret pe_bl1))
  pss_nil)
  (pss_one (ps_set (i := 3) sc_is_instance.nd rfl (Or.inl rfl) (pv 5))))))
  (pss_one (ps_if (pt_cmpR op_eq (pe_ix (ix_tupK K) (pv 0) (pv 3) (fun _ _ => rfl)) (pe_ix (ix_tupK K) (pv 1) (pv 4) (fun _ _ => rfl)) (nomark _)) (pss_one (ps_aug (i := 3) sc_is_instance.nd rfl (Or.inl rfl) pe_int1 ip_add))
  (pss_one (ps_ret pe_bl1)))))))
  (pss_one (ps_ret pe_bl1))))), ?_⟩)
  · obtain ⟨a, b, F, G, rfl, _⟩ := h
    rfl
  · obtain ⟨a, b, F, G, rfl, hF, hG, hz, k⟩ := h
    intro d hd
    have s1 : Same H (upd H d (.dK [])) := Same.new hd
    refine ⟨_, rfl, b, G, rfl, s1.tup hG, by omega, fun H1 p s2 hp hL => ⟨p, rfl, ⟨_, SqL.of hL⟩, ?_⟩⟩
    have hpd : p ≠ d := fun e => by rw [e, upd_same] at hp; cases hp
    have hsg : (sgn G 0).length ≤ 1000 := by rw [SP.sgn_len]; have := SP.ci_len G; omega
    refine for_list (K := K) (a := p) (xs := vn (sgn G 0)) (fun i σ' H' => ∃ (l : List (Form × Form)) (s : List (Nat × Form)) (o here : Nat) (kvs : List (Key × V)) (v4 v5 v6 : Option V),
        σ' = [some (.ref a), some (.ref b), some (.ref d), some (.int (here : Int)), v4, v5, v6] ∧ Same H H' ∧ H' p = some (.lst (vn (sgn G 0))) ∧ H' d = some (.dK kvs) ∧ PutAt K H' kvs s ∧ s.length ≤ i ∧
        (sgn G 0).drop i = sgns (l.map (·.1)) o ∧ (ci G).drop o = cis (l.map (·.1)) ∧ (ci F).drop here = cis (l.map (·.2)) ∧ Vapcma.instanceOf G F = (mAll l s).isSome)
      ⟨[(G, F)], [], 0, 0, [], none, none, none, rfl, s1.trans s2, hL, s2 _ _ upd_same, .nil, Nat.le_refl _, by simp [sgns], by simp [SP.cis], by simp [SP.cis], SP.instance_mAll F G⟩
      (fun i σ' H' _ ⟨_, _, _, _, _, _, _, _, _, _, h, _⟩ => SqL.of h) ?_ ?_
    · rintro i x σ' H' hx ⟨l, s, o, here, kvs, v4, v5, v6, rfl, s3, hp3, hd3, hP, hsi, hsd, hgd, hfd, hm⟩
      obtain ⟨j, hj, rfl⟩ := vn_inv hx
      have hi1000 : i < 1000 := by have := (List.getElem?_eq_some_iff.mp hj).1; omega
      have hd0 : (sgn G 0).drop i = j :: (sgn G 0).drop (i + 1) := by
        have hlt := (List.getElem?_eq_some_iff.mp hj).1
        rw [List.drop_eq_getElem_cons hlt]
        congr 1
        rw [List.getElem?_eq_getElem hlt] at hj
        exact Option.some.inj hj
      cases l with
      | nil =>
        rw [hd0] at hsd
        simp [sgns] at hsd
      | cons q l =>
        obtain ⟨g1, t1⟩ := q
        simp only [List.map_cons] at hsd hgd hfd
        cases g1 with
        | var v =>
          rw [hd0, SP.sgns_var] at hsd
          obtain ⟨rfl, hsd⟩ := List.cons.inj hsd
          rw [SP.cis_var] at hgd
          obtain ⟨c1, c2, c3⟩ := drop_at hgd
          obtain ⟨c4, c5, c6⟩ := drop_at c2
          rw [SP.cis_cons] at hfd
          have hsplit : ci F = (ci F).take here ++ ci t1 ++ cis (l.map (·.2)) := by
            rw [List.append_assoc, ← hfd, List.take_append_drop]
          have hhl : here ≤ (ci F).length := by
            rcases Nat.lt_or_ge (ci F).length here with h | h
            · rw [List.drop_eq_nil_of_le (by omega)] at hfd
              have := congrArg List.length hfd
              have := SP.ci_pos t1
              simp at *
              omega
            · exact h
          have hpl : ((ci F).take here).length = here := by rw [List.length_take]; omega
          refine ⟨_, rfl, _, rfl, b, _, _, _, rfl, rfl, s3.tup hG, vis_at c1, rfl, _, rfl, ?_⟩
          refine if_true_of (int_eq 0) ?_
          refine ⟨_, rfl, _, rfl, a, ci F, (ci F).take here, cis (l.map (·.2)), t1, ?_, s3.tup hF, hsplit, ?_⟩
          · rw [hpl]; rfl
          rw [hpl]
          refine ⟨_, rfl, _, rfl, _, rfl, _, rfl, _, rfl, ?_⟩
          refine slA (s3.tup hF) (pre := (ci F).take here) (mid := ci t1) (suf := cis (l.map (·.2))) hsplit (by rw [hpl]) (by rw [hpl]) fun pt H2 s4 hpt => ?_
          have s5 := s3.trans s4
          have hd5 := s4 _ _ hd3
          have hP5 := hP.same s4
          refine ⟨_, rfl, d, rfl, .inl ⟨_, .inl hd5⟩, ?_⟩
          refine ⟨_, rfl, _, rfl, _, _, rfl, rfl, b, _, _, _, rfl, rfl, s5.tup hG, vis_at (j := j + 1) c4, ?_⟩
          refine ⟨_, rfl, kvs, Sum.inl (v : Int), hd5, rfl, small_lt (by rw [hP5.len]; omega), ?_, ?_⟩
          · intro x hx
            rcases hP5.find v with ⟨e1, e2⟩ | ⟨c, t, e1, e2, e3⟩
            · rw [e1] at hx; cases hx
            · rw [e1] at hx
              cases hx
              refine ⟨_, rfl, _, _, dp_tup e3, dp_tup hpt, dI_shaped _, dI_shaped _, _, rfl, ?_⟩
              rw [eqv_dI]
              rw [SP.mAll_var_old l e2] at hm
              by_cases ht : t = t1
              · subst ht
                rw [if_pos rfl] at hm
                refine if_false_of (by simp) ?_
                refine ⟨_, rfl, l, s, j + 2, here + (ci t).length, kvs, _, _, _, rfl, s5, s4 _ _ hp3, hd5, hP5, by omega, hsd, c5, ?_, hm⟩
                rw [← List.drop_drop, hfd, List.drop_left]
              · rw [if_neg ht] at hm
                refine if_true_of (by simp [SP.ci_eq, ht]) ?_
                have := k H2 s5
                rw [hm] at this
                exact this
          · intro hx
            rcases hP5.find v with ⟨e1, e2⟩ | ⟨c, t, e1, e2, e3⟩
            · have sd : Same H (upd H2 d (.dK (putK kvs (Sum.inl (v : Int)) (.ref pt)))) := s5.mut hd
              have hpt' : SqT K (upd H2 d (.dK (putK kvs (Sum.inl (v : Int)) (.ref pt)))) pt (vis (ci t1)) := by
                rcases hpt with (h | ⟨ob, h⟩) | h
                · have hne : pt ≠ d := fun e => by rw [e, hd5] at h; cases h
                  exact .inl (.inl (by rw [upd_ne hne]; exact h))
                · have hne : pt ≠ d := fun e => by rw [e, hd5] at h; cases h
                  exact .inl (.inr ⟨ob, by rw [upd_ne hne]; exact h⟩)
                · exact .inr h
              refine ⟨_, rfl, _, _, dp_tup hpt', dp_tup hpt', dI_shaped _, dI_shaped _, _, rfl, ?_⟩
              rw [eqv_dI]
              refine if_false_of (by simp) ?_
              rw [SP.mAll_var_new l e2] at hm
              have hPn : PutAt K (upd H2 d (.dK (putK kvs (Sum.inl (v : Int)) (.ref pt)))) kvs s := by
                have : ∀ {c : Addr} {xs : List V}, SqT K H2 c xs → SqT K (upd H2 d (.dK (putK kvs (Sum.inl (v : Int)) (.ref pt)))) c xs := by
                  intro c xs h
                  rcases h with (h | ⟨ob, h⟩) | h
                  · have hne : c ≠ d := fun e => by rw [e, hd5] at h; cases h
                    exact .inl (.inl (by rw [upd_ne hne]; exact h))
                  · have hne : c ≠ d := fun e => by rw [e, hd5] at h; cases h
                    exact .inl (.inr ⟨ob, by rw [upd_ne hne]; exact h⟩)
                  · exact .inr h
                clear hx e1 e2 hm hpt' sd hd5
                revert hP5
                generalize hk : putK kvs (Sum.inl (v : Int)) (V.ref pt) = kk at *
                intro hP5
                clear hP hd3 hsi hk
                induction hP5 with
                | nil => exact .nil
                | cons h t ih =>
                  obtain ⟨c, h1, h2⟩ := h
                  exact .cons ⟨c, h1, this h2⟩ ih
              refine ⟨_, rfl, l, s ++ [(v, t1)], j + 2, here + (ci t1).length, _, _, _, _, rfl, sd, by rw [upd_ne hpd]; exact s4 _ _ hp3, upd_same, ?_, by simp; omega, hsd, c5, ?_, hm⟩
              · rw [putK_new _ e1]
                rw [putK_new _ e1] at hPn hpt'
                exact PutAt.snoc hpt' hPn
              · rw [← List.drop_drop, hfd, List.drop_left]
            · rw [e1] at hx; cases hx
        | imp g2 g3 =>
          rw [hd0, SP.sgns_imp] at hsd
          obtain ⟨rfl, hsd⟩ := List.cons.inj hsd
          rw [SP.cis_imp] at hgd
          obtain ⟨c1, c2, c3⟩ := drop_at hgd
          have ht : ∃ r, cis (t1 :: l.map (·.2)) = SP.hd t1 :: r := by
            cases t1 with
            | var u => exact ⟨_, SP.cis_var u _⟩
            | imp u1 u2 => exact ⟨_, SP.cis_imp u1 u2 _⟩
            | neg u1 => exact ⟨_, SP.cis_neg u1 _⟩
          obtain ⟨r, hr⟩ := ht
          have hfd2 := hfd
          rw [hr] at hfd2
          obtain ⟨f1, f2, f3⟩ := drop_at hfd2
          refine ⟨_, rfl, _, rfl, b, _, _, _, rfl, rfl, s3.tup hG, vis_at c1, rfl, _, rfl, ?_⟩
          refine if_false_of (int_ne (i := 1) (by decide)) ?_
          refine ⟨_, rfl, _, rfl, a, _, _, _, rfl, rfl, s3.tup hF, vis_at f1, ?_⟩
          refine ⟨_, rfl, _, rfl, b, _, _, _, rfl, rfl, s3.tup hG, vis_at c1, rfl, _, rfl, ?_⟩
          rw [int_dec]
          by_cases c : SP.hd t1 = 1
          · refine if_true_of (decide_eq_true c) ?_
            cases t1 with
            | var u => cases c
            | neg u => cases c
            | imp u1 u2 =>
              rw [SP.cis_imp] at hfd
              obtain ⟨_, f5, _⟩ := drop_at hfd
              refine ⟨_, rfl, _, _, rfl, rfl, ?_⟩
              rw [SP.mAll_imp] at hm
              exact ⟨(g2, u1) :: (g3, u2) :: l, s, j + 1, here + 1, kvs, _, _, _, rfl, s3, hp3, hd3, hP, by omega, hsd, c2, f5, hm⟩
          · refine if_false_of (decide_eq_false c) ?_
            rw [SP.mAll_clash l s (by intro e; exact c e.symm) (by intro v; simp)] at hm
            have := k H' s3
            rw [hm] at this
            exact this
        | neg g2 =>
          rw [hd0, SP.sgns_neg] at hsd
          obtain ⟨rfl, hsd⟩ := List.cons.inj hsd
          rw [SP.cis_neg] at hgd
          obtain ⟨c1, c2, c3⟩ := drop_at hgd
          have ht : ∃ r, cis (t1 :: l.map (·.2)) = SP.hd t1 :: r := by
            cases t1 with
            | var u => exact ⟨_, SP.cis_var u _⟩
            | imp u1 u2 => exact ⟨_, SP.cis_imp u1 u2 _⟩
            | neg u1 => exact ⟨_, SP.cis_neg u1 _⟩
          obtain ⟨r, hr⟩ := ht
          have hfd2 := hfd
          rw [hr] at hfd2
          obtain ⟨f1, f2, f3⟩ := drop_at hfd2
          refine ⟨_, rfl, _, rfl, b, _, _, _, rfl, rfl, s3.tup hG, vis_at c1, rfl, _, rfl, ?_⟩
          refine if_false_of (int_ne (i := 2) (by decide)) ?_
          refine ⟨_, rfl, _, rfl, a, _, _, _, rfl, rfl, s3.tup hF, vis_at f1, ?_⟩
          refine ⟨_, rfl, _, rfl, b, _, _, _, rfl, rfl, s3.tup hG, vis_at c1, rfl, _, rfl, ?_⟩
          rw [int_dec]
          by_cases c : SP.hd t1 = 2
          · refine if_true_of (decide_eq_true c) ?_
            cases t1 with
            | var u => cases c
            | imp u1 u2 => cases c
            | neg u1 =>
              rw [SP.cis_neg] at hfd
              obtain ⟨_, f5, _⟩ := drop_at hfd
              refine ⟨_, rfl, _, _, rfl, rfl, ?_⟩
              rw [SP.mAll_neg] at hm
              exact ⟨(g2, u1) :: l, s, j + 1, here + 1, kvs, _, _, _, rfl, s3, hp3, hd3, hP, by omega, hsd, c2, f5, hm⟩
          · refine if_false_of (decide_eq_false c) ?_
            rw [SP.mAll_clash l s (by intro e; exact c e.symm) (by intro v; simp)] at hm
            have := k H' s3
            rw [hm] at this
            exact this
    · rintro σ' H' ⟨l, s, o, here, kvs, v4, v5, v6, rfl, s3, hp3, hd3, hP, hsi, hsd, hgd, hfd, hm⟩
      cases l with
      | nil =>
        have := k H' s3
        rw [hm] at this
        exact this
      | cons q l =>
        rw [vn_len, List.drop_length] at hsd
        obtain ⟨g1, t1⟩ := q
        cases g1 with
        | var v => rw [List.map_cons, SP.sgns_var] at hsd; cases hsd
        | imp u1 u2 => rw [List.map_cons, SP.sgns_imp] at hsd; cases hsd
        | neg u1 => rw [List.map_cons, SP.sgns_neg] at hsd; cases hsd
end SPW
end
section
set_option Elab.async false
set_option linter.all false
set_option maxRecDepth 100000
set_option maxHeartbeats 4000000
namespace SPW
open PySem PySem.Spec PyProof.Rows L2
open SP (ci co sgn sgns vpl cis subs grow setAll mAll)
open Vapcma (Form)
variable {P : Program} {w : World} {K : PySem.W.Frag} {mg : Str → Option Value} {base : Heap}
/-- the first as general, or -1 -/
def genI (fs : List (Option Form)) (F : Form) : Int := match Vapcmb.firstAsGeneral fs F with
  | some k => (k : Int)
  | none => -1
/-- a list of formulas -/
structure FsAt (K : PySem.W.Frag) (H : Hp) (p : Addr) (fs : List (Option Form)) : Prop where
  ex : ∃ as, SqL K H p (vr as) ∧ TupsAt K H as (fs.map co)
  sm : ∀ G, some G ∈ fs → (ci G).length ≤ 1000
  ln : fs.length ≤ 1000
theorem FsAt.same {H H' : Hp} {p : Addr} {fs : List (Option Form)} (h : FsAt K H p fs) (e : Same H H') : FsAt K H' p fs := by
  obtain ⟨as, h1, h2⟩ := h.ex
  exact ⟨⟨as, e.seq h1, h2.same e⟩, h.sm, h.ln⟩
/-- first_general(formulas, f) -/
def sp_first_general (K : PySem.W.Frag) : Sp := fun vs H Q _ => ∃ (p b : Addr) (fs : List (Option Form)) (F : Form), vs = [.ref p, .ref b] ∧ FsAt K H p fs ∧ SqT K H b (vis (ci F)) ∧
  ∀ H', Same H H' → Q (.int (genI fs F)) H'
abbrev N_first_general : List Str := ["formulas", "f", "at", "g"]
theorem sc_first_general : FnScope N_first_general ["formulas", "f"] (defScope s_first_general) := ⟨rfl, rfl, rfl, by decide +kernel, rfl, by decide +kernel, by decide +kernel⟩
theorem g_first_general (T : Tx K mg) : GFn P w K mg base CX0 3 "first_general" ["formulas", "f"] (sp_first_general K) := by
  have g_is_instance : GFn P w K mg base CX0 2 "is_instance" ["f", "g"] (sp_is_instance K) := g_is_instance T
  refine gfn0 (f_first_general T) (t_first_general T) sc_first_general (fun _ _ _ _ _ _ us hl => match us, hl with | [_, _], _ => rfl) (fun vs H Q E h => ?_) (fun f cdv A outer s H vs Q E hr h => ⟨_, (pss_cons (ps_for PassesOwn.never rfl (pi_enumK K (by rfl) (t_enumerate T) (pa_cons (pv 0) pa_nil1)) (pg_tupK K (n := 2) rfl (pgs_cons (pg_name (i := 2) sc_first_general.nd rfl (Or.inl rfl)) (pgs_cons (pg_name (i := 3) sc_first_general.nd rfl (Or.inl rfl)) pgs_nil)))
  (pss_one (ps_if (PW.pt (pw_and (pt_cmpR (op_neDK K hr.units) (pv 3) (pe_ca1 (t_NO_FORMULA T)) (nomark _)) (pw_and1 (pt_val (pe_fn g_is_instance (hr.mono (by decide)) pass0 (pa_cons (pv 1) (pa_cons (pv 3) pa_nil1))))))) (pss_one (ps_ret (pv 2)))
  pss_nil)))
  (pss_one (ps_ret (pe_un un_neg pe_int1)))), ?_⟩)
  · obtain ⟨p, b, fs, F, rfl, _⟩ := h
    rfl
  · obtain ⟨p, b, fs, F, rfl, hF, hb, k⟩ := h
    obtain ⟨as, h1, h2⟩ := hF.ex
    have hlen : as.length = fs.length := by rw [h2.len, List.length_map]
    let pr : Option Form → Bool := fun x => x.any fun g => Vapcma.instanceOf g F
    refine ⟨_, rfl, p, _, rfl, h1, for_enum (K := K) (a := p) (xs := vr as) (fun i σ' H' => ∃ v2 v3, σ' = [some (.ref p), some (.ref b), v2, v3] ∧ Same H H' ∧ ∀ m x, m < i → fs[m]? = some x → pr x = false)
      ⟨none, none, rfl, Same.refl H, fun m x hm => absurd hm (Nat.not_lt_zero m)⟩ (fun i σ' H' _ ⟨_, _, _, s, _⟩ => s.seq h1) ?_ ?_⟩
    · rintro i x T' σ' H' hx ⟨v2, v3, rfl, s1, hno⟩ hT
      obtain ⟨c, hc, rfl⟩ := vr_inv hx
      have s2 := s1.trans (Same.new (o := .tup [.int (i : Int), .ref c]) hT)
      obtain ⟨l, hl, hcl⟩ := (h2.same s2).get hc
      rw [List.getElem?_map] at hl
      cases hfi : fs[i]? with
      | none => rw [hfi] at hl; cases hl
      | some x =>
        rw [hfi] at hl
        have hl := Option.some.inj hl
        subst hl
        refine ⟨T', _, rfl, SqT.of upd_same, rfl, _, _, rfl, _, _, rfl, rfl, ?_⟩
        have he := T.c
        refine ⟨_, rfl, _, _, dp_tup hcl, dp_tup (l := []) (u_NO_FORMULA T _), dI_shaped _, dI_shaped _, _, rfl, ?_⟩
        rw [eqv_dI]
        cases x with
        | none =>
          refine if_false_of (by simp [co]) ?_
          refine if_false_of rfl ?_
          refine ⟨_, _, rfl, s2, fun m y hm hy => ?_⟩
          rcases Nat.lt_or_ge m i with h | h
          · exact hno m y h hy
          · have : m = i := by omega
            subst this
            rw [hfi] at hy
            cases hy
            rfl
        | some G =>
          refine if_true_of (by simp [co, SP.ci_ne]) ?_
          refine ⟨_, rfl, _, rfl, b, c, F, G, rfl, s2.tup hb, hcl, hF.sm G (List.mem_of_getElem? hfi), fun H2 s3 => ⟨_, rfl, ?_⟩⟩
          cases hin : Vapcma.instanceOf G F with
          | true =>
            refine if_true_of rfl ?_
            refine ⟨_, rfl, ?_⟩
            have := k H2 (s2.trans s3)
            have e : Vapcmb.firstAsGeneral fs F = some i := by
              unfold Vapcmb.firstAsGeneral
              rw [List.findIdx?_eq_some_iff_getElem]
              have hlt := (List.getElem?_eq_some_iff.mp hfi).1
              refine ⟨hlt, ?_, fun m hm => ?_⟩
              · have : fs[i] = some G := by rw [List.getElem?_eq_getElem hlt] at hfi; exact Option.some.inj hfi
                rw [this]
                exact hin
              · have hml : m < fs.length := by omega
                have := hno m fs[m] hm (List.getElem?_eq_getElem hml)
                intro z
                have z2 : pr fs[m] = true := z
                rw [this] at z2
                cases z2
            simp only [genI, e] at this
            exact this
          | false =>
            refine if_false_of rfl ?_
            refine ⟨_, _, rfl, s2.trans s3, fun m y hm hy => ?_⟩
            rcases Nat.lt_or_ge m i with h | h
            · exact hno m y h hy
            · have : m = i := by omega
              subst this
              rw [hfi] at hy
              cases hy
              exact hin
    · rintro σ' H' ⟨v2, v3, rfl, s1, hno⟩
      refine ⟨_, rfl, ?_⟩
      have e : Vapcmb.firstAsGeneral fs F = none := by
        unfold Vapcmb.firstAsGeneral
        rw [List.findIdx?_eq_none_iff]
        intro x hx
        obtain ⟨m, hm, e⟩ := List.mem_iff_getElem.mp hx
        exact hno m x (by rw [vr_len, hlen]; exact hm) (by rw [List.getElem?_eq_getElem hm, e])
      have := k H' s1
      simp only [genI, e] at this
      exact this
end SPW
end
section
set_option Elab.async false
set_option linter.all false
set_option maxRecDepth 100000
set_option maxHeartbeats 4000000
/-! list(zip(xs, ys)), xs and ys two lists; xs.count(y), y a tuple of numbers -/
namespace SPW
namespace Lz
open PySem PySem.W PyProof.Rows
theorem zip_no_len : typeLookup (.type "zip") "__len__" = pure none := am_miss_of_fast (by decide +kernel)
theorem zip_no_hint : typeLookup (.type "zip") "__length_hint__" = pure none := am_miss_of_fast (by decide +kernel)
section
variable (z TI TO i1 i2 l1 l2 : Addr) (xs ys : Array Value)
/-- the zip ahead of its i-th turn: nothing is out yet, or a tuple that still stands -/
structure St (i : Nat) (h : Heap) : Prop where
  out : (IsZip h z TI TO .none ∧ ∃ a b, IsPair h TO a b) ∨ ∃ T f oT, IsZipHeld h z TI TO T f ∧ h.get? T = some oT ∧ T ≠ z ∧ T ≠ i1 ∧ T ≠ i2
  ti : IsPair h TI (.ref i1) (.ref i2)
  it1 : h.IsListIter i1 l1 i
  it2 : h.IsListIter i2 l2 i
  s1 : h.IsList l1 xs
  s2 : h.IsList l2 ys
/-- the tuples made so far, all behind lo -/
structure Made (lo : Addr) (h : Heap) (as : List Addr) : Prop where
  rise : as.Pairwise (· < ·)
  above : ∀ a ∈ as, lo < a
  pairs : ∀ (j : Nat) (a : Addr), as[j]? = some a → ∃ x y, xs[j]? = some x ∧ ys[j]? = some y ∧ h.get? a = some { cls := .type "tuple", data := .seq #[x, y] }
/-- all that the zip goes by stands ahead of S -/
structure Low (S : Addr) : Prop where
  z : z < S
  ti : TI < S
  to : TO < S
  i1 : i1 < S
  i2 : i2 < S
  l1 : l1 < S
  l2 : l2 < S
end
section
variable {z TI TO i1 i2 l1 l2 : Addr} {xs ys : Array Value}
theorem St.keep {i : Nat} {h h' : Heap} (st : St z TI TO i1 i2 l1 l2 xs ys i h) {S : Addr} (L : Low z TI TO i1 i2 l1 l2 S) (k : ∀ b o, b ≠ S → h.get? b = some o → h'.get? b = some o)
    (kS : ∀ o, h.get? S = some o → ∃ o', h'.get? S = some o') : St z TI TO i1 i2 l1 l2 xs ys i h' := by
  have ne : ∀ {b : Addr}, b < S → b ≠ S := fun h => Nat.ne_of_lt h
  refine ⟨?_, k _ _ (ne L.ti) st.ti, st.it1.at fun o e => k _ o (ne L.i1) e, st.it2.at fun o e => k _ o (ne L.i2) e, ?_, ?_⟩
  · rcases st.out with ⟨a, x, y, b⟩ | ⟨T, f, oT, a, b, t1, t2, t3⟩
    · exact .inl ⟨k _ _ (ne L.z) a, x, y, k _ _ (ne L.to) b⟩
    · by_cases e : T = S
      · obtain ⟨o', ho'⟩ := kS oT (e ▸ b)
        exact .inr ⟨T, f, o', k _ _ (ne L.z) a, e ▸ ho', t1, t2, t3⟩
      · exact .inr ⟨T, f, oT, k _ _ (ne L.z) a, k _ _ e b, t1, t2, t3⟩
  · exact st.s1.at fun o e => k _ o (ne L.l1) e
  · exact st.s2.at fun o e => k _ o (ne L.l2) e
variable {prog : Program} {w : World} {A : Around} {E : Value → Shared → Prop} {s : Shared}
theorem item (D : ZipApart z TI TO i1 i2 l1 l2) {i : Nat} {x y : Value} {Q : Option Value → Shared → Prop} (st : St z TI TO i1 i2 l1 l2 xs ys i s.heap) (hx : xs[i]? = some x) (hy : ys[i]? = some y)
    (hQ : ∀ h', St z TI TO i1 i2 l1 l2 xs ys (i + 1) h' → h'.get? s.heap.objs.size = some { cls := .type "tuple", data := .seq #[x, y] } → h'.objs.size = s.heap.objs.size + 1 →
      (∀ b o, b ≠ z → b ≠ TO → b ≠ i1 → b ≠ i2 → s.heap.get? b = some o → h'.get? b = some o) → Q (some (.ref s.heap.objs.size)) { s with heap := h' }) : wpAny (model prog w) A (pyNext (.ref z)) Q E s := by
  have lz : z < s.heap.objs.size := by
    rcases st.out with ⟨a, _⟩ | ⟨_, _, _, a, _⟩
    · exact Heap.lt_size a
    · exact Heap.lt_size a
  have li1 : i1 < s.heap.objs.size := by obtain ⟨_, e, _⟩ := st.it1; exact Heap.lt_size e
  have li2 : i2 < s.heap.objs.size := by obtain ⟨_, e, _⟩ := st.it2; exact Heap.lt_size e
  rcases st.out with ⟨a, x0, y0, b⟩ | ⟨T, f, oT, a, b, t1, t2, t3⟩
  · refine wpAny_pyNext_zip_item D a st.ti b st.it1 st.it2 st.s1 st.s2 hx hy fun h' c1 c2 c3 c4 c5 c6 c7 => ?_
    exact hQ h' ⟨.inr ⟨_, _, _, c1, c5, Nat.ne_of_gt lz, Nat.ne_of_gt li1, Nat.ne_of_gt li2⟩, c7 _ _ D.TIz D.TITO D.TIi1 D.TIi2 st.ti, c3, c4, st.s1.at fun o e => c7 _ o D.l1z D.l1TO D.l1i1 D.l1i2 e, st.s2.at fun o e => c7 _ o D.l2z D.l2TO D.l2i1 D.l2i2 e⟩ c5 c6 c7
  · refine wpAny_pyNext_zip_item_held D a b st.ti st.it1 st.it2 st.s1 st.s2 hx hy fun h' c1 c3 c4 c5 c6 c7 => ?_
    exact hQ h' ⟨.inr ⟨T, true, oT, c1, c7 _ _ t1 t2 t3 b, t1, t2, t3⟩, c7 _ _ D.TIz D.TIi1 D.TIi2 st.ti, c3, c4, st.s1.at fun o e => c7 _ o D.l1z D.l1i1 D.l1i2 e, st.s2.at fun o e => c7 _ o D.l2z D.l2i1 D.l2i2 e⟩ c5 c6 fun b o n1 _ n2 n3 => c7 b o n1 n2 n3
theorem done (hh : A.handled = none) (D : ZipApart z TI TO i1 i2 l1 l2) {i : Nat} {Q : Option Value → Shared → Prop} (st : St z TI TO i1 i2 l1 l2 xs ys i s.heap) (he : xs[i]? = none ∨ ys[i]? = none)
    (hQ : ∀ h', (∀ b o, b ≠ z → b ≠ TO → b ≠ i1 → b ≠ i2 → s.heap.get? b = some o → h'.get? b = some o) → Q none { s with heap := h' }) : wpAny (model prog w) A (pyNext (.ref z)) Q E s := by
  rcases st.out with ⟨a, x0, y0, b⟩ | ⟨T, f, oT, a, b, t1, t2, t3⟩
  · exact wpAny_pyNext_zip_end hh D a st.ti b st.it1 st.it2 st.s1 st.s2 he fun h' k => hQ h' k
  · exact wpAny_pyNext_zip_end_held hh D a b st.ti st.it1 st.it2 st.s1 st.s2 he fun h' k => hQ h' fun c o n1 _ n2 n3 e => k c o n1 n2 n3 e
end
section
variable {prog : Program} {w : World} {A : Around} {s : Shared} {R : Result → Shared → Prop} {z TI TO i1 i2 l1 l2 : Addr} {xs ys : Array Value}
theorem loop {S : Addr} (hh : A.handled = none) (D : ZipApart z TI TO i1 i2 l1 l2) (L : Low z TI TO i1 i2 l1 l2 S) (hn : xs.size = ys.size) (hz : xs.size ≤ sizeLine) (res : Value) {h1 : Heap}
    (hR : ∀ h' tk acc c as, (∀ b o, b ≠ S → b ≠ z → b ≠ TO → b ≠ i1 → b ≠ i2 → h1.get? b = some o → h'.get? b = some o) → h'.get? S = some { cls := .type "list", dict := none, data := .seq acc c, slots := #[] } → as.length = xs.size → Made xs ys S h' as →
      acc.toList = as.map Value.ref → R (.ok (.ret res)) { s with heap := h', toks := tk }) :
    ∀ (k i : Nat) (h : Heap) (tk c : Nat) (acc : Array Value) (as : List Addr), xs.size - i = k → i ≤ xs.size → St z TI TO i1 i2 l1 l2 xs ys i h → (∀ b o, b ≠ S → b ≠ z → b ≠ TO → b ≠ i1 → b ≠ i2 → h1.get? b = some o → h.get? b = some o) →
      h.get? S = some { cls := .type "list", dict := none, data := .seq acc c, slots := #[] } → acc.toList = as.map Value.ref → as.length = i → Made xs ys S h as →
      codeAny (model prog w) A (.builtin "list.extend.loop" ⟨[.ref S, .ref z, res], []⟩) R { s with heap := h, toks := tk } := by
  have nS : ∀ {b : Addr}, b < S → S ≠ b := fun q => Nat.ne_of_gt q
  intro k
  induction k with
  | zero =>
    intro i h tk c acc as hk hi hst hkeep hS hacc hal hG
    have hin : i = xs.size := by omega
    refine codeAny_builtin PySem.F.entry_extend_loop ?_
    rw [Around.under_plainId PySem.F.plain_extend_loop _]
    show wpAny _ A.in1 (pyNext (.ref z) >>= _) _ _ _
    refine wpAny_bind (done (s := { s with heap := h, toks := tk }) (A := A.in1) hh D hst (.inl (by rw [hin]; simp)) fun h' he => ?_)
    have hS' := he S _ (nS L.z) (nS L.to) (nS L.i1) (nS L.i2) hS
    refine wpAny_pure (hR h' tk acc c as (fun b o n0 n1 n2 n3 n4 e => he b o n1 n2 n3 n4 (hkeep b o n0 n1 n2 n3 n4 e)) hS' (by omega) ⟨hG.rise, hG.above, fun j a hj => ?_⟩ hacc)
    obtain ⟨x, y, e1, e2, e3⟩ := hG.pairs j a hj
    have ha := hG.above a (List.mem_of_getElem? hj)
    exact ⟨x, y, e1, e2, he a _ (Nat.ne_of_gt (Nat.lt_trans L.z ha)) (Nat.ne_of_gt (Nat.lt_trans L.to ha)) (Nat.ne_of_gt (Nat.lt_trans L.i1 ha)) (Nat.ne_of_gt (Nat.lt_trans L.i2 ha)) e3⟩
  | succ k ih =>
    intro i h tk c acc as hk hi hst hkeep hS hacc hal hG
    have hlt : i < xs.size := by omega
    have hlt2 : i < ys.size := by omega
    have hsz : acc.size = i := by rw [← Array.length_toList, hacc, List.length_map, hal]
    refine codeAny_builtin PySem.F.entry_extend_loop ?_
    rw [Around.under_plainId PySem.F.plain_extend_loop _]
    show wpAny _ A.in1 (pyNext (.ref z) >>= _) _ _ _
    refine wpAny_bind (item (s := { s with heap := h, toks := tk }) D hst (x := xs[i]) (y := ys[i]) (by simp [hlt]) (by simp [hlt2]) fun h' hst' ht hz' hkp => ?_)
    dsimp only at ht hz' hkp ⊢
    have hS' := hkp S _ (nS L.z) (nS L.to) (nS L.i1) (nS L.i2) hS
    have hSl : S < h.objs.size := Heap.lt_size hS
    have up : ∀ b o, b ≠ S → h'.get? b = some o → (h'.update S (Obj.mapSeq (·.push (Value.ref h.objs.size)))).get? b = some o := fun b o hb e => (Heap.get?_update_other _ _ (Ne.symm hb)).trans e
    have hSn := Heap.get?_update_self (Obj.mapSeq (·.push (Value.ref h.objs.size))) hS' rfl
    show wpAny _ A.in1 (updateSeq S (·.push (Value.ref h.objs.size)) >>= _) _ _ _
    refine wpAny_bind ?_
    refine wpAny_updateSeq hS' rfl (wpAny_pure ⟨plainId_quiet PySem.F.plain_extend_loop _, ih (i + 1) _ tk _ (acc.push (Value.ref h.objs.size)) (as ++ [h.objs.size]) (by omega) hlt (hst'.keep L up fun o _ => ⟨_, hSn⟩)
      (fun b o n0 n1 n2 n3 n4 e => up b o n0 (hkp b o n1 n2 n3 n4 (hkeep b o n0 n1 n2 n3 n4 e))) hSn (by rw [Array.toList_push, hacc, List.map_append]; rfl) (by rw [List.length_append, hal]; rfl) ⟨?_, ?_, ?_⟩⟩) (by rw [hsz]; omega) (by show (acc.push (Value.ref h.objs.size)).size ≤ sizeLine + 1; rw [Array.size_push, hsz]; omega)
    · refine List.pairwise_append.mpr ⟨hG.rise, List.pairwise_singleton _ _, fun a ha b hb => ?_⟩
      rw [List.mem_singleton.mp hb]
      obtain ⟨j, hj⟩ := List.mem_iff_getElem?.mp ha
      obtain ⟨_, _, _, _, e⟩ := hG.pairs j a hj
      exact Heap.lt_size e
    · intro a ha
      rcases List.mem_append.mp ha with ha | ha
      · exact hG.above a ha
      · rw [List.mem_singleton.mp ha]; exact hSl
    · intro j b hj
      rcases Nat.lt_trichotomy j as.length with q | q | q
      · rw [List.getElem?_append_left q] at hj
        obtain ⟨x, y, e1, e2, e3⟩ := hG.pairs j b hj
        have hb := hG.above b (List.mem_of_getElem? hj)
        exact ⟨x, y, e1, e2, up b _ (Nat.ne_of_gt hb) (hkp b _ (Nat.ne_of_gt (Nat.lt_trans L.z hb)) (Nat.ne_of_gt (Nat.lt_trans L.to hb)) (Nat.ne_of_gt (Nat.lt_trans L.i1 hb)) (Nat.ne_of_gt (Nat.lt_trans L.i2 hb)) e3)⟩
      · have hb : h.objs.size = b := by
          subst q
          simpa using hj
        rw [← hb]
        have hij : j = i := by omega
        refine ⟨xs[i], ys[i], by rw [hij]; simp [hlt], by rw [hij]; simp [hlt2], up _ _ (Nat.ne_of_gt hSl) ht⟩
      · have hnone : (as ++ [h.objs.size])[j]? = none := List.getElem?_eq_none (by rw [List.length_append, List.length_singleton]; omega)
        rw [hnone] at hj
        cases hj
theorem extend (hh : A.handled = none) (D : ZipApart z TI TO i1 i2 l1 l2) {S : Addr} (L : Low z TI TO i1 i2 l1 l2 S) (hn : xs.size = ys.size) (hz : xs.size ≤ sizeLine) (res : Value) (c0 : Nat) (hst : St z TI TO i1 i2 l1 l2 xs ys 0 s.heap) (hZ : IsZip s.heap z TI TO .none)
    (hS : s.heap.get? S = some { cls := .type "list", data := .seq #[] c0 })
    (hR : ∀ h' tk acc c as, (∀ b o, b ≠ S → b ≠ z → b ≠ TO → b ≠ i1 → b ≠ i2 → s.heap.get? b = some o → h'.get? b = some o) → h'.get? S = some { cls := .type "list", dict := none, data := .seq acc c, slots := #[] } → as.length = xs.size → Made xs ys S h' as →
      acc.toList = as.map Value.ref → R (.ok (.ret res)) { s with heap := h', toks := tk }) :
    wpAny (model prog w) A.in1 (Builtin.List.listExtendWith (.ref S) (.ref z) res)
      (fun fin s' => match fin with | .done f => R (.ok f) s' | .again c' => c'.quiet = true ∧ codeAny (model prog w) A c' R s') (fun e s' => R (.error e) s') s := by
  have hSz : S ≠ z := Nat.ne_of_gt L.z
  have key : ∀ (h : Heap) (c1 tk : Nat), (∀ b o, b ≠ S → s.heap.get? b = some o → h.get? b = some o) → h.get? S = some { cls := .type "list", data := .seq #[] c1 } → codeAny (model prog w) A (.builtin "list.extend.loop" ⟨[.ref S, .ref z, res], []⟩) R { s with heap := h, toks := tk } := by
    intro h c1 tk hk hS1
    refine loop (s := s) (h1 := s.heap) hh D L hn hz res hR xs.size 0 h tk c1 #[] [] (Nat.sub_zero _) (Nat.zero_le _) (hst.keep L hk fun o _ => ⟨_, hS1⟩) (fun b o n0 _ _ _ _ e => hk b o n0 e) hS1 rfl rfl ⟨List.Pairwise.nil, fun a ha => by simp at ha, fun j a hj => by simp at hj⟩
  have hT : s.TypeIs (.ref z) "zip" := ⟨_, hZ, rfl⟩
  unfold Builtin.List.listExtendWith
  refine wpAny_bind (wpAny_typeOf hT ?_)
  have e1 : Builtin.List.listSameRef (.ref S) (.ref z) = false := by simp [Builtin.List.listSameRef, hSz]
  have e2 : (Value.type "zip" == Value.type "list") = false := by decide
  have e3 : (Value.type "zip" == Value.type "tuple") = false := by decide
  simp only [e1, e2, e3, Bool.or_false, Bool.false_eq_true, if_false]
  refine wpAny_bind (wpAny_pyIter_zip hZ ?_)
  refine wpAny_bind (wpAny_holding ?_)
  unfold Builtin.List.listLengthHint
  refine wpAny_bind (wpAny_specialOf hT zip_no_len ?_)
  show wpAny _ A.in1 (specialOf (Value.ref z) (Str.ofString "__length_hint__") >>= _) _ _ _
  refine wpAny_bind (wpAny_specialOf hT zip_no_hint ?_)
  refine wpAny_pure ?_
  refine wpAny_ite_split (fun _ => ?_) (fun _ => wpAny_pure ⟨plainId_quiet PySem.F.plain_extend_loop _, key _ c0 _ (fun b o _ e => e) hS⟩)
  refine wpAny_bind (wpAny_rule ?_)
  refine wpAny_bind ?_
  show wpAny _ _ (updateSeq S (·.push .none) >>= fun _ => updateSeq S (·.pop)) _ _ _
  refine wpAny_bind (wpAny_updateSeq hS rfl ?_)
  have hS2 := Heap.get?_update_self (Obj.mapSeq (·.push Value.none)) hS rfl
  refine wpAny_updateSeq (hz := by seq_fits) hS2 rfl ?_
  have hS3 := Heap.get?_update_self (Obj.mapSeq (·.pop)) hS2 rfl
  refine wpAny_pure ⟨plainId_quiet PySem.F.plain_extend_loop _, key _ _ _ (fun b o hb e => ?_) hS3⟩
  exact (Heap.get?_update_other _ _ (Ne.symm hb)).trans ((Heap.get?_update_other _ _ (Ne.symm hb)).trans e)
end
section
variable {prog : Program} {w : World} {A : Around} {E : Value → Shared → Prop} {s : Shared} {z TI TO i1 i2 l1 l2 : Addr} {xs ys : Array Value}
theorem call_list_zip {Q : Value → Shared → Prop} (hh : A.handled = none) (D : ZipApart z TI TO i1 i2 l1 l2) (L : Low z TI TO i1 i2 l1 l2 s.heap.objs.size) (hn : xs.size = ys.size) (hz : xs.size ≤ sizeLine) (hst : St z TI TO i1 i2 l1 l2 xs ys 0 s.heap) (hZ : IsZip s.heap z TI TO .none)
    (hQ : ∀ h' tk acc c as, (∀ b o, b ≠ z → b ≠ TO → b ≠ i1 → b ≠ i2 → s.heap.get? b = some o → h'.get? b = some o) → h'.get? s.heap.objs.size = some { cls := .type "list", dict := none, data := .seq acc c, slots := #[] } → as.length = xs.size →
      Made xs ys s.heap.objs.size h' as → acc.toList = as.map Value.ref → Q (.ref s.heap.objs.size) { s with heap := h', toks := tk }) : wpAny (model prog w) A (call (.type "list") [.ref z]) Q E s := by
  refine callType_codes (Q₁ := fun obj s1 => obj = .ref s.heap.objs.size ∧ s1 = { s with heap := s.heap.push { cls := .type "list", data := .seq #[] } }) PySem.F.called_list (PySem.F.typeCall_list_1 _) PySem.F.entry_list_init
    (code_list_new _ ⟨rfl, rfl⟩) fun obj s1 h1 => ?_
  obtain ⟨rfl, rfl⟩ := h1
  have hS : (s.heap.push { cls := .type "list", data := .seq #[] }).get? s.heap.objs.size = some { cls := .type "list", data := .seq #[] } := Heap.get?_push_size _ rfl
  refine ⟨⟨_, hS, rfl⟩, PySem.F.args_list_init_2 _ _, ?_⟩
  show wpAny _ _ (do let old ← Builtin.List.listItems (.ref s.heap.objs.size); Builtin.List.listUpdate (.ref s.heap.objs.size) (fun _ => #[]); letGo old.toList.reverse; Builtin.List.listExtendWith (.ref s.heap.objs.size) (.ref z) .none) _ _ _
  refine wpAny_bind ?_
  unfold Builtin.List.listItems
  refine wpAny_bind (wpAny_seqItems hS rfl (wpAny_pure ?_))
  show wpAny _ _ (updateSeq s.heap.objs.size (fun _ => #[]) >>= fun _ => letGo (#[] : Array Value).toList.reverse >>= fun _ => Builtin.List.listExtendWith (.ref s.heap.objs.size) (.ref z) .none) _ _ _
  refine wpAny_bind (wpAny_updateSeq hS rfl ?_)
  have hS2 := Heap.get?_update_self (Obj.mapSeq (fun _ => (#[] : Array Value))) hS rfl
  have oth : ∀ b o, b ≠ s.heap.objs.size → s.heap.get? b = some o → ((s.heap.push { cls := .type "list", data := .seq #[] }).update s.heap.objs.size (Obj.mapSeq (fun _ => (#[] : Array Value)))).get? b = some o :=
    fun b o hb e => (Heap.get?_update_other _ _ (Ne.symm hb)).trans (Heap.get?_push_of_some _ e)
  refine wpAny_bind (wpAny_letGo ?_)
  refine extend (A := A.in1) (s := { s with heap := (s.heap.push { cls := .type "list", data := .seq #[] }).update s.heap.objs.size (Obj.mapSeq (fun _ => (#[] : Array Value))) }) (xs := xs) (ys := ys) hh D L hn hz .none _ (hst.keep L oth fun o e => ⟨_, hS2⟩) (oth _ _ (Nat.ne_of_lt L.z) hZ) hS2 fun h' tk acc c as hk hS' hl hG hacc => ?_
  exact ⟨rfl, hQ h' tk acc c as (fun b o n1 n2 n3 n4 e => hk b o (Nat.ne_of_lt (Heap.lt_size e)) n1 n2 n3 n4 (oth b o (Nat.ne_of_lt (Heap.lt_size e)) e)) hS' hl hG hacc⟩
end
end Lz
open PySem PySem.Spec PyProof.Rows L2
/-- list(zip(a, b)) of two lists of one length -/
def rLz (K : PySem.W.Frag) : List V → Hp → VK → Prop := fun vs H Q => ∃ (a b : Addr) (xs ys : List V), vs = [.ref a, .ref b] ∧ SqL K H a xs ∧ SqL K H b ys ∧ xs.length = ys.length ∧
  ∀ (H' : Hp) (p : Addr) (ts : List Addr), Same H H' → H p = none → H' p = some (.lst (vr ts)) → ts.length = xs.length → (∀ (j : Nat) (t : Addr), ts[j]? = some t → ∃ x y, xs[j]? = some x ∧ ys[j]? = some y ∧ H' t = some (.tup [x, y])) → Q (.ref p) H'
/-- what is newly known: the list, its tuples -/
def newT (ts : List Addr) (ps : List (V × V)) (H : Hp) : Hp := match ts, ps with
  | t :: ts, q :: ps => fun b => if b = t then some (.tup [q.1, q.2]) else newT ts ps H b
  | _, _ => H
theorem newT_out : ∀ {ts : List Addr} {ps : List (V × V)} {H : Hp} {b : Addr}, b ∉ ts → newT ts ps H b = H b
  | [], _, _, _, _ => by simp [newT]
  | _ :: _, [], _, _, _ => by simp [newT]
  | t :: ts, q :: ps, H, b, h => by
    simp only [List.mem_cons, not_or] at h
    simp only [newT]
    rw [if_neg h.1]
    exact newT_out h.2
theorem newT_in : ∀ {ts : List Addr} {ps : List (V × V)} {H : Hp} {j : Nat} {t : Addr} {q : V × V}, ts.Pairwise (· < ·) → ts[j]? = some t → ps[j]? = some q → newT ts ps H t = some (.tup [q.1, q.2])
  | [], _, _, _, _, _, _, h, _ => by simp at h
  | _ :: _, [], _, _, _, _, _, _, h => by simp at h
  | t :: ts, q :: ps, H, 0, t', q', hp, h1, h2 => by
    simp at h1 h2
    subst h1 h2
    simp [newT]
  | t :: ts, q :: ps, H, j + 1, t', q', hp, h1, h2 => by
    obtain ⟨a, b⟩ := List.pairwise_cons.mp hp
    have hm : t' ∈ ts := List.mem_of_getElem? (by simpa using h1)
    simp only [newT]
    rw [if_neg (Nat.ne_of_gt (a t' hm))]
    exact newT_in b (by simpa using h1) (by simpa using h2)
theorem newT_some : ∀ {ts : List Addr} {ps : List (V × V)} {H : Hp} {b : Addr} {o : HO}, newT ts ps H b = some o → H b = some o ∨ ∃ (j : Nat) (q : V × V), ts[j]? = some b ∧ ps[j]? = some q ∧ o = .tup [q.1, q.2]
  | [], _, _, _, _, h => .inl (by simpa [newT] using h)
  | t :: ts, [], _, b, _, h => .inl (by simpa [newT] using h)
  | t :: ts, q :: ps, H, b, o, h => by
    simp only [newT] at h
    by_cases e : b = t
    · rw [if_pos e] at h
      exact .inr ⟨0, q, by simp [e], by simp, (Option.some.inj h).symm⟩
    · rw [if_neg e] at h
      rcases newT_some h with a | ⟨j, q', a, c, d⟩
      · exact .inl a
      · exact .inr ⟨j + 1, q', by simpa using a, by simpa using c, d⟩
section
variable {X : Cx}
theorem pe_listzip (K : PySem.W.Frag) {e e2 : Expr} {ta : TA} {p p2 pos pos2 : Pos} (hg : Gl X "list") (hgz : Gl X "zip") (hm : X.mg "list" = none) (hmz : X.mg "zip" = none) (ha : PA X [e, e2] ta)
    (he : starEach [.Call (.Name "zip" p2) [e, e2] [] pos2] X.env = [(false, eval (.Call (.Name "zip" p2) [e, e2] [] pos2) X.env)] := by rfl)
    (hs : starEach [e, e2] X.env = (false, eval e X.env) :: starEach [e2] X.env := by rfl) (hpl : (backTo pos2 (starEach [e2] X.env)).any (·.1) = false := by rfl) (hK : X.K = K := by rfl) (hc : X.calm = true := by rfl) :
    PE X (.Call (.Name "list" p) [.Call (.Name "zip" p2) [e, e2] [] pos2] [] pos) (tCB (rLz K) ta) := by
  subst hK
  refine ⟨fun pins s σ H Q I h => ?_⟩
  refine wpAny_Call_Name_kw (ld_blt I hg hm (u := .type "list") (by decide +kernel) ?_)
  refine PyProof.Rows.callWith_type1 ?_ he rfl
  rw [he]
  refine Calls.spliced_cons ?_
  refine wpAny_Call_Name_kw (ld_blt I hgz hmz PyProof.Rows.boot_zip ?_)
  refine PyProof.Rows.callWith_type1 (thn (ha.run pos2 pins s σ H _ I h) fun us s1 ⟨vs, H1, I1, r1, q1⟩ => ?_) hs hpl
  obtain ⟨a, b, xs, ys, ev, hx, hy, hl, q⟩ := q1
  subst ev
  cases r1 with
  | cons ra rr =>
    cases rr with
    | cons rb rr =>
      cases rr
      cases ra
      cases rb
      obtain ⟨its, rv, pl1, z1⟩ := I1.list hx
      obtain ⟨its2, rv2, pl2, _⟩ := I1.list hy
      refine call_zip_2 pl1.isList pl2.isList fun h' hz hTI hTO h1 h2 hsz hk => ?_
      refine Calls.spliced_nil ?_
      have lt1 := pl1.lt
      have lt2 := pl2.lt
      have hlen : its.toArray.size = its2.toArray.size := by
        rw [List.size_toArray, List.size_toArray, ← rv.length, ← rv2.length, hl]
      have hsize : its.toArray.size ≤ sizeLine := by rw [List.size_toArray, ← rv.length]; exact z1
      have hAh : X.A.handled = none := I1.ok.hd hc
      refine Lz.call_list_zip (s := { s1 with heap := h' }) (xs := its.toArray) (ys := its2.toArray) hAh (PySem.W.ktu_apart s1.heap.objs.size a b lt1 lt2) ?_ hlen hsize ?_ hz fun h'' tk acc c as k2 hS hal hM hacc => ?_
      · show Lz.Low _ _ _ _ _ _ _ h'.objs.size
        rw [hsz]
        have lt1' : (a : Nat) < s1.heap.objs.size := lt1
        have lt2' : (b : Nat) < s1.heap.objs.size := lt2
        constructor
        · exact Nat.lt_succ_self _
        · exact Nat.add_lt_add_left (by decide) _
        · exact Nat.add_lt_add_left (by decide) _
        · exact Nat.lt_add_of_pos_right (by decide)
        · exact Nat.add_lt_add_left (by decide) _
        · exact Nat.lt_of_lt_of_le lt1' (Nat.le_add_right _ _)
        · exact Nat.lt_of_lt_of_le lt2' (Nat.le_add_right _ _)
      · exact ⟨.inl ⟨hz, _, _, hTO⟩, hTI, h1, h2, pl1.isList.at fun o e => hk _ _ e, pl2.isList.at fun o e => hk _ _ e⟩
      · dsimp only at k2 hS hM
        have old : ∀ b o, s1.heap.get? b = some o → h''.get? b = some o := fun b o e => by
          have lb := Heap.lt_size e
          exact k2 b o (Nat.ne_of_lt (Nat.lt_of_lt_of_le lb (Nat.le_add_right _ _))) (Nat.ne_of_lt (Nat.lt_of_lt_of_le lb (Nat.le_add_right _ _))) (Nat.ne_of_lt lb) (Nat.ne_of_lt (Nat.lt_of_lt_of_le lb (Nat.le_add_right _ _))) (hk b o e)
        have pge : s1.heap.objs.size ≤ h'.objs.size := by rw [hsz]; exact Nat.le_add_right _ _
        have age : ∀ t ∈ as, h'.objs.size < t := hM.above
        have pne : h'.objs.size ∉ as := fun z => Nat.lt_irrefl _ (age _ z)
        have hnp : H1 h'.objs.size = none := I1.hok.fresh pge
        have hna : ∀ t ∈ as, H1 t = none := fun t ht => I1.hok.fresh (Nat.le_of_lt (Nat.lt_of_le_of_lt pge (age t ht)))
        let H2 : Hp := newT as (xs.zip ys) (upd H1 h'.objs.size (.lst (vr as)))
        have hp2 : H2 h'.objs.size = some (.lst (vr as)) := (newT_out pne).trans upd_same
        have hsm : Same H1 H2 := fun b o e => by
          have n1 : b ∉ as := fun z => by rw [hna b z] at e; cases e
          have n2 : b ≠ h'.objs.size := fun z => by rw [z, hnp] at e; cases e
          exact (newT_out n1).trans ((upd_ne n2).trans e)
        have hback : ∀ b o, s1.heap.get? b = some o → H1 b = none → H2 b = none := fun b o e n => by
          have lb := Heap.lt_size e
          have n2 : b ≠ h'.objs.size := Nat.ne_of_lt (Nat.lt_of_lt_of_le lb pge)
          have n1 : b ∉ as := fun z => absurd (Nat.lt_of_lt_of_le lb (Nat.le_trans pge (Nat.le_of_lt (age b z)))) (Nat.lt_irrefl _)
          exact (newT_out n1).trans ((upd_ne n2).trans n)
        have Un1 : Un X.fs [] H1 H2 s1.heap h'' := {
          keep := fun b o e n _ _ => old b o e
          slot := fun b o e n _ _ => ⟨o.slots, old b o e⟩
          free := fun b o e n _ => hback b o e n
          there := fun b o e _ => ⟨o, old b o e⟩
          tups := fun b xs e => hsm b _ e
          frzs := fun b o u e => hsm b _ e
          tbls := fun b ps e => ⟨#[], by rw [hsm b _ e]; simp⟩ }
        have hok : HOk X.prog X.w H2 h'' := fun b o e => by
          have base : ∀ o, H1 b = some o → ObjOk X.prog X.w H2 h'' b o := fun o e => (I1.hok b o e).stay (fun c v _ q => old c v q) (fun c q => hsm c _ q) fun c xs q => hsm c _ q
          rcases newT_some e with e1 | ⟨j, q, e1, e2, e3⟩
          · by_cases n2 : b = h'.objs.size
            · subst n2
              rw [upd_same] at e1
              cases e1
              refine ⟨?_, as.map Value.ref, c, ?_, ?_⟩
              · rw [vr_len, hal]; exact hsize
              · show Paired RelV (vr as) (as.map Value.ref)
                clear hal hM hacc age pne hna H2 hp2 hsm hback Un1 e base hS k2 q
                induction as with
                | nil => exact .nil
                | cons t as ih => exact .cons rfl ih
              · rw [hS, ← hacc]
            · rw [upd_ne n2] at e1
              exact base o e1
          · subst e3
            obtain ⟨x, y, hxj, hyj, ht⟩ := hM.pairs j b e1
            obtain ⟨ex, ey⟩ : xs[j]? = some q.1 ∧ ys[j]? = some q.2 := by
              rw [List.getElem?_zip_eq_some] at e2
              exact e2
            obtain ⟨u, hu, ru⟩ := rv.get ex
            obtain ⟨u2, hu2, ru2⟩ := rv2.get ey
            rw [List.getElem?_toArray, hu] at hxj
            rw [List.getElem?_toArray, hu2] at hyj
            cases hxj
            cases hyj
            exact ⟨by show 2 ≤ sizeLine; decide, [x, y], .cons ru (.cons ru2 .nil), ⟨_, ht, rfl, _, rfl⟩⟩
        have J : Inv X pins σ H2 { s1 with heap := h'', toks := tk } := I1.un (t' := tk) Un1 hok
        refine ⟨.ref h'.objs.size, H2, J, rfl, q H2 h'.objs.size as hsm hnp hp2 ?_ fun j t ht => ?_⟩
        · rw [hal, List.size_toArray, rv.length]
        · have hj : j < xs.length := by
            have := (List.getElem?_eq_some_iff.mp ht).1
            rw [hal, List.size_toArray, ← rv.length] at this
            exact this
          have hj2 : j < ys.length := by omega
          refine ⟨xs[j], ys[j], List.getElem?_eq_getElem hj, List.getElem?_eq_getElem hj2, ?_⟩
          exact newT_in (q := (xs[j], ys[j])) hM.rise ht (by rw [List.getElem?_zip_eq_some]; exact ⟨List.getElem?_eq_getElem hj, List.getElem?_eq_getElem hj2⟩)
end
end SPW
end
section
set_option Elab.async false
set_option linter.all false
set_option maxRecDepth 100000
set_option maxHeartbeats 4000000
namespace SPW
open PySem PySem.Spec PyProof.Rows L2
section
variable {X : Cx} (K : PySem.W.Frag)
/-- x in t, t a tuple of data of any depth -/
def rInTD (K : PySem.W.Frag) : R2 := fun x y H Q => ∃ d ds, Dp K H x d ∧ Dp K H y (.tuple ds) ∧ SeqAt.shaped d = true ∧ SeqAt.shaped (.tuple ds) = true ∧ Q (.bl (ds.any fun z => PyData.eqv z d)) H
theorem op_inTDK (hu : X.A.units + 65 < cLine) (hK : X.K = K := by rfl) : OpR X (compareOp .In) (rInTD K) := by
  subst hK
  intro pins s σ H x y v u Q I rx ry h
  obtain ⟨d, ds, hd, he, sd, se, q⟩ := h
  obtain ⟨as, r1⟩ := Dp.reads I d x v hd rx
  obtain ⟨bs, r2⟩ := Dp.reads I (.tuple ds) y u he ry
  exact SeqAt.in_tuple_reads r2 r1 (SeqAt.canLay_of_shaped se) (SeqAt.canLay_of_shaped sd) (room_in_shaped sd hu) ⟨.bl _, H, I, rfl, q⟩
/-- xs.count(y): how many items equal y -/
def rCountD (K : PySem.W.Frag) : V → List V → Hp → VK → Prop := fun x xs H Q => ∃ (a : Addr) (y : V) (d : PyData) (ds : List PyData), x = V.ref a ∧ xs = [y] ∧ Dp K H (V.ref a) (.list ds) ∧ Dp K H y d ∧
  SeqAt.shaped (.list ds) = true ∧ SeqAt.shaped d = true ∧ Q (.int ((ds.countP fun z => PyData.eqv z d : Nat) : Int)) H
theorem mt_countDK (hu : X.A.units + 65 < cLine) (hK : X.K = K := by rfl) : MtR X "list.count" (rCountD K) := by
  subst hK
  intro pins s σ H x xs v us Q I rx rxs h
  obtain ⟨a, y, d, ds, rfl, rfl, hl, hy, sl, sd, q⟩ := h
  cases rx
  cases rxs with
  | cons ry rt =>
    rename_i uy ut
    cases rt
    obtain ⟨bs, r1⟩ := Dp.reads I d y uy hy ry
    have hxs : PyData.canLayAll0 ds = true := SeqAt.canLay_of_shaped sl
    have hroom : X.A.units + 1 + min (PyData.depthAll ds) d.depth < cLine := room_in_shaped sd hu
    cases hl with
    | lst hs ha =>
      obtain ⟨its, rv, ⟨⟨cls, dd, data, sls⟩, n, ho, hc, hdn, hdt⟩, hlen⟩ := I.list hs
      simp only at hc hdt
      subst hc hdt
      obtain ⟨as, h4⟩ := Dp.readsAll I ds _ its ha rv
      have hmap : its.map (SeqAt.readOf s.heap) = ds := SeqAt.readsAll_map ds its as hxs h4
      refine call_meets PySem.F.slot_list_count ⟨_, ho, rfl⟩ PySem.F.entry_list_count (PySem.F.args_list_count_2 _ _)
        (SeqAt.list_countAt a its.toArray n dd sls uy (fun u => PyData.eqv (SeqAt.readOf s.heap u) d)) ⟨ho, SeqAt.items_eqAt (vs := its.toArray) (show ReadsAll s.heap its.toArray.toList ds as from h4) r1 hxs (SeqAt.canLay_of_shaped sd) hroom, ?_⟩
      have ec : its.toArray.toList.countP (fun u => PyData.eqv (SeqAt.readOf s.heap u) d) = ds.countP fun z => PyData.eqv z d := by
        rw [← hmap, List.countP_map]
        rfl
      refine ⟨.int ((ds.countP fun z => PyData.eqv z d : Nat) : Int), H, I.tok _, ⟨s.toks, ?_⟩, q⟩
      show Value.int ((its.toArray.toList.countP (fun u => PyData.eqv (SeqAt.readOf s.heap u) d) : Nat) : Int) s.toks = _
      rw [ec]
end
end SPW
end
section
set_option Elab.async false
set_option linter.all false
set_option maxRecDepth 100000
set_option maxHeartbeats 4000000
namespace SPW
section
open PySem PySem.AutoSeq1
theorem list_extend_tupO (l : Addr) (items : Array Value) (n : Nat) (b : Addr) (items2 : Array Value) (n2 : Nat) (dc : Option Addr) (sl : Array (Option Value)) (hs0 : ¬(!items.isEmpty && Builtin.List.listTooLong (items.size + items2.size)) = true) (hs1 : items.size ≤ sizeLine) (hs2 : items.size + items2.size ≤ sizeLine + 1) :
    Meets (Builtin.«list.extend» ⟨[.ref l, .ref b], []⟩) (fun _ R s => s.heap.get? l = some { cls := .type "list", dict := none, data := .seq items n, slots := #[] } ∧ s.heap.get? b = some { cls := .type "tuple", dict := dc, data := .seq items2 n2, slots := sl } ∧ R (.ok (.ret Value.none)) { s with heap := s.heap.update l (Obj.mapSeq fun x => x ++ items2), toks := s.toks }) :=
  .of_wp fun prog w A R s h => by
    obtain ⟨hp, g, d, tk, os⟩ := s; obtain ⟨hl, hb, h⟩ := h; have f1 := idx_int; have f2 := sub_tuple_tuple; have f3 := sub_list_list; have f4 := sub_tuple_list; have f5 := sub_list_tuple;
    have hz' : (items ++ items2).size ≤ sizeLine + 1 := by rw [Array.size_append]; exact hs2
    wp_walk using (wpAny_updateSeq hl rfl (hz := hs1) (_hz' := hz')), wpAny_loadPart' hl, wpAny_loadPart' hb; exact ⟨_, rfl, h⟩
end
open PySem PySem.Spec PyProof.Rows L2
def rExtT (K : PySem.W.Frag) : V → List V → Hp → VK → Prop := fun x vs H Q => ∃ l b xs zs, x = .ref l ∧ vs = [.ref b] ∧ H l = some (.lst xs) ∧ SqT K H b zs ∧ xs.length + zs.length ≤ sizeLine ∧ Q .non (upd H l (.lst (xs ++ zs)))
theorem mt_extTK {X : Cx} (K : PySem.W.Frag) (hK : X.K = K := by rfl) : MtR X "list.extend" (rExtT K) := by
  subst hK
  intro pins s σ H x vs v us Q I rx rv h
  obtain ⟨l, b, xs, zs, rfl, rfl, hH, hB, hz, q⟩ := h
  cases rx
  obtain ⟨u, rfl, ru⟩ := rv.one
  cases ru
  obtain ⟨z, its, n, r, hl, e⟩ := I.lstM hH
  obtain ⟨its2, r2, ⟨⟨oc, od, oda, os⟩, e2, hc, n2, hd⟩, hl2⟩ := I.tuple hB
  simp only at hc hd
  subst hc hd
  have r2l := r2.length
  have hsz : its.toArray.size + its2.toArray.size ≤ sizeLine := by rw [List.size_toArray, List.size_toArray]; omega
  have hlong : ¬ (!its.toArray.isEmpty && Builtin.List.listTooLong (its.toArray.size + its2.toArray.size)) = true := by
    rw [notLongL hsz, Bool.and_false]
    exact Bool.false_ne_true
  refine call_meets F.slot_list_extend ⟨_, e, rfl⟩ F.entry_list_extend (F.args_list_extend_2 _ _)
    (list_extend_tupO l its.toArray n b its2.toArray n2 _ _ hlong (by rw [List.size_toArray]; omega) (by omega)) ⟨e, e2, ?_⟩
  refine ⟨.non, _, I.lset (its' := its ++ its2) hH e (by simp) (r.append r2) ?_, rfl, q⟩
  rw [List.length_append]
  omega
end SPW
end
section
set_option autoImplicit false
set_option linter.all false
namespace SP
open Vapcma (Form size vars rename normal replace code top)

/-! ### whether an unknown stands in what's put -/
inductive Dfs (m : Nat) (R : Bd) (u : Nat) : List Nat → List Nat → Nat → Bool → Prop where
  | none {s : List Nat} : Dfs m R u s [] 0 false
  | hit {s w : List Nat} : (w ++ [u]).length ≤ m * (1 + R.length) → Dfs m R u s (w ++ [u]) 0 true
  | new {s w : List Nat} {x n : Nat} {g : Form} {b : Bool} : (w ++ [x]).length ≤ m * (1 + R.length) → s.length < R.length → x ≠ u → look R x = some g → x ∉ s → (w ++ vars g).length ≤ m * (1 + R.length) → Dfs m R u (s ++ [x]) (w ++ vars g) n b → Dfs m R u s (w ++ [x]) (n + 1) b
  | old {s w : List Nat} {x n : Nat} {b : Bool} : (w ++ [x]).length ≤ m * (1 + R.length) → x ≠ u → (look R x = none ∨ x ∈ s) → Dfs m R u s w n b → Dfs m R u s (w ++ [x]) (n + 1) b
theorem vars_app_var {R : Bd} {g : Form} {y z : Nat} (hy : y ∈ vars g) (hz : z ∈ vars (app R (.var y))) : z ∈ vars (app R g) := by
  rw [app_sub R g, vars_sub, List.mem_flatMap]
  exact ⟨y, hy, hz⟩
theorem closed_app : ∀ {R : Bd}, Valid R → ∀ {Pp : List Nat}, (∀ x ∈ Pp, ∀ g, look R x = some g → ∀ y ∈ vars g, y ∈ Pp) → ∀ {F : Form}, (∀ y ∈ vars F, y ∈ Pp) → ∀ y ∈ vars (app R F), y ∈ Pp
  | [], _, Pp, _, F, hF, y, hy => hF y hy
  | (v, g) :: R, hV, Pp, hc, F, hF, y, hy => by
    have hc' : ∀ x ∈ Pp, ∀ g, look R x = some g → ∀ y ∈ vars g, y ∈ Pp := fun x hx k hk => by
      have : x ≠ v := fun e => hV.2.1 (e ▸ look_dom hk)
      exact hc x hx k (by rw [look_cons_ne this]; exact hk)
    simp only [app] at hy
    by_cases hv : v ∈ vars (app R F)
    · have hvP := closed_app hV.1 hc' hF v hv
      have hg := hc v hvP g look_cons_self
      rcases vars_replace hy with ⟨h, _⟩ | h
      · exact closed_app hV.1 hc' hF y h
      · exact closed_app hV.1 hc' hg y h
    · rw [replace_not hv] at hy
      exact closed_app hV.1 hc' hF y hy
structure DI (m : Nat) (R : Bd) (u : Nat) (F : Form) (s w : List Nat) : Prop where
  nd : s.Nodup
  sd : ∀ x ∈ s, x ∈ dom R
  cl : ∃ Pp : List Nat, u ∉ Pp ∧ (∀ x ∈ s, x ∈ Pp) ∧ (∀ x ∈ Pp, ∀ g, look R x = some g → x ∈ s ∧ ∀ y ∈ vars g, y ∈ Pp ∨ y ∈ w) ∧ ∀ y ∈ vars F, y ∈ Pp ∨ y ∈ w
  rc : ∀ x ∈ w, ∀ y ∈ vars (app R (.var x)), y ∈ vars (app R F)
  ln : w.length ≤ m * (1 + s.length)
theorem dfs_run {m : Nat} {R : Bd} (hV : Valid R) (hs : ∀ p ∈ R, size p.2 ≤ m) {u : Nat} (hu : u ∉ dom R) {F : Form} : ∀ (j k : Nat) (s w : List Nat), R.length - s.length = j → w.length = k → DI m R u F s w →
    ∃ n, Dfs m R u s w n (decide (u ∈ vars (app R F))) := by
  intro j
  induction j using Nat.strongRecOn with
  | ind j ihj =>
    intro k
    induction k using Nat.strongRecOn with
    | ind k ihk =>
      intro s w hj hk h
      have hsl : s.length ≤ R.length := by
        have := nodup_sub_len h.nd h.sd
        simpa [dom] using this
      have hwl : w.length ≤ m * (1 + R.length) := Nat.le_trans h.ln (Nat.mul_le_mul_left _ (by omega))
      rcases List.eq_nil_or_concat w with rfl | ⟨w', x, rfl⟩
      · obtain ⟨Pp, c1, c2, c3, c4⟩ := h.cl
        have : u ∉ vars (app R F) := fun hx => c1 (closed_app hV (fun x hx g hg y hy => by
          rcases (c3 x hx g hg).2 y hy with z | z
          · exact z
          · simp at z) (fun y hy => by
          rcases c4 y hy with z | z
          · exact z
          · simp at z) u hx)
        rw [decide_eq_false this]
        exact ⟨0, .none⟩
      · rw [List.concat_eq_append] at *
        by_cases e : x = u
        · subst e
          have : x ∈ vars (app R F) := h.rc x (by simp) x (by rw [app_var hu]; simp [vars])
          rw [decide_eq_true this]
          exact ⟨0, .hit hwl⟩
        · obtain ⟨Pp, c1, c2, c3, c4⟩ := h.cl
          have old : (look R x = none ∨ x ∈ s) → ∃ n, Dfs m R u s (w' ++ [x]) n (decide (u ∈ vars (app R F))) := by
            intro ho
            have hd : DI m R u F s w' := by
              refine ⟨h.nd, h.sd, ⟨x :: Pp, ?_, fun y hy => List.mem_cons_of_mem _ (c2 y hy), ?_, ?_⟩, fun y hy => h.rc y (by simp [hy]), ?_⟩
              · simp only [List.mem_cons, not_or]
                exact ⟨fun z => e z.symm, c1⟩
              · intro y hy g hg
                rcases List.mem_cons.mp hy with rfl | hy
                · rcases ho with ho | ho
                  · rw [ho] at hg; cases hg
                  · refine ⟨ho, fun z hz => ?_⟩
                    rcases (c3 y (c2 y ho) g hg).2 z hz with q | q
                    · exact .inl (List.mem_cons_of_mem _ q)
                    · rcases List.mem_append.mp q with q | q
                      · exact .inr q
                      · exact .inl (by simp at q; simp [q])
                · refine ⟨(c3 y hy g hg).1, fun z hz => ?_⟩
                  rcases (c3 y hy g hg).2 z hz with q | q
                  · exact .inl (List.mem_cons_of_mem _ q)
                  · rcases List.mem_append.mp q with q | q
                    · exact .inr q
                    · exact .inl (by simp at q; simp [q])
              · intro y hy
                rcases c4 y hy with q | q
                · exact .inl (List.mem_cons_of_mem _ q)
                · rcases List.mem_append.mp q with q | q
                  · exact .inr q
                  · exact .inl (by simp at q; simp [q])
              · have := h.ln
                simp at this
                omega
            obtain ⟨n, hn⟩ := ihk w'.length (by simp at hk; omega) s w' hj rfl hd
            exact ⟨n + 1, .old hwl e ho hn⟩
          cases hl : look R x with
          | none => exact old (.inl hl)
          | some g =>
            by_cases hxs : x ∈ s
            · exact old (.inr hxs)
            · have hxd := look_dom hl
              have hnd : (s ++ [x]).Nodup := by
                rw [List.nodup_append]
                refine ⟨h.nd, by simp, fun a ha b hb => ?_⟩
                have : b = x := by simpa using hb
                subst this
                exact fun z => hxs (z ▸ ha)
              have hsd : ∀ y ∈ s ++ [x], y ∈ dom R := fun y hy => by
                rcases List.mem_append.mp hy with q | q
                · exact h.sd y q
                · have : y = x := by simpa using q
                  exact this ▸ hxd
              have hsl2 : (s ++ [x]).length ≤ R.length := by
                have := nodup_sub_len hnd hsd
                simpa [dom] using this
              have hln : (w' ++ vars g).length ≤ m * (1 + (s ++ [x]).length) := by
                have h1 := h.ln
                have h2 := vars_le g
                have h3 : size g ≤ m := hs _ (look_mem hl)
                simp only [List.length_append, List.length_cons, List.length_nil] at h1 ⊢
                rw [Nat.mul_add] at h1
                rw [Nat.mul_add, Nat.mul_add]
                omega
              have hd : DI m R u F (s ++ [x]) (w' ++ vars g) := by
                refine ⟨hnd, hsd, ⟨x :: Pp, ?_, ?_, ?_, ?_⟩, ?_, hln⟩
                · simp only [List.mem_cons, not_or]
                  exact ⟨fun z => e z.symm, c1⟩
                · intro y hy
                  rcases List.mem_append.mp hy with q | q
                  · exact List.mem_cons_of_mem _ (c2 y q)
                  · have : y = x := by simpa using q
                    simp [this]
                · intro y hy g2 hg2
                  rcases List.mem_cons.mp hy with rfl | hy
                  · rw [hl] at hg2
                    cases hg2
                    exact ⟨by simp, fun z hz => .inr (by simp [hz])⟩
                  · refine ⟨by simp [(c3 y hy g2 hg2).1], fun z hz => ?_⟩
                    rcases (c3 y hy g2 hg2).2 z hz with q | q
                    · exact .inl (List.mem_cons_of_mem _ q)
                    · rcases List.mem_append.mp q with q | q
                      · exact .inr (by simp [q])
                      · exact .inl (by simp at q; simp [q])
                · intro y hy
                  rcases c4 y hy with q | q
                  · exact .inl (List.mem_cons_of_mem _ q)
                  · rcases List.mem_append.mp q with q | q
                    · exact .inr (by simp [q])
                    · exact .inl (by simp at q; simp [q])
                · intro y hy z hz
                  rcases List.mem_append.mp hy with q | q
                  · exact h.rc y (by simp [q]) z hz
                  · refine h.rc x (by simp) z ?_
                    rw [app_look hV hl]
                    exact vars_app_var q hz
              obtain ⟨n, hn⟩ := ihj _ (by simp at hsl2 ⊢; omega) _ (s ++ [x]) (w' ++ vars g) rfl rfl hd
              refine ⟨n + 1, .new hwl (by simp at hsl2; omega) e hl hxs (Nat.le_trans hln (Nat.mul_le_mul_left _ (by omega))) hn⟩
theorem dfs_all {m : Nat} {R : Bd} (hV : Valid R) (hs : ∀ p ∈ R, size p.2 ≤ m) {u : Nat} (hu : u ∉ dom R) {F : Form} (hF : size F ≤ m) : ∃ n, Dfs m R u [] (vars F) n (decide (u ∈ vars (app R F))) := by
  refine dfs_run hV hs hu _ _ [] (vars F) rfl rfl ⟨by simp, fun x hx => by simp at hx, ⟨[], by simp, fun x hx => by simp at hx, fun x hx => by simp at hx, fun y hy => .inr hy⟩, fun x hx y hy => vars_app_var hx hy, ?_⟩
  have := vars_le F
  simp
  omega
/-! ### gone through, all put in -/
theorem size_walk {R : Bd} {F : Form} (hf : free R F) : size (app R F) = 1 + ((subs F).map fun s => size (app R s)).sum := by
  cases F with
  | var v => rw [app_var (hf v rfl)]; simp [subs, size]
  | imp a b => rw [app_imp]; simp [subs, size]; omega
  | neg a => rw [app_neg]; simp [subs, size]; omega
def tok (F : Form) : List Int := match F with
  | .var v => [0, (v : Int)]
  | .imp _ _ => [1]
  | .neg _ => [2]
theorem ci_walk {R : Bd} {F : Form} (hf : free R F) : ci (app R F) = tok F ++ (subs F).flatMap fun s => ci (app R s) := by
  cases F with
  | var v => rw [app_var (hf v rfl)]; simp [subs, tok, ci_var]
  | imp a b => rw [app_imp, ci_imp]; simp [subs, tok]
  | neg a => rw [app_neg, ci_neg]; simp [subs, tok]
end SP
end
section
set_option Elab.async false
set_option linter.all false
set_option maxRecDepth 100000
set_option maxHeartbeats 4000000
namespace SPW
open PySem PySem.Spec PyProof.Rows L2
open SP (ci co cis subs Bd look dom app wk wn Valid)
open Vapcma (Form)
/-! ### all but some addresses is kept -/
def But (L : List Addr) (H H' : Hp) : Prop := ∀ a u, a ∉ L → H a = some u → H' a = some u
theorem But.refl {L : List Addr} (H : Hp) : But L H H := fun _ _ _ h => h
theorem But.trans {L : List Addr} {H H' H'' : Hp} (h : But L H H') (k : But L H' H'') : But L H H'' := fun a u n e => k a u n (h a u n e)
theorem But.of {L : List Addr} {H H' : Hp} (h : Same H H') : But L H H' := fun a u _ e => h a u e
theorem But.more {L M : List Addr} {H H' : Hp} (h : But L H H') (s : ∀ a ∈ L, a ∈ M) : But M H H' := fun a u n e => h a u (fun m => n (s a m)) e
theorem But.same {H H' : Hp} (h : But [] H H') : Same H H' := fun a u e => h a u (by simp) e
theorem But.upd {L : List Addr} {H H' : Hp} {p : Addr} {o : HO} (h : But L H H') (hp : p ∈ L) : But L H (upd H' p o) := fun a u n e => by
  have hne : a ≠ p := fun z => n (z ▸ hp)
  rw [upd_ne hne]
  exact h a u n e
/-- of what's newly known too -/
theorem But.new {L : List Addr} {H H' : Hp} {p : Addr} {o : HO} (h : But L H H') (hp : H p = none) : But L H (L2.upd H' p o) := fun a u n e => by
  rw [upd_ne (ne_of_none e hp)]
  exact h a u n e
/-- what was not known may be forgotten about -/
theorem But.cut {L : List Addr} {H H' : Hp} {p : Addr} (h : But (p :: L) H H') (hp : H p = none) : But L H H' := fun a u n e => h a u (by
  simp only [List.mem_cons, not_or]
  exact ⟨fun z => absurd (show (none : Option HO) = some u by rw [← hp, ← z]; exact e) (fun q => nomatch q), n⟩) e
theorem But.cutS {L : List Addr} {H H1 H' : Hp} {p : Addr} (h : But (p :: L) H1 H') (s : Same H H1) (hp : H p = none) : But L H H' := ((But.of s).trans h).cut hp
/-- changeable things stand at these -/
def Mut (H : Hp) (L : List Addr) : Prop := ∀ a ∈ L, (∃ l, H a = some (.lst l)) ∨ ∃ k, H a = some (.dK k)
theorem Mut.notT {K : PySem.W.Frag} {H : Hp} {L : List Addr} (m : Mut H L) {a : Addr} {u : HO} (h : H a = some u) (hu : (∃ xs, u = .tup xs) ∨ ∃ o xs, u = .frz o (.tup xs)) : a ∉ L := fun hm => by
  have hm2 := m a hm
  rw [h] at hm2
  rcases hm2 with ⟨l, e⟩ | ⟨k, e⟩
  · have e2 := Option.some.inj e
    subst e2
    rcases hu with ⟨xs, z⟩ | ⟨o, xs, z⟩ <;> cases z
  · have e2 := Option.some.inj e
    subst e2
    rcases hu with ⟨xs, z⟩ | ⟨o, xs, z⟩ <;> cases z
theorem But.tup {K : PySem.W.Frag} {L : List Addr} {H H' : Hp} {a : Addr} {xs : List V} (h : But L H H') (m : Mut H L) (t : SqT K H a xs) : SqT K H' a xs := by
  rcases t with (t | ⟨o, t⟩) | t
  · exact .inl (.inl (h _ _ (m.notT (K := K) t (.inl ⟨_, rfl⟩)) t))
  · exact .inl (.inr ⟨o, h _ _ (m.notT (K := K) t (.inr ⟨_, _, rfl⟩)) t⟩)
  · exact .inr t
theorem But.tups {K : PySem.W.Frag} {L : List Addr} {H H' : Hp} (h : But L H H') (m : Mut H L) : ∀ {as : List Addr} {ls : List (List Int)}, TupsAt K H as ls → TupsAt K H' as ls
  | _, _, .nil => .nil
  | _, _, .cons t r => .cons (h.tup m t) (But.tups h m r)
theorem But.at_ {L : List Addr} {H H' : Hp} {a : Addr} {u : HO} (h : But L H H') (e : H a = some u) (n : a ∉ L) : H' a = some u := h a u n e
/-! ### the bindings -/
def BdAt (K : PySem.W.Frag) (H : Hp) (kvs : List (Key × V)) (R : Bd) : Prop := kvs.length ≤ R.length ∧ ∀ v : Nat, (look R v = none → valV kvs (Sum.inl (v : Int)) = none) ∧ ∀ g, look R v = some g → ∃ c, valV kvs (Sum.inl (v : Int)) = some (.ref c) ∧ SqT K H c (vis (ci g))
theorem BdAt.but {K : PySem.W.Frag} {L : List Addr} {H H' : Hp} {kvs : List (Key × V)} {R : Bd} (h : BdAt K H kvs R) (b : But L H H') (m : Mut H L) : BdAt K H' kvs R :=
  ⟨h.1, fun v => ⟨(h.2 v).1, fun g e => by
    obtain ⟨c, h1, h2⟩ := (h.2 v).2 g e
    exact ⟨c, h1, b.tup m h2⟩⟩⟩
theorem BdAt.nil {K : PySem.W.Frag} {H : Hp} : BdAt K H [] [] := ⟨Nat.le_refl _, fun v => ⟨fun _ => rfl, fun g e => by cases e⟩⟩
theorem BdAt.some {K : PySem.W.Frag} {H : Hp} {kvs : List (Key × V)} {R : Bd} (h : BdAt K H kvs R) (v : Nat) : (valV kvs (Sum.inl (v : Int))).isSome = (look R v).isSome := by
  cases e : look R v with
  | none => rw [(h.2 v).1 e]; rfl
  | some g => obtain ⟨c, h1, _⟩ := (h.2 v).2 g e; rw [h1]; rfl
theorem BdAt.put {K : PySem.W.Frag} {H : Hp} {kvs : List (Key × V)} {R : Bd} {x : Nat} {c : Addr} {g : Form} (h : BdAt K H kvs R) (hx : look R x = none) (hc : SqT K H c (vis (ci g))) : BdAt K H (putK kvs (Sum.inl (x : Int)) (.ref c)) ((x, g) :: R) := by
  refine ⟨?_, fun v => ?_⟩
  · rw [putK_new _ ((h.2 x).1 hx), List.length_append]
    have := h.1
    simp
    omega
  · rw [valV_put]
    by_cases e : v = x
    · subst e
      rw [if_pos rfl, SP.look_cons_self]
      refine ⟨(fun e => (by cases e)), (fun g2 e => ⟨c, rfl, (by cases e; exact hc)⟩)⟩
    · have hne : ¬ (Sum.inl (v : Int) : Key) = Sum.inl (x : Int) := fun z => by
        have := Sum.inl.inj z
        omega
      rw [if_neg hne, SP.look_cons_ne e]
      exact h.2 v
/-- the object -/
def PutsAt (K : PySem.W.Frag) (H : Hp) (x d : Addr) (R : Bd) : Prop := ∃ dx kvs, H x = some (.ins (He.ga K "Puts") dx [("bound", .ref d)]) ∧ H d = some (.dK kvs) ∧ BdAt K H kvs R
theorem PutsAt.dict {K : PySem.W.Frag} {H : Hp} {x d : Addr} {R : Bd} (h : PutsAt K H x d R) : ∃ k, H d = some (.dK k) := by
  obtain ⟨_, k, _, e, _⟩ := h
  exact ⟨k, e⟩
theorem PutsAt.but {K : PySem.W.Frag} {L : List Addr} {H H' : Hp} {x d : Addr} {R : Bd} (h : PutsAt K H x d R) (b : But L H H') (m : Mut H L) (hd : d ∉ L) : PutsAt K H' x d R := by
  obtain ⟨dx, kvs, h1, h2, h3⟩ := h
  refine ⟨dx, kvs, b _ _ (fun z => ?_) h1, b _ _ hd h2, h3.but b m⟩
  have hm2 := m x z
  rw [h1] at hm2
  rcases hm2 with ⟨l, e⟩ | ⟨k, e⟩
  · cases e
  · cases e
theorem PutsAt.same {K : PySem.W.Frag} {H H' : Hp} {x d : Addr} {R : Bd} (h : PutsAt K H x d R) (s : Same H H') : PutsAt K H' x d R := h.but (L := []) (But.of s) (fun a h => by simp at h) (by simp)
end SPW
end
section
set_option Elab.async false
set_option linter.all false
set_option maxRecDepth 100000
set_option maxHeartbeats 4000000
namespace SPW
open PySem PySem.Spec PyProof.Rows L2
open SP (ci co cis subs Bd look dom app wk wn Valid)
open Vapcma (Form)
variable {P : Program} {w : World} {K : PySem.W.Frag} {mg : Str → Option Value} {base : Heap}
/-- Puts() -/
def sp_Puts_init (K : PySem.W.Frag) : Sp := fun vs H Q _ => ∃ (x dx : Addr), vs = [.ref x] ∧ H x = some (.ins (He.ga K "Puts") dx []) ∧ ∀ H' d, But [x] H H' → H d = none → PutsAt K H' x d [] → Q .non H'
abbrev N_Puts_init : List Str := ["self"]
theorem sc_Puts_init : FnScope N_Puts_init ["self"] (defScope s_Puts_init) := ⟨rfl, rfl, rfl, by decide +kernel, rfl, by decide +kernel, by decide +kernel⟩
theorem g_Puts_init (T : Tx K mg) : GMk P w K mg base CX0 1 "Puts" (He.ga K "Puts") ["self"] (sp_Puts_init K) := by
  refine gmk0 (f_Puts_init T) (k_Puts T) (t_Puts T) sc_Puts_init (fun _ _ _ _ _ _ us hl => match us, hl with | [_], _ => rfl) (fun vs H Q E h => ?_) (fun f cdv A outer s H vs Q E hr h => ⟨_, (pss_one (ps_fldK K (pv 0) pe_dnewK)), ?_⟩)
  · obtain ⟨x, dx, rfl, _⟩ := h
    rfl
  · obtain ⟨x, dx, rfl, hx, k⟩ := h
    intro d hd
    have hxd : x ≠ d := ne_of_none hx hd
    refine ⟨_, rfl, x, _, dx, _, rfl, ?_, c_Puts T, n_Puts_bound T, (show ([] : List (Str × V)).length < 1000 by decide), ?_⟩
    · rw [upd_ne hxd]; exact hx
    · refine k _ d ?_ hd ⟨dx, [], upd_same, ?_, .nil⟩
      · exact But.upd (But.of (Same.new hd)) (by simp)
      · rw [upd_ne (Ne.symm hxd), upd_same]
/-- walked(self, f) -/
def sp_Puts_walked (K : PySem.W.Frag) : Sp := fun vs H Q _ => ∃ (x d a : Addr) (R : Bd) (F : Form), vs = [.ref x, .ref a] ∧ PutsAt K H x d R ∧ Valid R ∧ SqT K H a (vis (ci F)) ∧ ∀ p, SqT K H p (vis (ci (wk R F))) → Q (.ref p) H
abbrev N_Puts_walked : List Str := ["self", "f"]
theorem sc_Puts_walked : FnScope N_Puts_walked ["self", "f"] (defScope s_Puts_walked) := ⟨rfl, rfl, rfl, by decide +kernel, rfl, by decide +kernel, by decide +kernel⟩
theorem g_Puts_walked (T : Tx K mg) : GMe P w K mg base CX0 1 (He.ga K "Puts") "walked" ["self", "f"] (sp_Puts_walked K) := by
  refine gme0 (f_Puts_walked T) (m_Puts_walked T) sc_Puts_walked (fun _ _ _ _ _ _ us hl => match us, hl with | [_, _], _ => rfl) (fun vs H Q E h => ?_) (fun f cdv A outer s H vs Q E hr h => ⟨_, (pss_cons (ps_while PassesOwn.never (PW.pt (pw_and (pt_cmpR op_eq (pe_ix (ix_tupK K) (pv 1) pe_int1 (fun _ _ => rfl)) (pe_ci1 (t_UNKNOWN T)) (nomark _)) (pw_and1 (pt_cmp (pc_din (hu_of hr) (pe_ix (ix_tupK K) (pv 1) pe_int1 (fun _ _ => rfl)) (pe_fldK K (pv 0)))))))
  (pss_one (ps_set (i := 1) sc_Puts_walked.nd rfl (Or.inl rfl) (pe_dget (hu_of hr) (pe_fldK K (pv 0)) (pe_ix (ix_tupK K) (pv 1) pe_int1 (fun _ _ => rfl)) (fun _ _ => rfl)))))
  (pss_one (ps_ret (pv 1)))), ?_⟩)
  · obtain ⟨x, d, a, R, F, rfl, _⟩ := h
    rfl
  · obtain ⟨x, d, a, R, F, rfl, hP, hV, hS, k⟩ := h
    obtain ⟨dx, kvs, hx, hd, hB⟩ := hP
    refine wh_by (fun m σ' H' => ∃ (b : Addr) (G : Form), σ' = [some (.ref x), some (.ref b)] ∧ H' = H ∧ SqT K H b (vis (ci G)) ∧ wk R G = wk R F ∧ m = wn R G) _ ⟨a, F, rfl, rfl, hS, rfl, rfl⟩ ?_
    rintro m σ' H' ⟨b, G, rfl, rfl, hG, hw, rfl⟩
    refine ⟨_, rfl, b, _, 0, _, rfl, rfl, hG, vis_at (j := 0) (SP.ci_hd G), rfl, _, rfl, ?_⟩
    cases G with
    | imp g1 g2 =>
      refine if_false_of (int_ne (i := 1) (by decide)) ?_
      refine if_false_of rfl ?_
      refine ⟨_, rfl, ?_⟩
      rw [SP.wk_imp] at hw
      exact k b (hw ▸ hG)
    | neg g1 =>
      refine if_false_of (int_ne (i := 2) (by decide)) ?_
      refine if_false_of rfl ?_
      refine ⟨_, rfl, ?_⟩
      rw [SP.wk_neg] at hw
      exact k b (hw ▸ hG)
    | var v =>
      refine if_true_of (int_eq 0) ?_
      refine ⟨_, rfl, b, _, 1, _, rfl, rfl, hG, vis_at (j := 1) (i := (v : Int)) rfl, ?_⟩
      refine ⟨_, rfl, x, _, dx, _, _, rfl, hx, c_Puts T, n_Puts_bound T, rfl, d, _, rfl, DGet.k (k := Sum.inl (v : Int)) hd, _, rfl, ?_⟩
      have hs := hB.some v
      cases hl : look R v with
      | none =>
        refine if_false_of (by rw [hs, hl]; rfl) ?_
        refine ⟨_, rfl, ?_⟩
        have : wk R (.var v) = .var v := (SP.wk_free (by intro u e; cases e; exact SP.look_none.mp hl)).1
        rw [this] at hw
        exact k b (hw ▸ hG)
      | some g =>
        refine if_true_of (by rw [hs, hl]; rfl) ?_
        obtain ⟨c, h1, h2⟩ := (hB.2 v).2 g hl
        refine ⟨_, fun _ _ h => h, ?_⟩
        refine ⟨_, rfl, x, _, dx, _, _, rfl, hx, c_Puts T, n_Puts_bound T, rfl, ?_⟩
        refine ⟨_, rfl, b, _, 1, _, rfl, rfl, hG, vis_at (j := 1) (i := (v : Int)) rfl, d, .ref c, rfl, ?_, ?_⟩
        · rw [← h1]
          exact DGet.k (k := Sum.inl (v : Int)) hd
        · have := SP.wk_step hV hl
          exact ⟨wn R g, by omega, c, g, rfl, rfl, h2, by rw [← this.1]; exact hw, rfl⟩
end SPW
end
section
set_option Elab.async false
set_option linter.all false
set_option maxRecDepth 100000
set_option maxHeartbeats 4000000
namespace SPW
open PySem PySem.Spec PyProof.Rows L2
open SP (ci co cis subs Bd look dom app wk wn Valid Dfs)
open Vapcma (Form)
variable {P : Program} {w : World} {K : PySem.W.Frag} {mg : Str → Option Value} {base : Heap}
theorem vn_pop (l : List Nat) (x : Nat) : (vn (l ++ [x]))[(vn (l ++ [x])).length - 1]? = some (V.int (x : Int)) := by
  rw [vn_len]
  refine vn_get ?_
  simp
theorem vn_drop (l : List Nat) (x : Nat) : (vn (l ++ [x])).dropLast = vn l := by
  rw [← vn_snoc, List.dropLast_concat]
def SeenAt (kvs : List (Key × V)) (s : List Nat) : Prop := kvs.length ≤ s.length ∧ ∀ v : Nat, (valV kvs (Sum.inl (v : Int))).isSome = decide (v ∈ s)
theorem SeenAt.put {kvs : List (Key × V)} {s : List Nat} {x : Nat} {u : V} (h : SeenAt kvs s) (hx : x ∉ s) : SeenAt (putK kvs (Sum.inl (x : Int)) u) (s ++ [x]) := by
  have h0 : valV kvs (Sum.inl (x : Int)) = none := by
    have := h.2 x
    rw [decide_eq_false hx] at this
    cases e : valV kvs (Sum.inl (x : Int)) with
    | none => rfl
    | some y => rw [e] at this; cases this
  refine ⟨?_, fun v => ?_⟩
  · rw [putK_new _ h0, List.length_append, List.length_append]
    have := h.1
    simp
    omega
  · rw [valV_put]
    by_cases e : v = x
    · subst e
      rw [if_pos rfl, decide_eq_true (by simp)]
      rfl
    · have hne : ¬ (Sum.inl (v : Int) : Key) = Sum.inl (x : Int) := fun z => by
        have := Sum.inl.inj z
        omega
      rw [if_neg hne, h.2 v]
      simp [e]
/-- stands_in(self, unknown, f) -/
def sp_Puts_stands_in (K : PySem.W.Frag) : Sp := fun vs H Q _ => ∃ (x d a : Addr) (R : Bd) (F : Form) (m u : Nat), vs = [.ref x, .int (u : Int), .ref a] ∧ PutsAt K H x d R ∧ Valid R ∧ (∀ p ∈ R, Vapcma.size p.2 ≤ m) ∧ m ≤ 100 ∧ R.length ≤ 200 ∧ u ∉ dom R ∧
  SqT K H a (vis (ci F)) ∧ Vapcma.size F ≤ m ∧ ∀ H', Same H H' → Q (.bl (decide (u ∈ Vapcma.vars (app R F)))) H'
abbrev N_Puts_stands_in : List Str := ["self", "unknown", "f", "seen", "work", "number"]
theorem sc_Puts_stands_in : FnScope N_Puts_stands_in ["self", "unknown", "f"] (defScope s_Puts_stands_in) := ⟨rfl, rfl, rfl, by decide +kernel, rfl, by decide +kernel, by decide +kernel⟩
theorem g_Puts_stands_in (T : Tx K mg) : GMe P w K mg base CX0 4 (He.ga K "Puts") "stands_in" ["self", "unknown", "f"] (sp_Puts_stands_in K) := by
  have g_unknowns : GFn P w K mg base CX0 3 "unknowns" ["f"] (sp_unknowns K) := g_unknowns T
  refine gme0 (f_Puts_stands_in T) (m_Puts_stands_in T) sc_Puts_stands_in (fun _ _ _ _ _ _ us hl => match us, hl with | [_, _, _], _ => rfl) (fun vs H Q E h => ?_) (fun f cdv A outer s H vs Q E hr h => ⟨_, (pss_cons (ps_set (i := 3) sc_Puts_stands_in.nd rfl (Or.inl rfl) pe_dnewK)
  (pss_cons (ps_set (i := 4) sc_Puts_stands_in.nd rfl (Or.inl rfl) (pe_fn g_unknowns (hr.mono (by decide)) pass0 (pa_cons (pv 2) pa_nil1)))
  (pss_cons (ps_while PassesOwn.never (pt_truthK K (pv 4))
  (pss_cons (ps_set (i := 5) sc_Puts_stands_in.nd rfl (Or.inl rfl) (pe_bm0K K PySem.F.plainAttrs_list PySem.F.slot_list_pop PySem.F.type_list_pop mt_pop (pv 4)))
  (pss_cons (ps_if (pt_cmpR op_eq (pv 5) (pv 1) (nomark _)) (pss_one (ps_ret pe_bl1))
  pss_nil)
  (pss_one (ps_if (PW.pt (pw_and (pt_cmp (pc_din (hu_of hr) (pv 5) (pe_fldK K (pv 0)))) (pw_and1 (pt_cmp (pc_dnotin (hu_of hr) (pv 5) (pv 3)))))) (pss_cons (ps_dput (hu_of hr) (pv 3) (pv 5) pe_bl1 rfl)
  (pss_one (ps_expr (pe_bmK K PySem.F.plainAttrs_list PySem.F.slot_list_extend PySem.F.type_list_extend mt_extend (pv 4) (pa_cons (pe_fn g_unknowns (hr.mono (by decide)) pass0 (pa_cons (pe_dget (hu_of hr) (pe_fldK K (pv 0)) (pv 5) (fun _ _ => rfl)) pa_nil1)) pa_nil1)))))
  pss_nil)))))
  (pss_one (ps_ret pe_bl1))))), ?_⟩)
  · obtain ⟨x, d, a, R, F, m, u, rfl, _⟩ := h
    rfl
  · obtain ⟨x, d, a, R, F, m, u, rfl, hP, hV, hs, hm, hR, hu, hS, hF, k⟩ := h
    obtain ⟨n0, hD⟩ := SP.dfs_all hV hs hu hF
    generalize decide (u ∈ Vapcma.vars (app R F)) = b0 at hD k
    intro ds hds
    have s1 : Same H (upd H ds (.dK [])) := Same.new hds
    refine ⟨_, rfl, a, F, rfl, s1.tup hS, by have := SP.ci_le F; omega, fun H1 wl s2 hwl hL => ?_⟩
    have hwd : wl ≠ ds := fun e => by rw [e, upd_same] at hwl; cases hwl
    have hwl0 : H wl = none := s1.free hwl
    have hbig : m * (1 + R.length) ≤ 20100 := Nat.le_trans (Nat.mul_le_mul hm (Nat.add_le_add_left hR 1)) (by decide)
    refine wh_by (fun n σ' H' => ∃ (s w : List Nat) (kvs : List (Key × V)) (v5 : Option V), σ' = [some (.ref x), some (.int (u : Int)), some (.ref a), some (.ref ds), some (.ref wl), v5] ∧ Same H H' ∧
        H' ds = some (.dK kvs) ∧ SeenAt kvs s ∧ s.length ≤ R.length ∧ H' wl = some (.lst (vn w)) ∧ Dfs m R u s w n b0) _
      ⟨[], Vapcma.vars F, [], none, rfl, s1.trans s2, s2 _ _ upd_same, ⟨Nat.le_refl _, fun v => rfl⟩, Nat.zero_le _, hL, hD⟩ ?_
    rintro n σ' H' ⟨s, w, kvs, v5, rfl, s3, hds3, hsn, hsl, hwl3, hd⟩
    refine ⟨_, rfl, _, .inl ⟨_, SqL.of hwl3, rfl⟩, ?_⟩
    have s4 : ∀ l, Same H (upd H' wl (.lst l)) := fun l => s3.mut hwl0
    have hwl5 : ∀ l, upd H' wl (.lst (vn l)) wl = some (.lst (vn l)) := fun l => upd_same
    have hds5 : ∀ l, upd H' wl (.lst l) ds = some (.dK kvs) := fun l => (upd_ne (Ne.symm hwd)).trans hds3
    have pop : ∀ (w' : List Nat) (y : Nat), w = w' ++ [y] → ∀ (Z : VK), Z (.int (y : Int)) (upd H' wl (.lst (vn w'))) → tyV K "list" (.ref wl) H' ∧ rPop (.ref wl) [] H' Z := by
      rintro w' y rfl Z z
      refine ⟨.inl ⟨rfl, _, SqL.of hwl3⟩, wl, _, _, rfl, rfl, hwl3, vn_pop w' y, ?_⟩
      rw [vn_drop]
      exact z
    have ne : ∀ (w' : List Nat) (y : Nat), w = w' ++ [y] → (!(vn w).isEmpty) = true := by
      rintro w' y rfl
      simp [vn]
    cases hd with
    | none =>
      refine if_false_of rfl ?_
      exact k H' s3
    | hit h1 =>
      refine if_true_of (ne _ _ rfl) ?_
      refine ⟨_, fun _ _ h => h, ?_⟩
      refine ⟨_, rfl, pop _ _ rfl _ ?_⟩
      refine ⟨_, rfl, _, rfl, rfl, _, rfl, ?_⟩
      refine if_true_of (int_eq _) ?_
      exact k _ (s4 _)
    | new h1 h2 h3 h4 h5 h6 h7 =>
      rename_i w' y n' g
      refine if_true_of (ne _ _ rfl) ?_
      refine ⟨_, fun _ _ h => h, ?_⟩
      refine ⟨_, rfl, pop _ _ rfl _ ?_⟩
      refine ⟨_, rfl, _, rfl, rfl, _, rfl, ?_⟩
      refine if_false_of (int_ne (by omega)) ?_
      obtain ⟨dx, kv2, hx, hd, hB⟩ := hP.same (s4 (vn w'))
      refine ⟨_, rfl, _, rfl, x, _, dx, _, _, rfl, hx, c_Puts T, n_Puts_bound T, rfl, d, _, rfl, DGet.k (k := Sum.inl (y : Int)) hd, _, rfl, ?_⟩
      obtain ⟨c, e1, e2⟩ := (hB.2 y).2 g h4
      refine if_true_of (by rw [e1]; rfl) ?_
      refine ⟨_, rfl, _, rfl, ds, _, rfl, DGet.k (k := Sum.inl (y : Int)) (hds5 _), _, rfl, ?_⟩
      refine if_true_of (by rw [hsn.2 y, decide_eq_false h5]; rfl) ?_
      refine ⟨_, rfl, _, rfl, ds, _, rfl, .inl ⟨_, Sum.inl (y : Int), hds5 _, rfl, small_lt (by have := hsn.1; omega), rfl⟩, ?_⟩
      have s6 : Same H (upd (upd H' wl (.lst (vn w'))) ds (.dK (putK kvs (Sum.inl (y : Int)) (.bl true)))) := (s4 _).mut hds
      obtain ⟨dx, kv2, hx, hd, hB⟩ := hP.same s6
      obtain ⟨c, e1, e2⟩ := (hB.2 y).2 g h4
      have hw6 : upd (upd H' wl (.lst (vn w'))) ds (.dK (putK kvs (Sum.inl (y : Int)) (.bl true))) wl = some (.lst (vn w')) := (upd_ne hwd).trans upd_same
      refine ⟨_, rfl, .inl ⟨rfl, _, SqL.of hw6⟩, _, rfl, x, _, dx, _, _, rfl, hx, c_Puts T, n_Puts_bound T, rfl, _, rfl, d, .ref c, rfl, by rw [← e1]; exact DGet.k (k := Sum.inl (y : Int)) hd, ?_⟩
      have hg : Vapcma.size g ≤ m := hs _ (SP.look_mem h4)
      have hg2 := SP.ci_le g
      refine ⟨c, g, rfl, e2, by omega, fun H2 q s7 hq hq2 => ?_⟩
      refine ⟨wl, q, _, _, rfl, rfl, s7 _ _ hw6, hq2, small_size (by rw [vn_len, vn_len, ← List.length_append]; omega), ?_⟩
      refine ⟨n', by omega, s ++ [y], w' ++ Vapcma.vars g, _, _, rfl, (s6.trans s7).mut hwl0, ?_, hsn.put (u := .bl true) h5, by simp; omega, ?_, h7⟩
      · rw [upd_ne (Ne.symm hwd)]
        exact s7 _ _ upd_same
      · rw [upd_same, vn, vn, vn, List.map_append]
    | old h1 h2 h3 h4 =>
      rename_i w' y n'
      refine if_true_of (ne _ _ rfl) ?_
      refine ⟨_, fun _ _ h => h, ?_⟩
      refine ⟨_, rfl, pop _ _ rfl _ ?_⟩
      refine ⟨_, rfl, _, rfl, rfl, _, rfl, ?_⟩
      refine if_false_of (int_ne (by omega)) ?_
      obtain ⟨dx, kv2, hx, hd, hB⟩ := hP.same (s4 (vn w'))
      refine ⟨_, rfl, _, rfl, x, _, dx, _, _, rfl, hx, c_Puts T, n_Puts_bound T, rfl, d, _, rfl, DGet.k (k := Sum.inl (y : Int)) hd, _, rfl, ?_⟩
      have e1 := hB.some y
      cases hl : look R y with
      | none =>
        refine if_false_of (by rw [e1, hl]; rfl) ?_
        refine if_false_of rfl ?_
        exact ⟨n', by omega, s, w', kvs, _, rfl, s4 _, hds5 _, hsn, hsl, hwl5 _, h4⟩
      | some g =>
        have h5 : y ∈ s := h3.resolve_left (by rw [hl]; exact fun z => nomatch z)
        refine if_true_of (by rw [e1, hl]; rfl) ?_
        refine ⟨_, rfl, _, rfl, ds, _, rfl, DGet.k (k := Sum.inl (y : Int)) (hds5 _), _, rfl, ?_⟩
        refine if_false_of (by rw [hsn.2 y, decide_eq_true h5]; rfl) ?_
        exact ⟨n', by omega, s, w', kvs, _, rfl, s4 _, hds5 _, hsn, hsl, hwl5 _, h4⟩
end SPW
end
section
set_option Elab.async false
set_option linter.all false
set_option maxRecDepth 100000
set_option maxHeartbeats 4000000
namespace SPW
open PySem PySem.Spec PyProof.Rows L2
open SP (ci co cis subs Bd look dom app wk wn Valid Dfs free)
open Vapcma (Form)
variable {P : Program} {w : World} {K : PySem.W.Frag} {mg : Str → Option Value} {base : Heap}
theorem Mut.one {H : Hp} {d : Addr} (h : (∃ l, H d = some (.lst l)) ∨ ∃ k, H d = some (.dK k)) : Mut H [d] := fun a ha => by
  have : a = d := by simpa using ha
  exact this ▸ h
theorem Mut.two {H : Hp} {d e : Addr} (h : (∃ l, H d = some (.lst l)) ∨ ∃ k, H d = some (.dK k)) (h2 : (∃ l, H e = some (.lst l)) ∨ ∃ k, H e = some (.dK k)) : Mut H [d, e] := fun a ha => by
  have : a = d ∨ a = e := by simpa using ha
  rcases this with rfl | rfl
  · exact h
  · exact h2
/-- bind(self, unknown, f) -/
def sp_Puts_bind (K : PySem.W.Frag) : Sp := fun vs H Q _ => ∃ (x d a : Addr) (R : Bd) (F : Form) (m u : Nat), vs = [.ref x, .int (u : Int), .ref a] ∧ PutsAt K H x d R ∧ Valid R ∧ (∀ p ∈ R, Vapcma.size p.2 ≤ m) ∧ m ≤ 100 ∧ R.length ≤ 200 ∧ u ∉ dom R ∧
  SqT K H a (vis (ci F)) ∧ Vapcma.size F ≤ m ∧ (u ∈ Vapcma.vars (app R F) → ∀ H', Same H H' → Q (.bl false) H') ∧ (u ∉ Vapcma.vars (app R F) → ∀ H', But [d] H H' → PutsAt K H' x d ((u, F) :: R) → Q (.bl true) H')
abbrev N_Puts_bind : List Str := ["self", "unknown", "f"]
theorem sc_Puts_bind : FnScope N_Puts_bind ["self", "unknown", "f"] (defScope s_Puts_bind) := ⟨rfl, rfl, rfl, by decide +kernel, rfl, by decide +kernel, by decide +kernel⟩
theorem g_Puts_bind (T : Tx K mg) : GMe P w K mg base CX0 5 (He.ga K "Puts") "bind" ["self", "unknown", "f"] (sp_Puts_bind K) := by
  have g_Puts_stands_in : GMe P w K mg base CX0 4 (He.ga K "Puts") "stands_in" ["self", "unknown", "f"] (sp_Puts_stands_in K) := g_Puts_stands_in T
  refine gme0 (f_Puts_bind T) (m_Puts_bind T) sc_Puts_bind (fun _ _ _ _ _ _ us hl => match us, hl with | [_, _, _], _ => rfl) (fun vs H Q E h => ?_) (fun f cdv A outer s H vs Q E hr h => ⟨_, (pss_cons (ps_if (pt_val (pe_me (pv 0) (c_Puts T) g_Puts_stands_in (hr.mono (by decide)) pass0 (pa_cons (pv 1) (pa_cons (pv 2) pa_nil1)))) (pss_one (ps_ret pe_bl1))
  pss_nil)
  (pss_cons (ps_dput (hu_of hr) (pe_fldK K (pv 0)) (pv 1) (pv 2) rfl)
  (pss_one (ps_ret pe_bl1)))), ?_⟩)
  · obtain ⟨x, d, a, R, F, m, u, rfl, _⟩ := h
    rfl
  · obtain ⟨x, d, a, R, F, m, u, rfl, hP, hV, hs, hm, hR, hu, hS, hF, k1, k2⟩ := h
    obtain ⟨dx, kvs, hx, hd, hB⟩ := id hP
    refine ⟨_, rfl, x, dx, _, rfl, hx, rfl, _, rfl, _, rfl, x, d, a, R, F, m, u, rfl, hP, hV, hs, hm, hR, hu, hS, hF, fun H1 s1 => ?_⟩
    refine ⟨_, rfl, ?_⟩
    by_cases c : u ∈ Vapcma.vars (app R F)
    · refine if_true_of (decide_eq_true c) ?_
      exact k1 c H1 s1
    · refine if_false_of (decide_eq_false c) ?_
      obtain ⟨dx, kvs, hx, hd, hB⟩ := hP.same s1
      refine ⟨_, rfl, _, rfl, x, _, dx, _, _, rfl, hx, c_Puts T, n_Puts_bound T, rfl, _, rfl, d, _, rfl, .inl ⟨_, Sum.inl (u : Int), hd, rfl, small_lt (by have := hB.1; omega), rfl⟩, ?_⟩
      have b1 : But [d] H1 (upd H1 d (.dK (putK kvs (Sum.inl (u : Int)) (.ref a)))) := But.upd (But.refl H1) (by simp)
      have m1 : Mut H1 [d] := Mut.one (.inr ⟨_, hd⟩)
      refine k2 c _ ((But.of s1).trans b1) ⟨dx, _, ?_, upd_same, (hB.but b1 m1).put (SP.look_none.mpr hu) (b1.tup m1 (s1.tup hS))⟩
      exact b1 _ _ (fun z => by
        have : x = d := by simpa using z
        rw [this, hd] at hx
        cases hx) hx
/-! ### pairs to be made the same -/
def PairAt (K : PySem.W.Frag) (H : Hp) (t : Addr) (p : Form × Form) : Prop := ∃ a b, SqT K H t [.ref a, .ref b] ∧ SqT K H a (vis (ci p.1)) ∧ SqT K H b (vis (ci p.2))
def WorkAt (K : PySem.W.Frag) (H : Hp) (wl : Addr) (W : List (Form × Form)) : Prop := ∃ ts : List Addr, H wl = some (.lst (vr ts.reverse)) ∧ Paired (PairAt K H) ts W
theorem PairAt.but {L : List Addr} {H H' : Hp} (b : But L H H') (m : Mut H L) {t : Addr} {p : Form × Form} (h : PairAt K H t p) : PairAt K H' t p := by
  obtain ⟨a, c, h1, h2, h3⟩ := h
  exact ⟨a, c, b.tup m h1, b.tup m h2, b.tup m h3⟩
theorem pairs_but {L : List Addr} {H H' : Hp} (b : But L H H') (m : Mut H L) : ∀ {ts : List Addr} {W : List (Form × Form)}, Paired (PairAt K H) ts W → Paired (PairAt K H') ts W
  | _, _, .nil => .nil
  | _, _, .cons h t => .cons (h.but b m) (pairs_but b m t)
theorem WorkAt.but {L : List Addr} {H H' : Hp} {wl : Addr} {W : List (Form × Form)} (h : WorkAt K H wl W) (b : But L H H') (m : Mut H L) (n : wl ∉ L) : WorkAt K H' wl W := by
  obtain ⟨ts, h1, h2⟩ := h
  exact ⟨ts, b _ _ n h1, pairs_but b m h2⟩
theorem WorkAt.same {H H' : Hp} {wl : Addr} {W : List (Form × Form)} (h : WorkAt K H wl W) (s : Same H H') : WorkAt K H' wl W := h.but (L := []) (But.of s) (fun a h => by simp at h) (by simp)
/-- two forms already walked -/
def msN (R : Bd) (A C : Form) (W : List (Form × Form)) : Option (Bd × List (Form × Form)) := match A, C with
  | .var x, c => if x ∈ Vapcma.vars (app R c) then none else some ((x, c) :: R, W)
  | a, .var y => if y ∈ Vapcma.vars (app R a) then none else some ((y, a) :: R, W)
  | .imp a1 a2, .imp c1 c2 => some (R, (a1, c1) :: (a2, c2) :: W)
  | .neg a1, .neg c1 => some (R, (a1, c1) :: W)
  | _, _ => none
def msS (R : Bd) (A C : Form) (W : List (Form × Form)) : Option (Bd × List (Form × Form)) := if A = C then some (R, W) else msN R A C W
theorem msStep_eq (R : Bd) (one other : Form) (W : List (Form × Form)) : SP.msStep R one other W = msS R (wk R one) (wk R other) W := rfl
theorem paired_of {A B : Type} {F : A → B → Prop} : ∀ {l : List A} {k : List B}, l.length = k.length → (∀ (i : Nat) (a : A) (b : B), l[i]? = some a → k[i]? = some b → F a b) → Paired F l k
  | [], [], _, _ => .nil
  | [], _ :: _, e, _ => by simp at e
  | _ :: _, [], e, _ => by simp at e
  | a :: l, b :: k, e, h => .cons (h 0 a b rfl rfl) (paired_of (by simpa using e) fun i x y hx hy => h (i + 1) x y (by simpa using hx) (by simpa using hy))
theorem paired_append {A B : Type} {F : A → B → Prop} : ∀ {l l2 : List A} {k k2 : List B}, Paired F l k → Paired F l2 k2 → Paired F (l ++ l2) (k ++ k2)
  | _, _, _, _, .nil, s => s
  | _, _, _, _, .cons h t, s => .cons h (paired_append t s)
/-- match(self, f, g, work) -/
def sp_Puts_match (K : PySem.W.Frag) : Sp := fun vs H Q _ => ∃ (x d a b wl : Addr) (R : Bd) (A C : Form) (W : List (Form × Form)) (m : Nat), vs = [.ref x, .ref a, .ref b, .ref wl] ∧ PutsAt K H x d R ∧ Valid R ∧ (∀ p ∈ R, Vapcma.size p.2 ≤ m) ∧ m ≤ 100 ∧ R.length ≤ 200 ∧
  free R A ∧ free R C ∧ SqT K H a (vis (ci A)) ∧ SqT K H b (vis (ci C)) ∧ Vapcma.size A ≤ m ∧ Vapcma.size C ≤ m ∧ W.length ≤ 21000 ∧ WorkAt K H wl W ∧
  (msS R A C W = none → ∀ H', But [d, wl] H H' → Q (.bl false) H') ∧ ∀ R' W', msS R A C W = some (R', W') → ∀ H', But [d, wl] H H' → PutsAt K H' x d R' → WorkAt K H' wl W' → Q (.bl true) H'
abbrev N_Puts_match : List Str := ["self", "f", "g", "work"]
theorem sc_Puts_match : FnScope N_Puts_match ["self", "f", "g", "work"] (defScope s_Puts_match) := ⟨rfl, rfl, rfl, by decide +kernel, rfl, by decide +kernel, by decide +kernel⟩
theorem g_Puts_match (T : Tx K mg) : GMe P w K mg base CX0 6 (He.ga K "Puts") "match" ["self", "f", "g", "work"] (sp_Puts_match K) := by
  have g_Puts_bind : GMe P w K mg base CX0 5 (He.ga K "Puts") "bind" ["self", "unknown", "f"] (sp_Puts_bind K) := g_Puts_bind T
  have g_parts : GFn P w K mg base CX0 2 "parts" ["f"] (sp_parts K) := g_parts T
  refine gme0 (f_Puts_match T) (m_Puts_match T) sc_Puts_match (fun _ _ _ _ _ _ us hl => match us, hl with | [_, _, _, _], _ => rfl) (fun vs H Q E h => ?_) (fun f cdv A outer s H vs Q E hr h => ⟨_, (pss_cons (ps_if (pt_cmpR (op_eqDK K hr.units) (pv 1) (pv 2) (nomark _)) (pss_one (ps_ret pe_bl1))
  pss_nil)
  (pss_cons (ps_if (pt_cmpR op_eq (pe_ix (ix_tupK K) (pv 1) pe_int1 (fun _ _ => rfl)) (pe_ci1 (t_UNKNOWN T)) (nomark _)) (pss_one (ps_ret (pe_me (pv 0) (c_Puts T) g_Puts_bind (hr.mono (by decide)) pass0 (pa_cons (pe_ix (ix_tupK K) (pv 1) pe_int1 (fun _ _ => rfl)) (pa_cons (pv 2) pa_nil1)))))
  pss_nil)
  (pss_cons (ps_if (pt_cmpR op_eq (pe_ix (ix_tupK K) (pv 2) pe_int1 (fun _ _ => rfl)) (pe_ci1 (t_UNKNOWN T)) (nomark _)) (pss_one (ps_ret (pe_me (pv 0) (c_Puts T) g_Puts_bind (hr.mono (by decide)) pass0 (pa_cons (pe_ix (ix_tupK K) (pv 2) pe_int1 (fun _ _ => rfl)) (pa_cons (pv 1) pa_nil1)))))
  pss_nil)
  (pss_cons (ps_if (pt_cmpR op_ne (pe_ix (ix_tupK K) (pv 1) pe_int1 (fun _ _ => rfl)) (pe_ix (ix_tupK K) (pv 2) pe_int1 (fun _ _ => rfl)) (nomark _)) (pss_one (ps_ret pe_bl1))
  pss_nil)
  (pss_cons (ps_expr (pe_bmK K PySem.F.plainAttrs_list PySem.F.slot_list_extend PySem.F.type_list_extend mt_extend (pv 3) (pa_cons (pe_listzip K (by rfl) (by rfl) (t_list T) (t_zip T) (pa_cons (pe_revK K (pe_fn g_parts (hr.mono (by decide)) pass0 (pa_cons (pv 1) pa_nil1))) (pa_cons (pe_revK K (pe_fn g_parts (hr.mono (by decide)) pass0 (pa_cons (pv 2) pa_nil1))) pa_nil1))) pa_nil1)))
  (pss_one (ps_ret pe_bl1))))))), ?_⟩)
  · obtain ⟨x, d, a, b, wl, R, A', C, W, m, rfl, _⟩ := h
    rfl
  · obtain ⟨x, d, a, b, wl, R, F, G, W, m, rfl, hP, hV, hs, hm, hR, fA, fC, hA, hC, sA, sC, hW, hWk, k1, k2⟩ := h
    obtain ⟨dx, kvs, hx, hd, hB⟩ := id hP
    obtain ⟨ts, hwl, hts⟩ := id hWk
    have hdw : d ≠ wl := fun e => by rw [e, hwl] at hd; cases hd
    have mm : Mut H [d, wl] := Mut.two (.inr ⟨_, hd⟩) (.inl ⟨_, hwl⟩)
    refine ⟨_, rfl, _, rfl, _, _, dp_tup hA, dp_tup hC, dI_shaped _, dI_shaped _, _, rfl, ?_⟩
    rw [eqv_dI]
    by_cases c : F = G
    · refine if_true_of (decide_eq_true (by rw [c])) ?_
      exact k2 R W (by unfold msS; exact if_pos c) H (But.refl H) hP hWk
    refine if_false_of (decide_eq_false fun e => c (SP.ci_inj e)) ?_
    -- an unknown is bound
    have hbind : ∀ (u : Nat) (c : Addr) (I : Form), u ∉ dom R → SqT K H c (vis (ci I)) → Vapcma.size I ≤ m → msS R F G W = (if u ∈ Vapcma.vars (app R I) then none else some ((u, I) :: R, W)) →
        sp_Puts_bind K [.ref x, .int (u : Int), .ref c] H Q E := by
      intro u c I hu hI sI he
      refine ⟨x, d, c, R, I, m, u, rfl, hP, hV, hs, hm, hR, hu, hI, sI, fun hin H1 s1 => ?_, fun hin H1 b1 hP1 => ?_⟩
      · exact k1 (by rw [he, if_pos hin]) H1 (But.of s1)
      · exact k2 _ _ (by rw [he, if_neg hin]) H1 (b1.more (by simp)) hP1 (hWk.but b1 (Mut.one (.inr ⟨_, hd⟩)) (by simpa using Ne.symm hdw))
    have hms : msS R F G W = msN R F G W := if_neg c
    refine ⟨_, rfl, a, _, 0, _, rfl, rfl, hA, vis_at (j := 0) (SP.ci_hd F), rfl, _, rfl, ?_⟩
    by_cases hFv : ∃ v, F = .var v
    · obtain ⟨v, rfl⟩ := hFv
      refine if_true_of (int_eq 0) ?_
      refine ⟨_, rfl, x, dx, _, rfl, hx, rfl, _, rfl, a, _, 1, _, rfl, rfl, hA, vis_at (j := 1) (i := (v : Int)) rfl, _, rfl, ?_⟩
      exact hbind v b G (fA v rfl) hC sC hms
    have hFh : SP.hd F ≠ 0 := by
      cases F with
      | var v => exact absurd ⟨v, rfl⟩ hFv
      | imp _ _ => exact (by decide : (1 : Int) ≠ 0)
      | neg _ => exact (by decide : (2 : Int) ≠ 0)
    refine if_false_of (int_ne hFh) ?_
    refine ⟨_, rfl, b, _, 0, _, rfl, rfl, hC, vis_at (j := 0) (SP.ci_hd G), rfl, _, rfl, ?_⟩
    by_cases hGv : ∃ v, G = .var v
    · obtain ⟨v, rfl⟩ := hGv
      refine if_true_of (int_eq 0) ?_
      refine ⟨_, rfl, x, dx, _, rfl, hx, rfl, _, rfl, b, _, 1, _, rfl, rfl, hC, vis_at (j := 1) (i := (v : Int)) rfl, _, rfl, ?_⟩
      refine hbind v a F (fC v rfl) hA sA ?_
      rw [hms]
      cases F with
      | var v => exact absurd ⟨v, rfl⟩ hFv
      | imp _ _ => rfl
      | neg _ => rfl
    have hGh : SP.hd G ≠ 0 := by
      cases G with
      | var v => exact absurd ⟨v, rfl⟩ hGv
      | imp _ _ => exact (by decide : (1 : Int) ≠ 0)
      | neg _ => exact (by decide : (2 : Int) ≠ 0)
    refine if_false_of (int_ne hGh) ?_
    refine ⟨_, rfl, a, _, 0, _, rfl, rfl, hA, vis_at (j := 0) (SP.ci_hd F), _, rfl, b, _, 0, _, rfl, rfl, hC, vis_at (j := 0) (SP.ci_hd G), rfl, _, rfl, ?_⟩
    rw [int_dec]
    by_cases hh : SP.hd F = SP.hd G
    · refine if_false_of (by rw [decide_eq_true hh]; rfl) ?_
      -- the parts
      refine ⟨_, rfl, .inl ⟨rfl, _, SqL.of hwl⟩, ?_⟩
      refine ⟨_, rfl, a, F, rfl, hA, fun H1 p1 as s1 hp1 hl1 t1 => ?_⟩
      refine ⟨p1, _, rfl, SqL.of hl1, fun r1 hr1 => ?_⟩
      have s2 : Same H (upd H1 r1 (.lst (vr as).reverse)) := s1.trans (Same.new hr1)
      refine ⟨_, rfl, b, G, rfl, s2.tup hC, fun H2 p2 bs s3 hp2 hl2 t2 => ?_⟩
      refine ⟨p2, _, rfl, SqL.of hl2, fun r2 hr2 => ?_⟩
      have s4 : Same (upd H1 r1 (.lst (vr as).reverse)) (upd H2 r2 (.lst (vr bs).reverse)) := s3.trans (Same.new hr2)
      have e1 := t1.len
      have e2 := t2.len
      rw [List.length_map] at e1 e2
      have hsub : (subs F).length = (subs G).length ∧ (subs F).length ≤ 2 ∧ msS R F G W = some (R, (subs F).zip (subs G) ++ W) := by
        rw [hms]
        cases F with
        | var v => exact absurd ⟨v, rfl⟩ hFv
        | imp f1 f2 =>
          cases G with
          | var v => exact absurd ⟨v, rfl⟩ hGv
          | imp g1 g2 => exact ⟨rfl, by simp [subs], rfl⟩
          | neg g1 => cases hh
        | neg f1 =>
          cases G with
          | var v => exact absurd ⟨v, rfl⟩ hGv
          | imp g1 g2 => cases hh
          | neg g1 => exact ⟨rfl, by simp [subs], rfl⟩
      refine ⟨r1, r2, _, _, rfl, s4.seq (SqL.of upd_same), SqL.of upd_same, by simp [vr_len, e1, e2, hsub.1], fun H3 p us s5 hp hl hul hu => ?_⟩
      have hn : us.length = as.length := by rw [hul, List.length_reverse, vr_len]
      have hwl3 : H3 wl = some (.lst (vr ts.reverse)) := s5 _ _ (s4 _ _ (s2 _ _ hwl))
      have htl := Paired.length hts
      refine ⟨wl, p, _, _, rfl, rfl, hwl3, hl, small_size (by rw [vr_len, vr_len, List.length_reverse]; omega), ?_⟩
      have m3 : Mut H3 [wl] := Mut.one (.inl ⟨_, hwl3⟩)
      have b3 : But [wl] H3 (upd H3 wl (.lst (vr ts.reverse ++ vr us))) := But.upd (But.refl H3) (by simp)
      have sH3 : Same H H3 := s2.trans (s4.trans s5)
      have b0 : But [wl] H (upd H3 wl (.lst (vr ts.reverse ++ vr us))) := (But.of sH3).trans b3
      refine k2 _ _ hsub.2.2 _ (b0.more (by simp)) (hP.but b0 (Mut.one (.inl ⟨_, hwl⟩)) (by simpa using hdw)) ⟨us.reverse ++ ts, ?_, paired_append ?_ (pairs_but b0 (Mut.one (.inl ⟨_, hwl⟩)) hts)⟩
      · rw [upd_same]
        simp [vr]
      · refine paired_of (by rw [List.length_reverse, List.length_zip]; omega) fun i t q ht hq => ?_
        have hi : i < us.length := by have := (List.getElem?_eq_some_iff.mp ht).1; simpa using this
        rw [List.getElem?_reverse hi] at ht
        obtain ⟨xx, yy, hxx, hyy, htt⟩ := hu _ _ ht
        rw [List.getElem?_reverse (by rw [vr_len]; omega), vr_len, show as.length - 1 - (us.length - 1 - i) = i by omega] at hxx
        rw [List.getElem?_reverse (by rw [vr_len]; omega), vr_len, show bs.length - 1 - (us.length - 1 - i) = i by omega] at hyy
        obtain ⟨a1, ha1, rfl⟩ := vr_inv hxx
        obtain ⟨a2, ha2, rfl⟩ := vr_inv hyy
        obtain ⟨l1, hl1, c1⟩ := (t1.same ((Same.new hr1).trans (s4.trans s5))).get ha1
        obtain ⟨l2, hl2, c2⟩ := (t2.same ((Same.new hr2).trans s5)).get ha2
        rw [List.getElem?_map] at hl1 hl2
        rw [List.getElem?_zip_eq_some] at hq
        rw [hq.1] at hl1
        rw [hq.2] at hl2
        cases hl1
        cases hl2
        exact ⟨a1, a2, b3.tup m3 (SqT.of htt), b3.tup m3 c1, b3.tup m3 c2⟩
    · refine if_true_of (by rw [decide_eq_false hh]; rfl) ?_
      refine k1 ?_ H (But.refl H)
      rw [hms]
      cases F with
      | var v => exact absurd ⟨v, rfl⟩ hFv
      | imp f1 f2 =>
        cases G with
        | var v => exact absurd ⟨v, rfl⟩ hGv
        | imp g1 g2 => exact absurd rfl hh
        | neg g1 => rfl
      | neg f1 =>
        cases G with
        | var v => exact absurd ⟨v, rfl⟩ hGv
        | imp g1 g2 => rfl
        | neg g1 => exact absurd rfl hh
end SPW
end
section
set_option Elab.async false
set_option linter.all false
set_option maxRecDepth 100000
set_option maxHeartbeats 4000000
namespace SPW
open PySem PySem.Spec PyProof.Rows L2
open SP (ci co cis subs Bd look dom app wk wn Valid Dfs free Ms MOk)
open Vapcma (Form)
variable {P : Program} {w : World} {K : PySem.W.Frag} {mg : Str → Option Value} {base : Heap}
theorem vr_pop (l : List Addr) (t : Addr) : (vr (t :: l).reverse)[(vr (t :: l).reverse).length - 1]? = some (V.ref t) := by
  rw [vr_len]
  refine vr_get ?_
  simp
theorem vr_drop (l : List Addr) (t : Addr) : (vr (t :: l).reverse).dropLast = vr l.reverse := by
  rw [List.reverse_cons, ← vr_snoc, List.dropLast_concat]
theorem wk_size {R : Bd} {F : Form} {m : Nat} (hs : ∀ p ∈ R, Vapcma.size p.2 ≤ m) (hF : Vapcma.size F ≤ m) : Vapcma.size (wk R F) ≤ m := by
  rcases SP.wk_mem R F with e | ⟨p, hp, e⟩
  · rw [e]; exact hF
  · rw [e]; exact hs p hp
/-- make_same(self, f, g) -/
def sp_Puts_make_same (K : PySem.W.Frag) : Sp := fun vs H Q _ => ∃ (x d a b : Addr) (F G : Form) (m n : Nat) (r : Option Bd), vs = [.ref x, .ref a, .ref b] ∧ PutsAt K H x d [] ∧ m ≤ 100 ∧ SqT K H a (vis (ci F)) ∧ SqT K H b (vis (ci G)) ∧ Ms m [] [(F, G)] n r ∧
  (r = none → ∀ H', But [d] H H' → Q (.bl false) H') ∧ ∀ R, r = some R → ∀ H', But [d] H H' → PutsAt K H' x d R → Q (.bl true) H'
abbrev N_Puts_make_same : List Str := ["self", "f", "g", "work", "one", "other"]
theorem sc_Puts_make_same : FnScope N_Puts_make_same ["self", "f", "g"] (defScope s_Puts_make_same) := ⟨rfl, rfl, rfl, by decide +kernel, rfl, by decide +kernel, by decide +kernel⟩
theorem g_Puts_make_same (T : Tx K mg) : GMe P w K mg base CX0 7 (He.ga K "Puts") "make_same" ["self", "f", "g"] (sp_Puts_make_same K) := by
  have g_Puts_match : GMe P w K mg base CX0 6 (He.ga K "Puts") "match" ["self", "f", "g", "work"] (sp_Puts_match K) := g_Puts_match T
  have g_Puts_walked : GMe P w K mg base CX0 1 (He.ga K "Puts") "walked" ["self", "f"] (sp_Puts_walked K) := g_Puts_walked T
  refine gme0 (f_Puts_make_same T) (m_Puts_make_same T) sc_Puts_make_same (fun _ _ _ _ _ _ us hl => match us, hl with | [_, _, _], _ => rfl) (fun vs H Q E h => ?_) (fun f cdv A outer s H vs Q E hr h => ⟨_, (pss_cons (ps_set (i := 3) sc_Puts_make_same.nd rfl (Or.inl rfl) (pe_lst (pa_cons (pe_tup (pa_cons (pv 1) (pa_cons (pv 2) pa_nil1))) pa_nil1)))
  (pss_cons (ps_while PassesOwn.never (pt_truthK K (pv 3))
  (pss_cons (ps_asg (pe_bm0K K PySem.F.plainAttrs_list PySem.F.slot_list_pop PySem.F.type_list_pop mt_pop (pv 3)) (pg_tupK K (n := 2) rfl (pgs_cons (pg_name (i := 4) sc_Puts_make_same.nd rfl (Or.inl rfl)) (pgs_cons (pg_name (i := 5) sc_Puts_make_same.nd rfl (Or.inl rfl)) pgs_nil))))
  (pss_one (ps_if (pt_not (pt_val (pe_me (pv 0) (c_Puts T) g_Puts_match (hr.mono (by decide)) pass0 (pa_cons (pe_me (pv 0) (c_Puts T) g_Puts_walked (hr.mono (by decide)) pass0 (pa_cons (pv 4) pa_nil1)) (pa_cons (pe_me (pv 0) (c_Puts T) g_Puts_walked (hr.mono (by decide)) pass0 (pa_cons (pv 5) pa_nil1)) (pa_cons (pv 3) pa_nil1)))))) (pss_one (ps_ret pe_bl1))
  pss_nil))))
  (pss_one (ps_ret pe_bl1)))), ?_⟩)
  · obtain ⟨x, d, a, b, F, G, m, n, r, rfl, _⟩ := h
    rfl
  · obtain ⟨x, d, a, b, F, G, m, n, r, rfl, hP, hm, hA, hB, hMs, k1, k2⟩ := h
    obtain ⟨kd, hdd⟩ := hP.dict
    refine ⟨_, rfl, _, rfl, small_size (by simp), fun t ht => ?_⟩
    have s1 : Same H (upd H t (.tup [.ref a, .ref b])) := Same.new ht
    refine ⟨small_size (by simp), fun wl hwl => ?_⟩
    have hwl0 : H wl = none := s1.free hwl
    have s2 : Same (upd H t (.tup [.ref a, .ref b])) (upd (upd H t (.tup [.ref a, .ref b])) wl (.lst [.ref t])) := Same.new hwl
    have s3 := s1.trans s2
    have hdw : d ≠ wl := ne_of_none hdd hwl0
    refine wh_by (fun n σ' H' => ∃ (R : Bd) (W : List (Form × Form)) (v4 v5 : Option V), σ' = [some (.ref x), some (.ref a), some (.ref b), some (.ref wl), v4, v5] ∧ But [d] H H' ∧ PutsAt K H' x d R ∧ WorkAt K H' wl W ∧ Ms m R W n r) _
      ⟨[], [(F, G)], none, none, rfl, But.of s3, hP.same s3, ⟨[t], upd_same, .cons ⟨a, b, s2.tup (SqT.of upd_same), s3.tup hA, s3.tup hB⟩ .nil⟩, hMs⟩ ?_
    rintro n σ' H' ⟨R, W, v4, v5, rfl, b1, hP1, ⟨ts, hwl1, hts⟩, hM⟩
    refine ⟨_, rfl, _, .inl ⟨_, SqL.of hwl1, rfl⟩, ?_⟩
    cases W with
    | nil =>
      cases hts
      refine if_false_of rfl ?_
      cases hM with
      | done ok => exact k2 R rfl H' b1 hP1
    | cons p W =>
      obtain ⟨one, other⟩ := p
      cases hts with
      | cons hp hts =>
        rename_i t2 tr
        refine if_true_of (by simp [vr]) ?_
        refine ⟨_, fun _ _ h => h, ?_⟩
        refine ⟨_, rfl, .inl ⟨rfl, _, SqL.of hwl1⟩, wl, _, _, rfl, rfl, hwl1, vr_pop tr t2, ?_⟩
        rw [vr_drop]
        have mw : Mut H' [wl] := Mut.one (.inl ⟨_, hwl1⟩)
        have b2 : But [wl] H' (upd H' wl (.lst (vr tr.reverse))) := But.upd (But.refl H') (by simp)
        have hP2 := hP1.but b2 mw (by simpa using hdw)
        obtain ⟨a1, c1, h1, h2, h3⟩ := PairAt.but b2 mw hp
        have hts2 := pairs_but b2 mw hts
        have bA : But [d] H (upd H' wl (.lst (vr tr.reverse))) := But.cut (p := wl) ((b1.more (by simp)).trans (b2.more (by simp))) hwl0
        refine ⟨t2, _, rfl, h1, rfl, _, _, rfl, _, _, rfl, rfl, ?_⟩
        have ok : MOk m R ((one, other) :: W) := by
          cases hM with
          | fail ok _ => exact ok
          | step ok _ _ => exact ok
        obtain ⟨dx, kvs, hx, hd, hB2⟩ := id hP2
        have so : Vapcma.size one ≤ m ∧ Vapcma.size other ≤ m := ok.szW (one, other) (by simp)
        have hR : R.length ≤ 200 := by have := ok.lenR; omega
        have hWl : W.length ≤ 21000 := by
          have h1 := ok.lenW
          have h2 : 2 * m * m ≤ 20000 := Nat.mul_le_mul (Nat.mul_le_mul_left 2 hm) hm
          simp only [List.length_cons] at h1
          omega
        refine ⟨_, rfl, x, dx, _, rfl, hx, rfl, ?_⟩
        refine ⟨_, rfl, x, dx, _, rfl, hx, rfl, _, rfl, x, d, a1, R, one, rfl, hP2, ok.valid, h2, fun p1 hp1 => ?_⟩
        refine ⟨_, rfl, x, dx, _, rfl, hx, rfl, _, rfl, x, d, c1, R, other, rfl, hP2, ok.valid, h3, fun p2 hp2 => ?_⟩
        refine ⟨_, rfl, x, d, p1, p2, wl, R, wk R one, wk R other, W, m, rfl, hP2, ok.valid, ok.szR, hm, hR, SP.wk_is_free ok.valid one, SP.wk_is_free ok.valid other, hp1, hp2, wk_size ok.szR so.1, wk_size ok.szR so.2, hWl, ⟨tr, upd_same, hts2⟩, ?_, ?_⟩
        · intro hno H3 b3
          refine ⟨_, rfl, ?_⟩
          refine if_true_of rfl ?_
          have bE : But [d] H H3 := But.cut (p := wl) ((bA.more (by simp)).trans (b3.more (by simp))) hwl0
          cases hM with
          | fail _ _ => exact k1 rfl H3 bE
          | step _ e _ =>
            rw [msStep_eq, hno] at e
            cases e
        · intro R2 W2 hso H3 b3 hP3 hW3
          refine ⟨_, rfl, ?_⟩
          refine if_false_of rfl ?_
          have bE : But [d] H H3 := But.cut (p := wl) ((bA.more (by simp)).trans (b3.more (by simp))) hwl0
          cases hM with
          | fail _ e =>
            rw [msStep_eq, hso] at e
            cases e
          | step _ e hM =>
            rw [msStep_eq, hso] at e
            cases e
            exact ⟨_, Nat.lt_succ_self _, R2, W2, _, _, rfl, bE, hP3, hW3, hM⟩
end SPW
end
section
set_option Elab.async false
set_option linter.all false
set_option maxRecDepth 100000
set_option maxHeartbeats 4000000
namespace SPW
open PySem PySem.Spec PyProof.Rows L2
open SP (ci co cis subs Bd look dom app wk wn Valid Dfs free Ms MOk tok)
open Vapcma (Form)
variable {P : Program} {w : World} {K : PySem.W.Frag} {mg : Str → Option Value} {base : Heap}
def sumS (R : Bd) (W : List Form) : Nat := (W.map fun s => Vapcma.size (app R s)).sum
theorem sumS_walk {R : Bd} (hV : Valid R) (F : Form) (W : List Form) : sumS R (F :: W) = 1 + sumS R (subs (wk R F) ++ W) := by
  have h := SP.size_walk (SP.wk_is_free hV F)
  rw [SP.wk_app hV] at h
  simp only [sumS, List.map_cons, List.sum_cons, List.map_append, List.sum_append]
  rw [h]
  omega
theorem len_sumS (R : Bd) : ∀ W : List Form, W.length ≤ sumS R W
  | [] => Nat.zero_le _
  | F :: W => by
    have := len_sumS R W
    have := SP.size_pos (app R F)
    simp only [sumS, List.map_cons, List.sum_cons, List.length_cons] at *
    omega
theorem subs_len (F : Form) : (subs F).length ≤ 2 := by cases F <;> simp [subs]
/-- is_longer(self, f, most) -/
def sp_Puts_is_longer (K : PySem.W.Frag) : Sp := fun vs H Q _ => ∃ (x d a : Addr) (R : Bd) (F : Form) (most : Nat), vs = [.ref x, .ref a, .int (most : Int)] ∧ PutsAt K H x d R ∧ Valid R ∧ most ≤ 1000 ∧ SqT K H a (vis (ci F)) ∧
  ∀ H', Same H H' → Q (.bl (decide (most < Vapcma.size (app R F)))) H'
abbrev N_Puts_is_longer : List Str := ["self", "f", "most", "many", "work", "part"]
theorem sc_Puts_is_longer : FnScope N_Puts_is_longer ["self", "f", "most"] (defScope s_Puts_is_longer) := ⟨rfl, rfl, rfl, by decide +kernel, rfl, by decide +kernel, by decide +kernel⟩
theorem g_Puts_is_longer (T : Tx K mg) : GMe P w K mg base CX0 3 (He.ga K "Puts") "is_longer" ["self", "f", "most"] (sp_Puts_is_longer K) := by
  have g_parts : GFn P w K mg base CX0 2 "parts" ["f"] (sp_parts K) := g_parts T
  have g_Puts_walked : GMe P w K mg base CX0 1 (He.ga K "Puts") "walked" ["self", "f"] (sp_Puts_walked K) := g_Puts_walked T
  refine gme0 (f_Puts_is_longer T) (m_Puts_is_longer T) sc_Puts_is_longer (fun _ _ _ _ _ _ us hl => match us, hl with | [_, _, _], _ => rfl) (fun vs H Q E h => ?_) (fun f cdv A outer s H vs Q E hr h => ⟨_, (pss_cons (ps_set (i := 3) sc_Puts_is_longer.nd rfl (Or.inl rfl) pe_int1)
  (pss_cons (ps_set (i := 4) sc_Puts_is_longer.nd rfl (Or.inl rfl) (pe_lst (pa_cons (pv 1) pa_nil1)))
  (pss_cons (ps_while PassesOwn.never (PW.pt (pw_and (pt_truthK K (pv 4)) (pw_and1 (pt_cmpR op_le (pv 3) (pv 2) (nomark _)))))
  (pss_cons (ps_set (i := 5) sc_Puts_is_longer.nd rfl (Or.inl rfl) (pe_me (pv 0) (c_Puts T) g_Puts_walked (hr.mono (by decide)) pass0 (pa_cons (pe_bm0K K PySem.F.plainAttrs_list PySem.F.slot_list_pop PySem.F.type_list_pop mt_pop (pv 4)) pa_nil1)))
  (pss_cons (ps_aug (i := 3) sc_Puts_is_longer.nd rfl (Or.inl rfl) pe_int1 ip_add)
  (pss_one (ps_expr (pe_bmK K PySem.F.plainAttrs_list PySem.F.slot_list_extend PySem.F.type_list_extend mt_extend (pv 4) (pa_cons (pe_revK K (pe_fn g_parts (hr.mono (by decide)) pass0 (pa_cons (pv 5) pa_nil1))) pa_nil1)))))))
  (pss_one (ps_ret (pe_cmpR op_gt (pv 3) (pv 2) (nomark _))))))), ?_⟩)
  · obtain ⟨x, d, a, R, F, most, rfl, _⟩ := h
    rfl
  · obtain ⟨x, d, a, R, F, most, rfl, hP, hV, hm, hA, k⟩ := h
    obtain ⟨kd, hdd⟩ := hP.dict
    refine ⟨_, rfl, small_size (by simp), fun wl hwl => ?_⟩
    have s1 : Same H (upd H wl (.lst [.ref a])) := Same.new hwl
    refine wh_by (fun n σ' H' => ∃ (W : List Form) (many : Nat) (v5 : Option V) (ts : List Addr), σ' = [some (.ref x), some (.ref a), some (.int (most : Int)), some (.int (many : Int)), some (.ref wl), v5] ∧ Same H H' ∧
        H' wl = some (.lst (vr ts.reverse)) ∧ TupsAt K H' ts (W.map ci) ∧ many + sumS R W = Vapcma.size (app R F) ∧ W.length ≤ many + 1 ∧ many ≤ most + 1 ∧ n = most + 1 - many) _
      ⟨[F], 0, none, [a], rfl, s1, upd_same, .cons (s1.tup hA) .nil, by simp [sumS], by simp, by omega, rfl⟩ ?_
    rintro n σ' H' ⟨W, many, v5, ts, rfl, s2, hwl2, hts, hsum, hWl, hmm, rfl⟩
    refine ⟨_, rfl, _, .inl ⟨_, SqL.of hwl2, rfl⟩, ?_⟩
    cases W with
    | nil =>
      cases hts
      refine if_false_of rfl ?_
      refine if_false_of rfl ?_
      refine ⟨_, rfl, _, rfl, _, _, rfl, rfl, ?_⟩
      have := k H' s2
      have e : decide (most < Vapcma.size (app R F)) = decide ((most : Int) < (many : Int)) := by
        simp only [sumS, List.map_nil, List.sum_nil] at hsum
        rw [Bool.eq_iff_iff]
        simp only [decide_eq_true_eq]
        omega
      rw [e] at this
      exact this
    | cons F1 W =>
      cases hts with
      | cons h1 hts =>
        rename_i t tr
        refine if_true_of (by simp [vr]) ?_
        refine ⟨_, rfl, _, rfl, _, _, rfl, rfl, _, rfl, ?_⟩
        by_cases hc : many ≤ most
        · refine if_true_of (decide_eq_true (by omega)) ?_
          refine ⟨_, fun _ _ h => h, ?_⟩
          obtain ⟨dx, kvs, hx, hd, hB⟩ := hP.same s2
          refine ⟨_, rfl, x, dx, _, rfl, hx, rfl, ?_⟩
          refine ⟨_, rfl, .inl ⟨rfl, _, SqL.of hwl2⟩, wl, _, _, rfl, rfl, hwl2, vr_pop tr t, ?_⟩
          rw [vr_drop]
          have mw : Mut H' [wl] := Mut.one (.inl ⟨_, hwl2⟩)
          have b2 : But [wl] H' (upd H' wl (.lst (vr tr.reverse))) := But.upd (But.refl H') (by simp)
          have s3 : Same H (upd H' wl (.lst (vr tr.reverse))) := s2.mut hwl
          refine ⟨x, d, t, R, F1, rfl, hP.same s3, hV, b2.tup mw h1, fun p1 hp1 => ?_⟩
          refine ⟨_, rfl, _, _, rfl, rfl, ?_⟩
          refine ⟨_, rfl, .inl ⟨rfl, _, SqL.of upd_same⟩, _, rfl, p1, _, rfl, hp1, fun H1 q as s4 hq hq1 t1 => ?_⟩
          refine ⟨q, _, rfl, SqL.of hq1, fun r hr => ?_⟩
          have s5 : Same (upd H' wl (.lst (vr tr.reverse))) (upd H1 r (.lst (vr as).reverse)) := s4.trans (Same.new hr)
          have hw5 := s5 _ _ upd_same
          have e1 := t1.len
          have e2 := Paired.length hts
          rw [List.length_map] at e1 e2
          have e3 := subs_len (wk R F1)
          simp only [List.length_cons] at hWl
          refine ⟨wl, r, _, _, rfl, rfl, hw5, upd_same, small_size (by rw [vr_len, List.length_reverse, List.length_reverse, vr_len]; omega), ?_⟩
          have mw5 : Mut (upd H1 r (.lst (vr as).reverse)) [wl] := Mut.one (.inl ⟨_, hw5⟩)
          have b5 : But [wl] (upd H1 r (.lst (vr as).reverse)) (upd (upd H1 r (.lst (vr as).reverse)) wl (.lst (vr tr.reverse ++ (vr as).reverse))) := But.upd (But.refl _) (by simp)
          have hsw := sumS_walk hV F1 W
          refine ⟨_, ?_, subs (wk R F1) ++ W, many + 1, _, as ++ tr, rfl, (s3.trans s5).mut hwl, ?_, ?_, by omega, by simp; omega, by omega, rfl⟩
          · omega
          · rw [upd_same]
            simp [vr]
          · rw [List.map_append]
            exact TupsAt.append (b5.tups mw5 (t1.same (Same.new hr))) (b5.tups mw5 (TupsAt.same s5 (b2.tups mw hts)))
        · refine if_false_of (decide_eq_false (by omega)) ?_
          refine ⟨_, rfl, _, rfl, _, _, rfl, rfl, ?_⟩
          have := k H' s2
          have e : decide (most < Vapcma.size (app R F)) = decide ((most : Int) < (many : Int)) := by
            rw [Bool.eq_iff_iff]
            simp only [decide_eq_true_eq]
            omega
          rw [e] at this
          exact this
/-- put_in(self, f) -/
def sp_Puts_put_in (K : PySem.W.Frag) : Sp := fun vs H Q _ => ∃ (x d a : Addr) (R : Bd) (F : Form), vs = [.ref x, .ref a] ∧ PutsAt K H x d R ∧ Valid R ∧ Vapcma.size (app R F) ≤ 100 ∧ SqT K H a (vis (ci F)) ∧
  ∀ H' p, Same H H' → SqT K H' p (vis (ci (app R F))) → Q (.ref p) H'
abbrev N_Puts_put_in : List Str := ["self", "f", "out", "work", "part"]
theorem sc_Puts_put_in : FnScope N_Puts_put_in ["self", "f"] (defScope s_Puts_put_in) := ⟨rfl, rfl, rfl, by decide +kernel, rfl, by decide +kernel, by decide +kernel⟩
theorem g_Puts_put_in (T : Tx K mg) : GMe P w K mg base CX0 3 (He.ga K "Puts") "put_in" ["self", "f"] (sp_Puts_put_in K) := by
  have g_parts : GFn P w K mg base CX0 2 "parts" ["f"] (sp_parts K) := g_parts T
  have g_Puts_walked : GMe P w K mg base CX0 1 (He.ga K "Puts") "walked" ["self", "f"] (sp_Puts_walked K) := g_Puts_walked T
  refine gme0 (f_Puts_put_in T) (m_Puts_put_in T) sc_Puts_put_in (fun _ _ _ _ _ _ us hl => match us, hl with | [_, _], _ => rfl) (fun vs H Q E h => ?_) (fun f cdv A outer s H vs Q E hr h => ⟨_, (pss_cons (ps_set (i := 2) sc_Puts_put_in.nd rfl (Or.inl rfl) (pe_lst pa_nil1))
  (pss_cons (ps_set (i := 3) sc_Puts_put_in.nd rfl (Or.inl rfl) (pe_lst (pa_cons (pv 1) pa_nil1)))
  (pss_cons (ps_while PassesOwn.never (pt_truthK K (pv 3))
  (pss_cons (ps_set (i := 4) sc_Puts_put_in.nd rfl (Or.inl rfl) (pe_me (pv 0) (c_Puts T) g_Puts_walked (hr.mono (by decide)) pass0 (pa_cons (pe_bm0K K PySem.F.plainAttrs_list PySem.F.slot_list_pop PySem.F.type_list_pop mt_pop (pv 3)) pa_nil1)))
  (pss_one (ps_if (pt_cmpR op_eq (pe_ix (ix_tupK K) (pv 4) pe_int1 (fun _ _ => rfl)) (pe_ci1 (t_UNKNOWN T)) (nomark _)) (pss_one (ps_expr (pe_bmK K PySem.F.plainAttrs_list PySem.F.slot_list_extend PySem.F.type_list_extend (mt_extTK K) (pv 2) (pa_cons (pv 4) pa_nil1))))
  (pss_cons (ps_expr (pe_bmK K PySem.F.plainAttrs_list PySem.F.slot_list_append PySem.F.type_list_append mt_append (pv 2) (pa_cons (pe_ix (ix_tupK K) (pv 4) pe_int1 (fun _ _ => rfl)) pa_nil1)))
  (pss_one (ps_expr (pe_bmK K PySem.F.plainAttrs_list PySem.F.slot_list_extend PySem.F.type_list_extend mt_extend (pv 3) (pa_cons (pe_revK K (pe_fn g_parts (hr.mono (by decide)) pass0 (pa_cons (pv 4) pa_nil1))) pa_nil1)))))))))
  (pss_one (ps_ret (pe_callTy (call_tupleK K) (by rfl) (t_tuple T) (by decide +kernel) (pa_cons (pv 2) pa_nil1))))))), ?_⟩)
  · obtain ⟨x, d, a, R, F, rfl, _⟩ := h
    rfl
  · obtain ⟨x, d, a, R, F, rfl, hP, hV, hm, hA, k⟩ := h
    obtain ⟨kd, hdd⟩ := hP.dict
    have hcl := SP.ci_le (app R F)
    refine ⟨small_size (by simp), fun o ho => ?_⟩
    have s0 : Same H (upd H o (.lst [])) := Same.new ho
    refine ⟨_, rfl, small_size (by simp), fun wl hwl => ?_⟩
    have hwl0 : H wl = none := s0.free hwl
    have s1 : Same H (upd (upd H o (.lst [])) wl (.lst [.ref a])) := s0.trans (Same.new hwl)
    have how : o ≠ wl := fun e => by rw [← e, upd_same] at hwl; cases hwl
    refine wh_by (fun n σ' H' => ∃ (W : List Form) (out : List Int) (v4 : Option V) (ts : List Addr), σ' = [some (.ref x), some (.ref a), some (.ref o), some (.ref wl), v4] ∧ Same H H' ∧
        H' wl = some (.lst (vr ts.reverse)) ∧ TupsAt K H' ts (W.map ci) ∧ H' o = some (.lst (vis out)) ∧ out ++ (W.flatMap fun s => ci (app R s)) = ci (app R F) ∧ sumS R W ≤ 100 ∧ n = sumS R W) _
      ⟨[F], [], none, [a], rfl, s1, upd_same, .cons (s1.tup hA) .nil, (upd_ne how).trans upd_same, by simp, by simpa [sumS] using hm, rfl⟩ ?_
    rintro n σ' H' ⟨W, out, v4, ts, rfl, s2, hwl2, hts, ho2, hout, hsl, rfl⟩
    refine ⟨_, rfl, _, .inl ⟨_, SqL.of hwl2, rfl⟩, ?_⟩
    cases W with
    | nil =>
      cases hts
      refine if_false_of rfl ?_
      refine ⟨_, rfl, o, _, rfl, .inl ⟨SqL.of ho2, fun p hp => ?_⟩⟩
      refine k _ p (s2.trans (Same.new hp)) (SqT.of ?_)
      rw [upd_same, ← hout]
      simp
    | cons F1 W =>
      cases hts with
      | cons h1 hts =>
        rename_i t tr
        refine if_true_of (by simp [vr]) ?_
        refine ⟨_, fun _ _ h => h, ?_⟩
        obtain ⟨dx, kvs, hx, hd, hB⟩ := hP.same s2
        refine ⟨_, rfl, x, dx, _, rfl, hx, rfl, ?_⟩
        refine ⟨_, rfl, .inl ⟨rfl, _, SqL.of hwl2⟩, wl, _, _, rfl, rfl, hwl2, vr_pop tr t, ?_⟩
        rw [vr_drop]
        have mw : Mut H' [wl] := Mut.one (.inl ⟨_, hwl2⟩)
        have b2 : But [wl] H' (upd H' wl (.lst (vr tr.reverse))) := But.upd (But.refl H') (by simp)
        have s3 : Same H (upd H' wl (.lst (vr tr.reverse))) := s2.mut hwl0
        have ho3 : upd H' wl (.lst (vr tr.reverse)) o = some (.lst (vis out)) := (upd_ne how).trans ho2
        have hw3 : upd H' wl (.lst (vr tr.reverse)) wl = some (.lst (vr tr.reverse)) := upd_same
        have hts3 := b2.tups mw hts
        have hfr := SP.wk_is_free hV F1
        have hcw := SP.ci_walk hfr
        rw [SP.wk_app hV] at hcw
        have hsw := sumS_walk hV F1 W
        have hol : out.length ≤ 300 := by
          have := congrArg List.length hout
          simp only [List.length_append] at this
          omega
        rw [List.flatMap_cons, hcw] at hout
        refine ⟨x, d, t, R, F1, rfl, hP.same s3, hV, b2.tup mw h1, fun p1 hp1 => ?_⟩
        generalize upd H' wl (.lst (vr tr.reverse)) = H3 at *
        refine ⟨_, rfl, p1, _, 0, _, rfl, rfl, hp1, vis_at (j := 0) (SP.ci_hd _), rfl, _, rfl, ?_⟩
        by_cases hv : ∃ v, wk R F1 = .var v
        · obtain ⟨v, e⟩ := hv
          rw [e] at hp1 hout hsw ⊢
          refine if_true_of (int_eq 0) ?_
          refine ⟨_, rfl, .inl ⟨rfl, _, SqL.of ho3⟩, _, rfl, o, p1, _, _, rfl, rfl, ho3, hp1, small_size (by rw [vis_len, vis_len]; simp [SP.ci_var]; omega), ?_⟩
          have mo : Mut H3 [o] := Mut.one (.inl ⟨_, ho3⟩)
          have b3 : But [o] H3 (upd H3 o (.lst (vis out ++ vis (ci (.var v))))) := But.upd (But.refl _) (by simp)
          simp only [subs, List.nil_append] at hsw
          refine ⟨_, ?_, W, out ++ tok (.var v), _, tr, rfl, s3.mut ho, ?_, b3.tups mo hts3, ?_, ?_, by omega, rfl⟩
          · omega
          · rw [upd_ne (Ne.symm how)]
            exact hw3
          · rw [upd_same, ← vis_append]
            rfl
          · rw [← hout]
            simp [subs]
        · have hne : SP.hd (wk R F1) ≠ 0 := by
            cases e : wk R F1 with
            | var v => exact absurd ⟨v, e⟩ hv
            | imp _ _ => exact (by decide : (1 : Int) ≠ 0)
            | neg _ => exact (by decide : (2 : Int) ≠ 0)
          have htok : tok (wk R F1) = [SP.hd (wk R F1)] := by
            cases e : wk R F1 with
            | var v => exact absurd ⟨v, e⟩ hv
            | imp _ _ => rfl
            | neg _ => rfl
          refine if_false_of (int_ne hne) ?_
          refine ⟨_, rfl, .inl ⟨rfl, _, SqL.of ho3⟩, _, rfl, p1, _, 0, _, rfl, rfl, hp1, vis_at (j := 0) (SP.ci_hd _), o, _, _, rfl, rfl, ho3, small_lt (by rw [vis_len]; omega), ?_⟩
          have mo : Mut H3 [o] := Mut.one (.inl ⟨_, ho3⟩)
          have b3 : But [o] H3 (upd H3 o (.lst (vis out ++ [.int (SP.hd (wk R F1))]))) := But.upd (But.refl _) (by simp)
          have hw4 := b3 _ _ (by simpa using Ne.symm how) hw3
          have s4 : Same H (upd H3 o (.lst (vis out ++ [.int (SP.hd (wk R F1))]))) := s3.mut ho
          have ho4 : upd H3 o (.lst (vis out ++ [.int (SP.hd (wk R F1))])) o = some (.lst (vis (out ++ tok (wk R F1)))) := by
            rw [upd_same, vis_snoc, htok]
          have hts4 := b3.tups mo hts3
          have hp4 := b3.tup mo hp1
          generalize upd H3 o (.lst (vis out ++ [.int (SP.hd (wk R F1))])) = H4 at *
          refine ⟨_, rfl, .inl ⟨rfl, _, SqL.of hw4⟩, _, rfl, p1, _, rfl, hp4, fun H5 q as s5 hq hq1 t1 => ?_⟩
          refine ⟨q, _, rfl, SqL.of hq1, fun r hr => ?_⟩
          have s6 : Same H4 (upd H5 r (.lst (vr as).reverse)) := s5.trans (Same.new hr)
          have hw6 := s6 _ _ hw4
          have e1 := t1.len
          have e2 := Paired.length hts
          rw [List.length_map] at e1 e2
          have e3 := subs_len (wk R F1)
          have e4 := len_sumS R W
          have e5 : sumS R W ≤ sumS R (subs (wk R F1) ++ W) := by
            simp only [sumS, List.map_append, List.sum_append]
            omega
          refine ⟨wl, r, _, _, rfl, rfl, hw6, upd_same, small_size (by rw [vr_len, List.length_reverse, List.length_reverse, vr_len]; omega), ?_⟩
          have mw6 : Mut (upd H5 r (.lst (vr as).reverse)) [wl] := Mut.one (.inl ⟨_, hw6⟩)
          have b6 : But [wl] (upd H5 r (.lst (vr as).reverse)) (upd (upd H5 r (.lst (vr as).reverse)) wl (.lst (vr tr.reverse ++ (vr as).reverse))) := But.upd (But.refl _) (by simp)
          refine ⟨_, ?_, subs (wk R F1) ++ W, out ++ tok (wk R F1), _, as ++ tr, rfl, (s4.trans s6).mut hwl0, ?_, ?_, ?_, ?_, by omega, rfl⟩
          · omega
          · rw [upd_same]
            simp [vr]
          · rw [List.map_append]
            exact TupsAt.append (b6.tups mw6 (t1.same (Same.new hr))) (b6.tups mw6 (TupsAt.same s6 hts4))
          · exact b6 _ _ (by simpa using how) (s6 _ _ ho4)
          · rw [← hout]
            simp
end SPW
end
section
set_option autoImplicit false
set_option linter.all false
namespace SP
open Vapcma (Form size vars rename normal replace code top detach Axiom Row Text_ addRow formulas addSize treeSizes needsBy needs count provesIn)
open Vapcmb (firstAsGeneral neededRows targets targetItems treeTotal Draft addTo firstDraft merged pruned)
/-- a formula that may be held by a text -/
def Fine (F : Form) : Prop := size F ≤ 60 ∧ ∀ v ∈ vars F, v < 1000
def det (x y : Option Form) : Option Form := x.bind fun F => y.bind fun G => detach F G
theorem fine_normal {F : Form} (h : normal F = F) (hs : size F ≤ 60) : Fine F := by
  refine ⟨hs, fun v hv => ?_⟩
  rw [← h] at hv
  have := normal_vars hv
  have := vars_le F
  omega
theorem detach_fine {F G R : Form} (h : detach F G = some R) : Fine R := by
  cases F with
  | var v =>
    have e : some (Form.var 0) = some R := h
    cases e
    exact ⟨by simp [size], fun v hv => by simp [vars] at hv; omega⟩
  | neg a => cases h
  | imp a b =>
    simp only [detach] at h
    generalize Vapcma.fit a _ b = x at h
    cases x with
    | none => cases h
    | some r =>
      simp only [Option.bind_some] at h
      split at h
      · cases h
      · rename_i hs
        cases h
        have hs2 : size r ≤ 60 := by simp only [Vapcma.SIZE] at hs; omega
        refine ⟨by rw [normal_size]; exact hs2, fun v hv => ?_⟩
        have := normal_vars hv
        have := vars_le r
        omega
theorem det_fine {x y : Option Form} {R : Form} (h : det x y = some R) : Fine R := by
  cases x with
  | none => cases h
  | some F =>
    cases y with
    | none => cases h
    | some G => exact detach_fine (F := F) (G := G) h
/-- a text as the program holds it -/
structure TOk (t : Text_) : Prop where
  ax : ∀ a ∈ t.axioms, normal a.f = a.f ∧ size a.f ≤ 40
  go : ∀ g ∈ t.goals, normal g = g ∧ size g ≤ 40
  na : t.axioms.length ≤ 6
  nr : t.rows.length ≤ 24
  ng : t.goals.length ≤ 4
  rw : ∀ (k : Nat) (r : Row), t.rows[k]? = some r → r.i < t.axioms.length + k ∧ r.j < t.axioms.length + k
  nma : ∀ a ∈ t.axioms, a.name.length ≤ 16
  nmr : ∀ r ∈ t.rows, r.name.length ≤ 16
/-- the formulas with so many rows done -/
def fsTo (t : Text_) (k : Nat) : List (Option Form) := (t.rows.take k).foldl addRow (t.axioms.map fun a => some (normal a.f))
def tsTo (t : Text_) (k : Nat) : List (Nat × Nat) := (t.rows.take k).foldl addSize (t.axioms.map fun _ => (0, 0))
theorem fsTo_all (t : Text_) : fsTo t t.rows.length = formulas t := by rw [fsTo, List.take_length]; rfl
theorem tsTo_all (t : Text_) : tsTo t t.rows.length = treeSizes t := by rw [tsTo, List.take_length]; rfl
theorem take_snoc {A : Type} {l : List A} {k : Nat} {x : A} (h : l[k]? = some x) : l.take (k + 1) = l.take k ++ [x] := by
  rw [List.take_add_one, h]
  rfl
theorem fsTo_step {t : Text_} {k : Nat} {r : Row} (h : t.rows[k]? = some r) : fsTo t (k + 1) = fsTo t k ++ [det (((fsTo t k)[r.i]?).getD none) (((fsTo t k)[r.j]?).getD none)] := by
  rw [fsTo, take_snoc h, List.foldl_append]
  rfl
theorem tsTo_step {t : Text_} {k : Nat} {r : Row} (h : t.rows[k]? = some r) : tsTo t (k + 1) = tsTo t k ++ [(((tsTo t k).getD r.i (0, 0)).1 + ((tsTo t k).getD r.j (0, 0)).1 + 1, Nat.max ((tsTo t k).getD r.i (0, 0)).2 ((tsTo t k).getD r.j (0, 0)).2 + 1)] := by
  rw [tsTo, take_snoc h, List.foldl_append]
  rfl
theorem get_of_lt {A : Type} {l : List A} {k : Nat} (h : k < l.length) : l[k]? = some l[k] := List.getElem?_eq_getElem h
theorem fsTo_len (t : Text_) : ∀ k, k ≤ t.rows.length → (fsTo t k).length = t.axioms.length + k
  | 0, _ => by simp [fsTo]
  | k + 1, h => by
    rw [fsTo_step (get_of_lt (show k < t.rows.length by omega)), List.length_append, fsTo_len t k (by omega)]
    rfl
theorem tsTo_len (t : Text_) : ∀ k, k ≤ t.rows.length → (tsTo t k).length = t.axioms.length + k
  | 0, _ => by simp [tsTo]
  | k + 1, h => by
    rw [tsTo_step (get_of_lt (show k < t.rows.length by omega)), List.length_append, tsTo_len t k (by omega)]
    rfl
theorem formulas_len (t : Text_) : (formulas t).length = count t := by rw [← fsTo_all, fsTo_len t _ (Nat.le_refl _)]; rfl
theorem treeSizes_len (t : Text_) : (treeSizes t).length = count t := by rw [← tsTo_all, tsTo_len t _ (Nat.le_refl _)]; rfl
theorem fsTo_fine {t : Text_} (h : TOk t) : ∀ k, k ≤ t.rows.length → ∀ F, some F ∈ fsTo t k → Fine F
  | 0, _, F, hF => by
    simp only [fsTo, List.take_zero, List.foldl_nil, List.mem_map] at hF
    obtain ⟨a, ha, e⟩ := hF
    obtain ⟨h1, h2⟩ := h.ax a ha
    rw [h1] at e
    cases e
    exact fine_normal h1 (by omega)
  | k + 1, hk, F, hF => by
    rw [fsTo_step (get_of_lt (show k < t.rows.length by omega)), List.mem_append] at hF
    rcases hF with hF | hF
    · exact fsTo_fine h k (by omega) F hF
    · have e := List.mem_singleton.mp hF
      exact det_fine e.symm
theorem count_le {t : Text_} (h : TOk t) : count t ≤ 30 := by have := h.na; have := h.nr; simp only [count]; omega
/-! ### the first that proves a goal -/
theorem find_range {A : Type} (p : A → Bool) (l : List A) : (List.range l.length).find? (fun i => (l[i]?).any p) = l.findIdx? p := by
  cases h : l.findIdx? p with
  | none =>
    rw [List.findIdx?_eq_none_iff] at h
    rw [List.find?_eq_none]
    intro i hi
    rw [List.mem_range] at hi
    rw [get_of_lt hi]
    simp [h _ (List.getElem_mem hi)]
  | some k =>
    rw [List.findIdx?_eq_some_iff_getElem] at h
    obtain ⟨hk, h1, h2⟩ := h
    rw [List.find?_range_eq_some]
    refine ⟨by rw [get_of_lt hk]; exact h1, by simpa using hk, fun j hj => ?_⟩
    rw [get_of_lt (show j < l.length by omega)]
    have := h2 j hj
    simpa using this
theorem targets_eq (t : Text_) : targets t = t.goals.map (firstAsGeneral (formulas t)) := by
  unfold targets firstAsGeneral
  refine List.map_congr_left fun g _ => ?_
  rw [← formulas_len t, ← find_range]
  congr 1
  funext i
  unfold provesIn
  cases (formulas t)[i]? with
  | none => rfl
  | some x => rfl
/-! ### what's needed -/
theorem needsBy_succ {t : Text_} {n : Nat} {r : Row} (h : t.rows[n]? = some r) (l : List Nat) : needsBy t (n + 1) l = if l.contains (t.axioms.length + n) = true then needsBy t n (l ++ [r.i, r.j]) else needsBy t n l := by
  rw [needsBy, h]
theorem needsBy_none {t : Text_} {n : Nat} (h : t.rows[n]? = none) (l : List Nat) : needsBy t (n + 1) l = needsBy t n l := by
  rw [needsBy, h]
theorem needsBy_mem (t : Text_) (k : Nat) : ∀ (n : Nat) (l : List Nat), k ∈ needsBy t n l ↔ ∃ i ∈ l, k ∈ needsBy t n [i]
  | 0, l => by simp [needsBy]
  | n + 1, l => by
    cases hr : t.rows[n]? with
    | none =>
      rw [needsBy_none hr, needsBy_mem t k n l]
      simp only [needsBy_none hr]
    | some r =>
      have one : ∀ i, k ∈ needsBy t (n + 1) [i] ↔ (k ∈ needsBy t n [i] ∨ (i = t.axioms.length + n ∧ (k ∈ needsBy t n [r.i] ∨ k ∈ needsBy t n [r.j]))) := by
        intro i
        rw [needsBy_succ hr]
        by_cases e : i = t.axioms.length + n
        · subst e
          rw [if_pos (by simp), needsBy_mem t k n]
          simp
        · rw [if_neg (by simp; omega)]
          simp [e]
      rw [needsBy_succ hr]
      simp only [one]
      by_cases c : t.axioms.length + n ∈ l
      · rw [if_pos (by simpa using c), needsBy_mem t k n]
        constructor
        · rintro ⟨i, hi, h⟩
          simp only [List.mem_append, List.mem_cons, List.not_mem_nil, or_false] at hi
          rcases hi with hi | rfl | rfl
          · exact ⟨i, hi, .inl h⟩
          · exact ⟨_, c, .inr ⟨rfl, .inl h⟩⟩
          · exact ⟨_, c, .inr ⟨rfl, .inr h⟩⟩
        · rintro ⟨i, hi, h | ⟨_, h | h⟩⟩
          · exact ⟨i, by simp [hi], h⟩
          · exact ⟨r.i, by simp, h⟩
          · exact ⟨r.j, by simp, h⟩
      · rw [if_neg (by simpa using c), needsBy_mem t k n]
        constructor
        · rintro ⟨i, hi, h⟩
          exact ⟨i, hi, .inl h⟩
        · rintro ⟨i, hi, h | ⟨e, _⟩⟩
          · exact ⟨i, hi, h⟩
          · exact absurd (e ▸ hi) c
/-- the rows wanted, from the items that are wanted behind all rows -/
def rowsOf (t : Text_) (l : List Nat) : List Nat := (List.range' t.axioms.length t.rows.length).filter fun k => (needsBy t t.rows.length l).contains k
theorem filter_range_ge (n m : Nat) (p : Nat → Bool) : (List.range (n + m)).filter (fun k => decide (n ≤ k) && p k) = (List.range' n m).filter p := by
  have e : List.range (n + m) = List.range n ++ List.range' n m := by
    rw [List.range_eq_range', List.range_eq_range', ← List.range'_append (s := 0) (m := n) (n := m) (step := 1)]
    simp
  rw [e, List.filter_append]
  have h1 : (List.range n).filter (fun k => decide (n ≤ k) && p k) = [] := by
    rw [List.filter_eq_nil_iff]
    intro a ha
    rw [List.mem_range] at ha
    have : decide (n ≤ a) = false := decide_eq_false (by omega)
    simp [this]
  rw [h1, List.nil_append]
  refine List.filter_congr fun a ha => ?_
  rw [List.mem_range'_1] at ha
  rw [decide_eq_true ha.1, Bool.true_and]
theorem neededRows_eq (t : Text_) (l is : List Nat) (h : ∀ k, k ∈ l ↔ k ∈ is) : rowsOf t l = neededRows t is := by
  unfold rowsOf neededRows
  show _ = (List.range (t.axioms.length + t.rows.length)).filter _
  rw [filter_range_ge t.axioms.length t.rows.length (fun k => is.any fun i => (needs t i).contains k)]
  refine List.filter_congr fun a ha => ?_
  rw [List.mem_range'_1] at ha
  rw [Bool.eq_iff_iff, List.any_eq_true]
  simp only [List.contains_iff_mem]
  rw [needsBy_mem]
  constructor
  · rintro ⟨i, hi, hk⟩
    refine ⟨i, (h i).mp hi, ?_⟩
    unfold needs
    rw [List.mem_filter, List.mem_range]
    exact ⟨by simp only [count]; omega, by simpa using hk⟩
  · rintro ⟨i, hi, hk⟩
    unfold needs at hk
    rw [List.mem_filter] at hk
    exact ⟨i, (h i).mpr hi, by simpa using hk.2⟩
end SP
end
section
set_option Elab.async false
set_option linter.all false
set_option maxRecDepth 100000
set_option maxHeartbeats 4000000
namespace SPW
open PySem PySem.Spec PyProof.Rows L2
open SP (ci co cis subs Bd look dom app wk wn Valid Dfs free Ms MOk tok Fine det)
open Vapcma (Form)
variable {P : Program} {w : World} {K : PySem.W.Frag} {mg : Str → Option Value} {base : Heap}
/-- detached(f, g) -/
def sp_detached (K : PySem.W.Frag) : Sp := fun vs H Q _ => ∃ (a b : Addr) (x y : Option Form), vs = [.ref a, .ref b] ∧ SqT K H a (vis (co x)) ∧ SqT K H b (vis (co y)) ∧ (∀ F, x = some F → Fine F) ∧ (∀ F, y = some F → Fine F) ∧
  ∀ H' p, Same H H' → SqT K H' p (vis (co (det x y))) → Q (.ref p) H'
abbrev N_detached : List Str := ["f", "g", "middle", "first", "behind", "puts"]
theorem sc_detached : FnScope N_detached ["f", "g"] (defScope s_detached) := ⟨rfl, rfl, rfl, by decide +kernel, rfl, by decide +kernel, by decide +kernel⟩
theorem g_detached (T : Tx K mg) : GFn P w K mg base CX0 8 "detached" ["f", "g"] (sp_detached K) := by
  have g_part_end : GFn P w K mg base CX0 1 "part_end" ["f", "start"] (sp_part_end K) := g_part_end T
  have g_numbered : GFn P w K mg base CX0 3 "numbered" ["f"] (sp_numbered K) := g_numbered T
  have g_shifted : GFn P w K mg base CX0 3 "shifted" ["f", "more"] (sp_shifted K) := g_shifted T
  have g_Puts_init : GMk P w K mg base CX0 1 "Puts" (He.ga K "Puts") ["self"] (sp_Puts_init K) := g_Puts_init T
  have g_Puts_make_same : GMe P w K mg base CX0 7 (He.ga K "Puts") "make_same" ["self", "f", "g"] (sp_Puts_make_same K) := g_Puts_make_same T
  have g_Puts_is_longer : GMe P w K mg base CX0 3 (He.ga K "Puts") "is_longer" ["self", "f", "most"] (sp_Puts_is_longer K) := g_Puts_is_longer T
  have g_Puts_put_in : GMe P w K mg base CX0 3 (He.ga K "Puts") "put_in" ["self", "f"] (sp_Puts_put_in K) := g_Puts_put_in T
  refine gfn0 (f_detached T) (t_detached T) sc_detached (fun _ _ _ _ _ _ us hl => match us, hl with | [_, _], _ => rfl) (fun vs H Q E h => ?_) (fun f cdv A outer s H vs Q E hr h => ⟨_, (pss_cons (ps_if (PW.pt (pw_or (pt_cmpR (op_eqDK K hr.units) (pv 0) (pe_ca1 (t_NO_FORMULA T)) (nomark _)) (pw_or (pt_cmpR (op_eqDK K hr.units) (pv 1) (pe_ca1 (t_NO_FORMULA T)) (nomark _)) (pw_or1 (pt_cmpR op_eq (pe_ix (ix_tupK K) (pv 0) pe_int1 (fun _ _ => rfl)) (pe_ci1 (t_DENIED T)) (nomark _)))))) (pss_one (ps_ret (pe_ca1 (t_NO_FORMULA T))))
  pss_nil)
  (pss_cons (ps_if (pt_cmpR op_eq (pe_ix (ix_tupK K) (pv 0) pe_int1 (fun _ _ => rfl)) (pe_ci1 (t_UNKNOWN T)) (nomark _)) (pss_one (ps_ret (pe_tup (pa_cons (pe_ci1 (t_UNKNOWN T)) (pa_cons pe_int1 pa_nil1)))))
  pss_nil)
  (pss_cons (ps_set (i := 2) sc_detached.nd rfl (Or.inl rfl) (pe_fn g_part_end (hr.mono (by decide)) pass0 (pa_cons (pv 0) (pa_cons pe_int1 pa_nil1))))
  (pss_cons (ps_set (i := 3) sc_detached.nd rfl (Or.inl rfl) (pe_slice (sl_tupK K) (pv 0) (po_some pe_int1) (po_some (pv 2))))
  (pss_cons (ps_set (i := 4) sc_detached.nd rfl (Or.inl rfl) (pe_slice (sl_tupK K) (pv 0) (po_some (pv 2)) po_none1))
  (pss_cons (ps_set (i := 5) sc_detached.nd rfl (Or.inl rfl) (pe_mk0 g_Puts_init (hr.mono (by decide)) pass0))
  (pss_cons (ps_if (pt_not (pt_val (pe_me (pv 5) (c_Puts T) g_Puts_make_same (hr.mono (by decide)) pass0 (pa_cons (pv 3) (pa_cons (pe_fn g_shifted (hr.mono (by decide)) pass0 (pa_cons (pv 1) (pa_cons (pe_ci1 (t_APART T)) pa_nil1))) pa_nil1))))) (pss_one (ps_ret (pe_ca1 (t_NO_FORMULA T))))
  pss_nil)
  (pss_cons (ps_if (PW.pt (pw_or (pt_val (pe_me (pv 5) (c_Puts T) g_Puts_is_longer (hr.mono (by decide)) pass0 (pa_cons (pv 3) (pa_cons (pe_ci1 (t_MOST_FIRST T)) pa_nil1)))) (pw_or1 (pt_val (pe_me (pv 5) (c_Puts T) g_Puts_is_longer (hr.mono (by decide)) pass0 (pa_cons (pv 4) (pa_cons (pe_ci1 (t_MOST_DETACHED T)) pa_nil1))))))) (pss_one (ps_ret (pe_ca1 (t_NO_FORMULA T))))
  pss_nil)
  (pss_one (ps_ret (pe_fn g_numbered (hr.mono (by decide)) pass0 (pa_cons (pe_me (pv 5) (c_Puts T) g_Puts_put_in (hr.mono (by decide)) pass0 (pa_cons (pv 4) pa_nil1)) pa_nil1)))))))))))), ?_⟩)
  · obtain ⟨a, b, x, y, rfl, _⟩ := h
    rfl
  · obtain ⟨a, b, x, y, rfl, hA, hB, fx, fy, k⟩ := h
    have hno : ∀ H', Same H H' → det x y = none → Q (.ref (He.ga K "NO_FORMULA")) H' := by
      intro H' s e
      refine k H' _ s ?_
      rw [e]
      exact u_NO_FORMULA T _
    refine ⟨_, rfl, _, _, dp_tup hA, dp_tup (l := []) (u_NO_FORMULA T _), dI_shaped _, dI_shaped _, _, rfl, ?_⟩
    rw [eqv_dI]
    cases x with
    | none =>
      refine if_true_of (by simp [co]) ?_
      refine if_true_of rfl ?_
      exact hno H (Same.refl H) rfl
    | some F =>
      refine if_false_of (by simp [co, SP.ci_ne]) ?_
      refine ⟨_, rfl, _, _, dp_tup hB, dp_tup (l := []) (u_NO_FORMULA T _), dI_shaped _, dI_shaped _, _, rfl, ?_⟩
      rw [eqv_dI]
      cases y with
      | none =>
        refine if_true_of (by simp [co]) ?_
        refine if_true_of rfl ?_
        exact hno H (Same.refl H) rfl
      | some G =>
        refine if_false_of (by simp [co, SP.ci_ne]) ?_
        refine ⟨_, rfl, a, _, 0, _, rfl, rfl, hA, vis_at (j := 0) (SP.ci_hd F), rfl, _, rfl, ?_⟩
        obtain ⟨sF, vF⟩ := fx F rfl
        obtain ⟨sG, vG⟩ := fy G rfl
        cases F with
        | neg f1 =>
          refine if_true_of (int_eq 2) ?_
          exact hno H (Same.refl H) rfl
        | var v =>
          refine if_false_of (int_ne (i := 0) (by decide)) ?_
          refine ⟨_, rfl, a, _, 0, _, rfl, rfl, hA, vis_at (j := 0) (SP.ci_hd _), rfl, _, rfl, ?_⟩
          refine if_true_of (int_eq 0) ?_
          refine ⟨small_size (by simp), fun t ht => ?_⟩
          exact k _ t (Same.new ht) (SqT.of upd_same)
        | imp f1 f2 =>
          refine if_false_of (int_ne (i := 1) (by decide)) ?_
          refine ⟨_, rfl, a, _, 0, _, rfl, rfl, hA, vis_at (j := 0) (SP.ci_hd _), rfl, _, rfl, ?_⟩
          refine if_false_of (int_ne (i := 1) (by decide)) ?_
          obtain ⟨n, r, hMs, hr1, hr2⟩ := SP.detach_run (a := f1) (b := f2) (G := G) (m := 60) ⟨sF, sG⟩ (by decide) vF
          refine ⟨_, rfl, a, ci (.imp f1 f2), [1], ci f2, f1, rfl, hA, by simp [co, SP.ci_imp], ?_⟩
          refine ⟨_, rfl, _, rfl, _, rfl, _, rfl, ?_⟩
          refine slA hA (pre := [1]) (mid := ci f1) (suf := ci f2) (by simp [co, SP.ci_imp]) (by rfl) (by rfl) fun q H1 s1 hq => ?_
          refine ⟨_, rfl, _, rfl, _, rfl, ?_⟩
          refine slE (s1.tup hA) (pre := 1 :: ci f1) (mid := ci f2) (by simp [co, SP.ci_imp]) (by simp; omega) fun q2 H2 s2 hq2 => ?_
          intro xo dx hxo hdx hne
          have s3 : Same H2 (upd (upd H2 dx (.own xo)) xo (.ins (He.ga K "Puts") dx [])) := (Same.new hdx).mut hxo
          refine ⟨xo, dx, rfl, upd_same, fun H3 d b3 hd0 hP => ⟨rfl, ?_⟩⟩
          have hd2 : H2 d = none := s3.free hd0
          have s4 : Same H2 H3 := (But.cutS b3 s3 hxo).same
          obtain ⟨dx3, kvs3, hx3, hd3, _⟩ := id hP
          have s5 := s2.trans s4
          have s6 := s1.trans s5
          refine ⟨_, rfl, xo, dx3, _, rfl, hx3, rfl, _, rfl, _, rfl, b, G, 1000, rfl, s6.tup hB, by have := SP.ci_le G; omega, fun H4 p4 s7 hp4 => ?_⟩
          have s8 := s6.trans s7
          have hdn : H d = none := (s1.trans s2).free hd2
          refine ⟨xo, d, q, p4, f1, _, 60, n, r, rfl, hP.same s7, by decide, (s5.trans s7).tup hq, hp4, hMs, ?_, ?_⟩
          · intro e H5 b5
            refine ⟨_, rfl, ?_⟩
            refine if_true_of rfl ?_
            exact hno H5 (But.cutS b5 s8 hdn).same (hr1 e)
          · intro R e H5 b5 hP5
            refine ⟨_, rfl, ?_⟩
            refine if_false_of rfl ?_
            obtain ⟨hok, hdet⟩ := hr2 R e
            have s9 : Same H H5 := (But.cutS b5 s8 hdn).same
            have md : Mut H4 [d] := Mut.one (.inr ⟨_, s7 _ _ hd3⟩)
            have hq5 : SqT K H5 q (vis (ci f1)) := b5.tup md ((s5.trans s7).tup hq)
            have hq25 : SqT K H5 q2 (vis (ci f2)) := b5.tup md ((s4.trans s7).tup hq2)
            obtain ⟨dx5, kvs5, hx5, hd5, _⟩ := id hP5
            refine ⟨_, rfl, xo, dx5, _, rfl, hx5, rfl, _, rfl, xo, d, q, R, f1, 1000, rfl, hP5, hok.valid, by decide, hq5, fun H6 s10 => ⟨_, rfl, ?_⟩⟩
            by_cases c1 : 1000 < Vapcma.size (app R f1)
            · refine if_true_of (decide_eq_true c1) ?_
              refine if_true_of rfl ?_
              exact hno H6 (s9.trans s10) (hdet.trans (if_pos (.inl c1)))
            refine if_false_of (decide_eq_false c1) ?_
            have hP6 := hP5.same s10
            obtain ⟨dx6, kvs6, hx6, hd6, _⟩ := id hP6
            refine ⟨_, rfl, xo, dx6, _, rfl, hx6, rfl, _, rfl, xo, d, q2, R, f2, 60, rfl, hP6, hok.valid, by decide, s10.tup hq25, fun H7 s11 => ⟨_, rfl, ?_⟩⟩
            by_cases c2 : 60 < Vapcma.size (app R f2)
            · refine if_true_of (decide_eq_true c2) ?_
              exact hno H7 ((s9.trans s10).trans s11) (hdet.trans (if_pos (.inr c2)))
            refine if_false_of (decide_eq_false c2) ?_
            have hP7 := hP6.same s11
            obtain ⟨dx7, kvs7, hx7, hd7, _⟩ := id hP7
            refine ⟨_, rfl, xo, dx7, _, rfl, hx7, rfl, _, rfl, xo, d, q2, R, f2, rfl, hP7, hok.valid, by omega, (s10.trans s11).tup hq25, fun H8 p8 s12 hp8 => ?_⟩
            refine ⟨p8, app R f2, rfl, hp8, by have := SP.ci_le (app R f2); omega, fun H9 p9 s13 hp9 => ?_⟩
            refine k H9 p9 ((((s9.trans s10).trans s11).trans s12).trans s13) ?_
            have e2 : det (some (.imp f1 f2)) (some G) = some (Vapcma.normal (app R f2)) := hdet.trans (if_neg (fun c => c.elim c1 c2))
            rw [e2]
            exact hp9
end SPW
end
section
set_option autoImplicit false
set_option linter.all false
namespace SP
open VapcmBase (Bytes word showNat)
open Vapcma (Form size vars showForm Text_ shown nameAt Axiom Row line)
/-- bytes as numbers -/
def ni (b : Bytes) : List Int := b.map fun c => (c.toNat : Int)
theorem ni_len (b : Bytes) : (ni b).length = b.length := List.length_map _
theorem ni_append (a b : Bytes) : ni (a ++ b) = ni a ++ ni b := List.map_append
theorem ni_inj : ∀ {a b : Bytes}, ni a = ni b → a = b
  | [], [], _ => rfl
  | [], _ :: _, h => by simp [ni] at h
  | _ :: _, [], h => by simp [ni] at h
  | x :: a, y :: b, h => by
    simp only [ni, List.map_cons, List.cons.injEq] at h
    have e : x.toNat = y.toNat := by omega
    rw [UInt8.toNat_inj.mp e, ni_inj (a := a) (b := b) h.2]
/-- a part shown within a longer one -/
def gB (F : Form) : Bytes := match F with
  | .imp _ _ => word "( " ++ (showForm F ++ word " )")
  | _ => showForm F
theorem show_neg (a : Form) : showForm (.neg a) = word "~ " ++ gB a := by
  cases a <;> simp only [showForm, gB]
theorem show_imp (a b : Form) : showForm (.imp a b) = gB a ++ (word " > " ++ showForm b) := by
  cases a <;> simp only [showForm, gB]
theorem showNat_len {v : Nat} (h : v < 1000) : (showNat v).length ≤ 3 := by
  have : ∀ v : Fin 1000, (showNat v.val).length ≤ 3 := by decide +kernel
  exact this ⟨v, h⟩
theorem show_len : ∀ F : Form, (∀ v ∈ vars F, v < 1000) → (showForm F).length + 4 ≤ 10 * size F ∧ (gB F).length ≤ 10 * size F
  | .var v, h => by
    have h1 := showNat_len (h v (by simp [vars]))
    have h2 : (word "x").length = 1 := by decide
    simp only [gB, showForm, List.length_append, h2, size]
    omega
  | .neg a, h => by
    have := show_len a fun v hv => h v (by simpa [vars] using hv)
    have h2 : (word "~ ").length = 2 := by decide
    have e : gB (.neg a) = showForm (.neg a) := rfl
    rw [e, show_neg]
    simp only [List.length_append, h2, size]
    omega
  | .imp a b, h => by
    have := show_len a fun v hv => h v (by simp [vars, hv])
    have := show_len b fun v hv => h v (by simp [vars, hv])
    have h2 : (word " > ").length = 3 := by decide
    have h3 : (word "( ").length = 2 := by decide
    have h4 : (word " )").length = 2 := by decide
    have e : gB (.imp a b) = word "( " ++ (showForm (.imp a b) ++ word " )") := rfl
    rw [e, show_imp]
    simp only [List.length_append, h2, h3, h4, size]
    omega
theorem ni_showNat (v : Nat) : ni (showNat v) = (Nat.toDigits 10 v).map fun c => (c.toNat : Int) := by
  unfold ni showNat
  rw [List.map_map]
  refine List.map_congr_left fun c hc => ?_
  have h := Nat.isDigit_of_mem_toDigits (by decide : 0 < 10) (by decide) hc
  have : c.toNat ≤ 57 := by
    simp only [Char.isDigit, Bool.and_eq_true, decide_eq_true_eq] at h
    have := h.2
    exact this
  show (((UInt8.ofNat c.toNat).toNat : Nat) : Int) = _
  rw [UInt8.toNat_ofNat']
  have e : c.toNat % 2 ^ 8 = c.toNat := Nat.mod_eq_of_lt (by omega)
  rw [e]
/-! ### the lines -/
def axL (a : Axiom) : Bytes := line (word "axiom " ++ (a.name ++ (word " : " ++ (showForm a.f ++ word " ;"))))
def rwL (t : Text_) (r : Row) : Bytes := line (word "row " ++ (r.name ++ (word " : " ++ (nameAt t r.i ++ (word ", " ++ (nameAt t r.j ++ word " ;"))))))
def goL (g : Form) : Bytes := line (word "goal " ++ (showForm g ++ word " ;"))
theorem shown_eq (t : Text_) : shown t = t.axioms.flatMap axL ++ (t.rows.flatMap (rwL t) ++ t.goals.flatMap goL) := rfl
theorem wEnd : word " ;\n" = word " ;" ++ [10] := by decide
theorem axL_eq (a : Axiom) : axL a = word "axiom " ++ a.name ++ word " : " ++ showForm a.f ++ word " ;\n" := by
  rw [wEnd]
  simp [axL, line, List.append_assoc]
theorem rwL_eq (t : Text_) (r : Row) : rwL t r = word "row " ++ r.name ++ word " : " ++ nameAt t r.i ++ word ", " ++ nameAt t r.j ++ word " ;\n" := by
  rw [wEnd]
  simp [rwL, line, List.append_assoc]
theorem goL_eq (g : Form) : goL g = word "goal " ++ showForm g ++ word " ;\n" := by
  rw [wEnd]
  simp [goL, line, List.append_assoc]
end SP
end
section
set_option Elab.async false
set_option linter.all false
set_option maxRecDepth 100000
set_option maxHeartbeats 4000000
namespace SPW
open PySem PySem.Spec PyProof.Rows L2
open SP (ci co TOk Fine det fsTo tsTo ni)
open Vapcma (Form Text_ formulas treeSizes)
def nms (t : Text_) : List VapcmBase.Bytes := t.axioms.map (fun a => a.name) ++ t.rows.map fun r => r.name
def pr (r : Vapcma.Row) : List Int := [(r.i : Int), (r.j : Int)]
abbrev txF (nm pa gl fo st : Addr) (n : Nat) : List (Str × V) := [("names", .ref nm), ("axioms", .int (n : Int)), ("pairs", .ref pa), ("goals", .ref gl), ("formulas", .ref fo), ("steps", .ref st)]
/-- what a text is built from -/
structure Parts (K : PySem.W.Frag) (H : Hp) (nm pa gl : Addr) (t : Text_) : Prop where
  nm : ∃ ns, SqL K H nm (vr ns) ∧ TupsAt K H ns ((nms t).map ni)
  pa : ∃ ps, SqL K H pa (vr ps) ∧ TupsAt K H ps (t.rows.map pr)
  gl : ∃ gs, SqL K H gl (vr gs) ∧ TupsAt K H gs (t.goals.map ci)
structure TextIn (K : PySem.W.Frag) (H : Hp) (x dx nm pa gl fo st : Addr) (t : Text_) : Prop where
  ok : TOk t
  at_ : H x = some (.ins (He.ga K "ProofText") dx (txF nm pa gl fo st t.axioms.length))
  parts : Parts K H nm pa gl t
  fo : FsAt K H fo (formulas t)
  st : SqL K H st (vn ((treeSizes t).map fun p => p.1))
def TextAt (K : PySem.W.Frag) (H : Hp) (x : Addr) (t : Text_) : Prop := ∃ dx nm pa gl fo st, TextIn K H x dx nm pa gl fo st t
theorem Parts.same {K : PySem.W.Frag} {H H' : Hp} {nm pa gl : Addr} {t : Text_} (h : Parts K H nm pa gl t) (e : Same H H') : Parts K H' nm pa gl t := by
  obtain ⟨⟨a, a1, a2⟩, ⟨b, b1, b2⟩, ⟨c, c1, c2⟩⟩ := h
  exact ⟨⟨a, e.seq a1, a2.same e⟩, ⟨b, e.seq b1, b2.same e⟩, ⟨c, e.seq c1, c2.same e⟩⟩
theorem TextIn.same {K : PySem.W.Frag} {H H' : Hp} {x dx nm pa gl fo st : Addr} {t : Text_} (h : TextIn K H x dx nm pa gl fo st t) (e : Same H H') : TextIn K H' x dx nm pa gl fo st t :=
  ⟨h.ok, e _ _ h.at_, h.parts.same e, h.fo.same e, e.seq h.st⟩
theorem TextAt.same {K : PySem.W.Frag} {H H' : Hp} {x : Addr} {t : Text_} (h : TextAt K H x t) (e : Same H H') : TextAt K H' x t := by
  obtain ⟨dx, nm, pa, gl, fo, st, h⟩ := h
  exact ⟨dx, nm, pa, gl, fo, st, h.same e⟩
/-! ### all but an instance is kept -/
def InsAt (H : Hp) (x : Addr) : Prop := ∃ C dx fs, H x = some (.ins C dx fs)
theorem ins_ne {H : Hp} {x a : Addr} {u : HO} (h : InsAt H x) (e : H a = some u) (n : ∀ C dx fs, u ≠ .ins C dx fs) : a ∉ [x] := fun m => by
  have z : a = x := by simpa using m
  obtain ⟨C, dx, fs, q⟩ := h
  rw [z, q] at e
  exact n _ _ _ (Option.some.inj e).symm
theorem But.tupI {K : PySem.W.Frag} {H H' : Hp} {x a : Addr} {xs : List V} (b : But [x] H H') (h : InsAt H x) (t : SqT K H a xs) : SqT K H' a xs := by
  rcases t with (t | ⟨o, t⟩) | t
  · exact .inl (.inl (b _ _ (ins_ne h t fun _ _ _ z => nomatch z) t))
  · exact .inl (.inr ⟨o, b _ _ (ins_ne h t fun _ _ _ z => nomatch z) t⟩)
  · exact .inr t
theorem But.seqI {K : PySem.W.Frag} {H H' : Hp} {x a : Addr} {xs : List V} (b : But [x] H H') (h : InsAt H x) (t : SqL K H a xs) : SqL K H' a xs := by
  rcases t with (t | ⟨o, t⟩) | t
  · exact .inl (.inl (b _ _ (ins_ne h t fun _ _ _ z => nomatch z) t))
  · exact .inl (.inr ⟨o, b _ _ (ins_ne h t fun _ _ _ z => nomatch z) t⟩)
  · exact .inr t
theorem But.tupsI {K : PySem.W.Frag} {H H' : Hp} {x : Addr} (b : But [x] H H') (h : InsAt H x) : ∀ {as : List Addr} {ls : List (List Int)}, TupsAt K H as ls → TupsAt K H' as ls
  | _, _, .nil => .nil
  | _, _, .cons t r => .cons (b.tupI h t) (But.tupsI b h r)
theorem Parts.butI {K : PySem.W.Frag} {H H' : Hp} {x nm pa gl : Addr} {t : Text_} (h : Parts K H nm pa gl t) (e : But [x] H H') (i : InsAt H x) : Parts K H' nm pa gl t := by
  obtain ⟨⟨a, a1, a2⟩, ⟨b, b1, b2⟩, ⟨c, c1, c2⟩⟩ := h
  exact ⟨⟨a, e.seqI i a1, e.tupsI i a2⟩, ⟨b, e.seqI i b1, e.tupsI i b2⟩, ⟨c, e.seqI i c1, e.tupsI i c2⟩⟩
theorem pf1 (a b : V) : putF "axioms" b [("names", a)] = ([("names", a), ("axioms", b)] : List (Str × V)) := rfl
theorem pf2 (a b c : V) : putF "pairs" c [("names", a), ("axioms", b)] = ([("names", a), ("axioms", b), ("pairs", c)] : List (Str × V)) := rfl
theorem pf3 (a b c d : V) : putF "goals" d [("names", a), ("axioms", b), ("pairs", c)] = ([("names", a), ("axioms", b), ("pairs", c), ("goals", d)] : List (Str × V)) := rfl
theorem pf4 (a b c d e : V) : putF "formulas" e [("names", a), ("axioms", b), ("pairs", c), ("goals", d)] = ([("names", a), ("axioms", b), ("pairs", c), ("goals", d), ("formulas", e)] : List (Str × V)) := rfl
theorem pf5 (a b c d e f : V) : putF "steps" f [("names", a), ("axioms", b), ("pairs", c), ("goals", d), ("formulas", e)] = ([("names", a), ("axioms", b), ("pairs", c), ("goals", d), ("formulas", e), ("steps", f)] : List (Str × V)) := rfl
section
variable (nm pa gl fo st : Addr) (n : Nat)
theorem lk_names : (txF nm pa gl fo st n).lookup ("names" : Str) = some (.ref nm) := rfl
theorem lk_axioms : (txF nm pa gl fo st n).lookup ("axioms" : Str) = some (.int (n : Int)) := rfl
theorem lk_pairs : (txF nm pa gl fo st n).lookup ("pairs" : Str) = some (.ref pa) := rfl
theorem lk_goals : (txF nm pa gl fo st n).lookup ("goals" : Str) = some (.ref gl) := rfl
theorem lk_formulas : (txF nm pa gl fo st n).lookup ("formulas" : Str) = some (.ref fo) := rfl
theorem lk_steps : (txF nm pa gl fo st n).lookup ("steps" : Str) = some (.ref st) := rfl
end
theorem ts0 (t : Text_) : (tsTo t 0).map (fun p => p.1) = List.replicate t.axioms.length 0 := by
  rw [tsTo, List.take_zero, List.foldl_nil, List.map_map]
  induction t.axioms with
  | nil => rfl
  | cons a l ih => rw [List.map_cons, ih]; rfl
theorem rep_zero (n : Nat) : (List.replicate n [V.int 0]).flatten = vn (List.replicate n 0) := by
  induction n with
  | zero => rfl
  | succ n ih => rw [List.replicate_succ, List.flatten_cons, ih]; rfl
theorem rep_bl (n : Nat) (b : Bool) : (List.replicate n [V.bl b]).flatten = (List.replicate n b).map V.bl := by
  induction n with
  | zero => rfl
  | succ n ih => rw [List.replicate_succ, List.flatten_cons, ih]; rfl
/-- an item's formula at its place -/
theorem FsAt.at_ {K : PySem.W.Frag} {H : Hp} {as : List Addr} {fs : List (Option Form)} (t : TupsAt K H as (fs.map co)) {i : Nat} (hi : i < fs.length) : ∃ a, atI (vr as) (i : Int) = some (.ref a) ∧ SqT K H a (vis (co (fs[i]?.getD none))) := by
  have e : fs[i]? = some fs[i] := List.getElem?_eq_getElem hi
  obtain ⟨a, h1, h2⟩ := t.get' (i := i) (l := co fs[i]) (by rw [List.getElem?_map, e]; rfl)
  exact ⟨a, atI_nat (vr_get h1), by rw [e]; exact h2⟩
theorem vn_at {l : List Nat} {j i : Nat} (h : l[j]? = some i) : atI (vn l) (j : Int) = some (V.int (i : Int)) := atI_nat (vn_get h)
end SPW
end
section
set_option Elab.async false
set_option linter.all false
set_option maxRecDepth 100000
set_option maxHeartbeats 4000000
namespace SPW
open PySem PySem.Spec PyProof.Rows L2
open SP (ci co TOk Fine det fsTo tsTo)
open Vapcma (Form Text_ formulas treeSizes)
variable {P : Program} {w : World} {K : PySem.W.Frag} {mg : Str → Option Value} {base : Heap}
/-- ProofText(names, axiom_formulas, pairs, goals) -/
def sp_ProofText_init (K : PySem.W.Frag) : Sp := fun vs H Q _ => ∃ (x dx nm af pa gl : Addr) (t : Text_) (as : List Addr), vs = [.ref x, .ref nm, .ref af, .ref pa, .ref gl] ∧ H x = some (.ins (He.ga K "ProofText") dx []) ∧ TOk t ∧ Parts K H nm pa gl t ∧
  SqL K H af (vr as) ∧ TupsAt K H as (t.axioms.map fun a => ci a.f) ∧ ∀ H', But [x] H H' → (∃ fo st, TextIn K H' x dx nm pa gl fo st t ∧ H fo = none ∧ H st = none) → Q .non H'
abbrev N_ProofText_init : List Str := ["self", "names", "axiom_formulas", "pairs", "goals", "first", "second"]
theorem sc_ProofText_init : FnScope N_ProofText_init ["self", "names", "axiom_formulas", "pairs", "goals"] (defScope s_ProofText_init) := ⟨rfl, rfl, rfl, by decide +kernel, rfl, by decide +kernel, by decide +kernel⟩
theorem g_ProofText_init (T : Tx K mg) : GMk P w K mg base CX0 9 "ProofText" (He.ga K "ProofText") ["self", "names", "axiom_formulas", "pairs", "goals"] (sp_ProofText_init K) := by
  have g_detached : GFn P w K mg base CX0 8 "detached" ["f", "g"] (sp_detached K) := g_detached T
  refine gmk0 (f_ProofText_init T) (k_ProofText T) (t_ProofText T) sc_ProofText_init (fun _ _ _ _ _ _ us hl => match us, hl with | [_, _, _, _, _], _ => rfl) (fun vs H Q E h => ?_) (fun f cdv A outer s H vs Q E hr h => ⟨_, (pss_cons (ps_fldK K (pv 0) (pv 1))
  (pss_cons (ps_fldK K (pv 0) (pe_callB (call_lenK K) (by rfl) (t_len T) PySem.boot_len (pa_cons (pv 2) pa_nil1)))
  (pss_cons (ps_fldK K (pv 0) (pv 3))
  (pss_cons (ps_fldK K (pv 0) (pv 4))
  (pss_cons (ps_fldK K (pv 0) (pe_callTy (call_listK K) (by rfl) (t_list T) (by decide +kernel) (pa_cons (pv 2) pa_nil1)))
  (pss_cons (ps_fldK K (pv 0) (pe_op op_rep (pe_lst (pa_cons pe_int1 pa_nil1)) (pe_callB (call_lenK K) (by rfl) (t_len T) PySem.boot_len (pa_cons (pv 2) pa_nil1))))
  (pss_one (ps_for PassesOwn.never rfl (pi_listK K (pv 3)) (pg_tupK K (n := 2) rfl (pgs_cons (pg_name (i := 5) sc_ProofText_init.nd rfl (Or.inl rfl)) (pgs_cons (pg_name (i := 6) sc_ProofText_init.nd rfl (Or.inl rfl)) pgs_nil)))
  (pss_cons (ps_expr (pe_bmK K PySem.F.plainAttrs_list PySem.F.slot_list_append PySem.F.type_list_append mt_append (pe_fldK K (pv 0)) (pa_cons (pe_fn g_detached (hr.mono (by decide)) pass0 (pa_cons (pe_ix (ix_listK K) (pe_fldK K (pv 0)) (pv 5) (fun _ _ => rfl)) (pa_cons (pe_ix (ix_listK K) (pe_fldK K (pv 0)) (pv 6) (fun _ _ => rfl)) pa_nil1))) pa_nil1)))
  (pss_one (ps_expr (pe_bmK K PySem.F.plainAttrs_list PySem.F.slot_list_append PySem.F.type_list_append mt_append (pe_fldK K (pv 0)) (pa_cons (pe_op op_add (pe_op op_add (pe_ix (ix_listK K) (pe_fldK K (pv 0)) (pv 5) (fun _ _ => rfl)) (pe_ix (ix_listK K) (pe_fldK K (pv 0)) (pv 6) (fun _ _ => rfl))) pe_int1) pa_nil1))))))))))))), ?_⟩)
  · obtain ⟨x, dx, nm, af, pa, gl, t, as, rfl, _⟩ := h
    rfl
  · obtain ⟨x, dx, nm, af, pa, gl, t, as, rfl, hx, ok, hp, haf, has, k⟩ := h
    have ix : InsAt H x := ⟨_, _, _, hx⟩
    have e0 := has.len
    rw [List.length_map] at e0
    have en := ok.na
    have eN := ok.nr
    refine ⟨_, rfl, _, rfl, x, _, dx, _, rfl, hx, c_ProofText T, n_ProofText_names T, (by decide : ([] : List (Str × V)).length < 1000), ?_⟩
    have up : ∀ (H1 : Hp) (fs : List (Str × V)), But [x] H H1 → But [x] H (upd H1 x (.ins (He.ga K "ProofText") dx fs)) := fun H1 fs b => But.upd b (by simp)
    have b1 : But [x] H (upd H x (.ins (He.ga K "ProofText") dx (putF "names" (.ref nm) []))) := up _ _ (But.refl H)
    refine ⟨_, rfl, af, _, rfl, .inl (b1.seqI ix haf), _, rfl, x, _, dx, _, rfl, upd_same, c_ProofText T, n_ProofText_axioms T, (show (1 : Nat) < 1000 by decide), ?_⟩
    rw [upd_upd, show putF "axioms" (V.int (vr as).length) (putF "names" (V.ref nm) []) = _ from pf1 _ _, vr_len, e0]
    refine ⟨_, rfl, _, rfl, x, _, dx, _, rfl, upd_same, c_ProofText T, n_ProofText_pairs T, (show (2 : Nat) < 1000 by decide), ?_⟩
    rw [upd_upd, pf2]
    refine ⟨_, rfl, _, rfl, x, _, dx, _, rfl, upd_same, c_ProofText T, n_ProofText_goals T, (show (3 : Nat) < 1000 by decide), ?_⟩
    rw [upd_upd, pf3]
    have b2 : But [x] H (upd H x (.ins (He.ga K "ProofText") dx [("names", .ref nm), ("axioms", .int (t.axioms.length : Int)), ("pairs", .ref pa), ("goals", .ref gl)])) := up _ _ (But.refl H)
    have hx2 : upd H x (.ins (He.ga K "ProofText") dx [("names", .ref nm), ("axioms", .int (t.axioms.length : Int)), ("pairs", .ref pa), ("goals", .ref gl)]) x = _ := upd_same
    generalize upd H x (.ins (He.ga K "ProofText") dx [("names", .ref nm), ("axioms", .int (t.axioms.length : Int)), ("pairs", .ref pa), ("goals", .ref gl)]) = H2 at b2 hx2 ⊢
    refine ⟨_, rfl, af, _, rfl, .inl (b2.seqI ix haf), fun fo hfo => ?_⟩
    have hxf : x ≠ fo := ne_of_none hx2 hfo
    have hx3 : upd H2 fo (.lst (vr as)) x = _ := (upd_ne hxf).trans hx2
    refine ⟨_, rfl, x, _, dx, _, rfl, hx3, c_ProofText T, n_ProofText_formulas T, (show (4 : Nat) < 1000 by decide), ?_⟩
    rw [pf4]
    have hfoH : H fo = none := by
      cases e : H fo with
      | none => rfl
      | some u => rw [b2 _ _ (by simpa using Ne.symm hxf) e] at hfo; cases hfo
    have b3 : But [x] H (upd (upd H2 fo (.lst (vr as))) x (.ins (He.ga K "ProofText") dx [("names", .ref nm), ("axioms", .int (t.axioms.length : Int)), ("pairs", .ref pa), ("goals", .ref gl), ("formulas", .ref fo)])) := up _ _ (b2.new hfoH)
    have hx4 : upd (upd H2 fo (.lst (vr as))) x (.ins (He.ga K "ProofText") dx [("names", .ref nm), ("axioms", .int (t.axioms.length : Int)), ("pairs", .ref pa), ("goals", .ref gl), ("formulas", .ref fo)]) x = _ := upd_same
    have hf4 : upd (upd H2 fo (.lst (vr as))) x (.ins (He.ga K "ProofText") dx [("names", .ref nm), ("axioms", .int (t.axioms.length : Int)), ("pairs", .ref pa), ("goals", .ref gl), ("formulas", .ref fo)]) fo = some (.lst (vr as)) := (upd_ne (Ne.symm hxf)).trans upd_same
    generalize upd (upd H2 fo (.lst (vr as))) x (.ins (He.ga K "ProofText") dx [("names", .ref nm), ("axioms", .int (t.axioms.length : Int)), ("pairs", .ref pa), ("goals", .ref gl), ("formulas", .ref fo)]) = H4 at b3 hx4 hf4 ⊢
    refine ⟨small_size (by simp), fun z hz => ?_⟩
    have sz : Same H4 (upd H4 z (.lst [.int 0])) := Same.new hz
    refine ⟨_, rfl, af, _, rfl, .inl (sz.seq (b3.seqI ix haf)), z, _, _, rfl, rfl, upd_same, by rw [vr_len, e0]; omega, by rw [vr_len, e0]; omega, small_size (by rw [vr_len, e0]; simp; omega), fun st hst => ?_⟩
    rw [vr_len, e0, Int.toNat_natCast, rep_zero]
    have hz0 : H4 st = none := sz.free hst
    have s5 : Same H4 (upd (upd H4 z (.lst [.int 0])) st (.lst (vn (List.replicate t.axioms.length 0)))) := sz.trans (Same.new hst)
    have hst5 : upd (upd H4 z (.lst [.int 0])) st (.lst (vn (List.replicate t.axioms.length 0))) st = some (.lst (vn (List.replicate t.axioms.length 0))) := upd_same
    refine ⟨_, rfl, x, _, dx, _, rfl, s5 _ _ hx4, c_ProofText T, n_ProofText_steps T, (show (5 : Nat) < 1000 by decide), ?_⟩
    rw [pf5]
    have b5 : But [x] H (upd (upd H4 z (.lst [.int 0])) st (.lst (vn (List.replicate t.axioms.length 0)))) := b3.trans (But.of s5)
    have hxs : x ≠ st := ne_of_none hx4 hz0
    have hfs : fo ≠ st := ne_of_none hf4 hz0
    have hstH : H st = none := by
      cases e : H st with
      | none => rfl
      | some u => rw [b3 _ _ (by simpa using Ne.symm hxs) e] at hz0; cases hz0
    have hf5 := s5 _ _ hf4
    generalize upd (upd H4 z (.lst [.int 0])) st (.lst (vn (List.replicate t.axioms.length 0))) = H5 at b5 hst5 hf5 ⊢
    have b6 := up _ (txF nm pa gl fo st t.axioms.length) b5
    have hx6 : upd H5 x (.ins (He.ga K "ProofText") dx (txF nm pa gl fo st t.axioms.length)) x = _ := upd_same
    have hf6 := (upd_ne (H := H5) (o := .ins (He.ga K "ProofText") dx (txF nm pa gl fo st t.axioms.length)) (Ne.symm hxf)).trans hf5
    have hst6 := (upd_ne (H := H5) (o := .ins (He.ga K "ProofText") dx (txF nm pa gl fo st t.axioms.length)) (Ne.symm hxs)).trans hst5
    obtain ⟨ps, hps1, hps2⟩ := hp.pa
    have hax : t.axioms.map (fun a => ci a.f) = (fsTo t 0).map co := by
      rw [fsTo, List.take_zero, List.foldl_nil, List.map_map]
      refine List.map_congr_left fun a ha => ?_
      rw [Function.comp, (ok.ax a ha).1]
      rfl
    have hlen := hps2.len
    rw [List.length_map] at hlen
    refine ⟨_, rfl, pa, rfl, ⟨_, b6.seqI ix hps1⟩, ?_⟩
    refine for_list (K := K) (a := pa) (xs := vr ps) (fun i σ' H' => ∃ (v5 v6 : Option V) (fa : List Addr), σ' = [some (.ref x), some (.ref nm), some (.ref af), some (.ref pa), some (.ref gl), v5, v6] ∧ But [x] H H' ∧
        H' x = some (.ins (He.ga K "ProofText") dx (txF nm pa gl fo st t.axioms.length)) ∧ H' fo = some (.lst (vr fa)) ∧ TupsAt K H' fa ((fsTo t i).map co) ∧ H' st = some (.lst (vn ((tsTo t i).map fun p => p.1))))
      ⟨none, none, as, rfl, b6, hx6, hf6, by rw [← hax]; exact b6.tupsI ix has, by rw [hst6, ts0]⟩ (fun i σ' H' _ ⟨_, _, _, _, b, _⟩ => b.seqI ix hps1) ?_ ?_
    · rintro i xv σ' H' hxv ⟨v5, v6, fa, rfl, b7, hx7, hf7, hfa, hst7⟩
      obtain ⟨c, hc, rfl⟩ := vr_inv hxv
      have hir : i < t.rows.length := by have := (List.getElem?_eq_some_iff.mp hc).1; omega
      obtain ⟨l, hl, hcl⟩ := (b7.tupsI ix hps2).get hc
      rw [List.getElem?_map, List.getElem?_eq_getElem hir] at hl
      have hl := Option.some.inj hl
      subst hl
      have hrow : t.rows[i]? = some t.rows[i] := List.getElem?_eq_getElem hir
      generalize t.rows[i] = r at hrow hcl
      obtain ⟨hi, hj⟩ := ok.rw i r hrow
      have hfl := SP.fsTo_len t i (by omega)
      have htl := SP.tsTo_len t i (by omega)
      refine ⟨c, _, rfl, hcl, rfl, _, _, rfl, _, _, rfl, rfl, ?_⟩
      -- formulas.append(detached(..))
      obtain ⟨p1, hp1, hq1⟩ := FsAt.at_ hfa (i := r.i) (by omega)
      obtain ⟨p2, hp2, hq2⟩ := FsAt.at_ hfa (i := r.j) (by omega)
      have fdf := lk_formulas nm pa gl fo st t.axioms.length
      have fds := lk_steps nm pa gl fo st t.axioms.length
      have cP := c_ProofText T
      have nF := n_ProofText_formulas T
      have nS := n_ProofText_steps T
      refine ⟨_, rfl, x, _, dx, _, _, rfl, hx7, cP, nF, fdf, .inl ⟨rfl, _, SqL.of hf7⟩, ?_⟩
      refine ⟨_, rfl, x, _, dx, _, _, rfl, hx7, cP, nF, fdf, _, rfl, fo, _, (r.i : Int), .ref p1, rfl, rfl, SqL.of hf7, hp1, ?_⟩
      refine ⟨_, rfl, x, _, dx, _, _, rfl, hx7, cP, nF, fdf, _, rfl, fo, _, (r.j : Int), .ref p2, rfl, rfl, SqL.of hf7, hp2, ?_⟩
      have fine : ∀ (j : Nat) (F : Form), ((fsTo t i)[j]?.getD none) = some F → Fine F := by
        intro j F e
        refine SP.fsTo_fine ok i (by omega) F ?_
        cases q : (fsTo t i)[j]? with
        | none => rw [q] at e; cases e
        | some y => rw [q] at e; have : y = some F := e; exact List.mem_of_getElem? (this ▸ q)
      refine ⟨p1, p2, _, _, rfl, hq1, hq2, fine r.i, fine r.j, fun H8 p8 s8 hp8 => ?_⟩
      have hf8 := s8 _ _ hf7
      have hx8 := s8 _ _ hx7
      have hst8 := s8 _ _ hst7
      have hfl2 := hfa.len
      rw [List.length_map] at hfl2
      refine ⟨fo, _, _, rfl, rfl, hf8, small_lt (by rw [vr_len]; omega), ?_⟩
      rw [vr_snoc]
      have m8 : Mut H8 [fo] := Mut.one (.inl ⟨_, hf8⟩)
      have b8 : But [fo] H8 (upd H8 fo (.lst (vr (fa ++ [p8])))) := But.upd (But.refl _) (by simp)
      have hx9 := b8 _ _ (by simpa using hxf) hx8
      have hst9 := b8 _ _ (by simpa using Ne.symm hfs) hst8
      have hf9 : upd H8 fo (.lst (vr (fa ++ [p8]))) fo = _ := upd_same
      have hfa9 := TupsAt.snoc (b8.tup m8 hp8) (b8.tups m8 (hfa.same s8))
      have b9 : But [x] H (upd H8 fo (.lst (vr (fa ++ [p8])))) := (b7.trans (But.of s8)).new hfoH
      generalize upd H8 fo (.lst (vr (fa ++ [p8]))) = H9 at hx9 hst9 hf9 hfa9 b9 ⊢
      -- steps.append(..)
      obtain ⟨g1, hg1⟩ : ∃ g, (tsTo t i)[r.i]? = some g := ⟨_, List.getElem?_eq_getElem (by omega)⟩
      obtain ⟨g2, hg2⟩ : ∃ g, (tsTo t i)[r.j]? = some g := ⟨_, List.getElem?_eq_getElem (by omega)⟩
      have e1 : ((tsTo t i).map fun p => p.1)[r.i]? = some g1.1 := by rw [List.getElem?_map, hg1]; rfl
      have e2 : ((tsTo t i).map fun p => p.1)[r.j]? = some g2.1 := by rw [List.getElem?_map, hg2]; rfl
      refine ⟨_, rfl, x, _, dx, _, _, rfl, hx9, cP, nS, fds, .inl ⟨rfl, _, SqL.of hst9⟩, ?_⟩
      refine ⟨_, rfl, x, _, dx, _, _, rfl, hx9, cP, nS, fds, _, rfl, st, _, (r.i : Int), _, rfl, rfl, SqL.of hst9, vn_at e1, ?_⟩
      refine ⟨_, rfl, x, _, dx, _, _, rfl, hx9, cP, nS, fds, _, rfl, st, _, (r.j : Int), _, rfl, rfl, SqL.of hst9, vn_at e2, ?_⟩
      refine ⟨_, _, rfl, rfl, _, _, rfl, rfl, st, _, _, rfl, rfl, hst9, small_lt (by rw [vn_len, List.length_map]; omega), ?_⟩
      have hadd : vn ((tsTo t i).map fun p => p.1) ++ [V.int ((g1.1 : Int) + (g2.1 : Int) + 1)] = vn ((tsTo t (i + 1)).map fun p => p.1) := by
        rw [SP.tsTo_step hrow, List.map_append]
        have z1 : (tsTo t i).getD r.i (0, 0) = g1 := by rw [List.getD_eq_getElem?_getD, hg1]; rfl
        have z2 : (tsTo t i).getD r.j (0, 0) = g2 := by rw [List.getD_eq_getElem?_getD, hg2]; rfl
        rw [z1, z2]
        simp [vn]
      rw [hadd]
      have b10 : But [st] H9 (upd H9 st (.lst (vn ((tsTo t (i + 1)).map fun p => p.1)))) := But.upd (But.refl _) (by simp)
      have m9 : Mut H9 [st] := Mut.one (.inl ⟨_, hst9⟩)
      refine ⟨_, _, fa ++ [p8], rfl, b9.new hstH, b10 _ _ (by simpa using hxs) hx9, b10 _ _ (by simpa using hfs) hf9, ?_, upd_same⟩
      rw [SP.fsTo_step hrow, List.map_append]
      exact b10.tups m9 hfa9
    · rintro σ' H' ⟨v5, v6, fa, rfl, b7, hx7, hf7, hfa, hst7⟩
      rw [vr_len, hlen] at hfa hst7
      rw [SP.fsTo_all] at hfa
      rw [SP.tsTo_all] at hst7
      refine k H' b7 ⟨fo, st, ⟨ok, hx7, hp.butI b7 ix, ⟨⟨fa, SqL.of hf7, hfa⟩, ?_, ?_⟩, SqL.of hst7⟩, hfoH, hstH⟩
      · intro G hG
        rw [← SP.fsTo_all] at hG
        have := (SP.fsTo_fine ok _ (Nat.le_refl _) G hG).1
        have := SP.ci_le G
        omega
      · rw [SP.formulas_len]
        have := SP.count_le ok
        omega
end SPW
end
section
set_option Elab.async false
set_option linter.all false
set_option maxRecDepth 100000
set_option maxHeartbeats 4000000
namespace SPW
open PySem PySem.Spec PyProof.Rows L2
open SP (ci co TOk Fine det fsTo tsTo rowsOf)
open Vapcma (Form Text_ formulas treeSizes count needsBy)
variable {P : Program} {w : World} {K : PySem.W.Frag} {mg : Str → Option Value} {base : Heap}
theorem TextIn.fsLen {H : Hp} {x dx nm pa gl fo st : Addr} {t : Text_} (h : TextIn K H x dx nm pa gl fo st t) : ∃ as, SqL K H fo (vr as) ∧ TupsAt K H as ((formulas t).map co) ∧ (vr as).length = count t := by
  obtain ⟨as, h1, h2⟩ := h.fo.ex
  refine ⟨as, h1, h2, ?_⟩
  rw [vr_len, h2.len, List.length_map, SP.formulas_len]
/-- whether numbers are all items -/
def itemsIn (n : Nat) (l : List Int) : Bool := l.all fun z => decide (0 ≤ z) && decide (z < (n : Int))
/-- are_items(text, numbers) -/
def sp_are_items (K : PySem.W.Frag) : Sp := fun vs H Q _ => ∃ (x nl : Addr) (t : Text_) (l : List Int), vs = [.ref x, .ref nl] ∧ TextAt K H x t ∧ SqL K H nl (vis l) ∧ l.length ≤ 100000 ∧ ∀ H', Same H H' → Q (.bl (itemsIn (count t) l)) H'
abbrev N_are_items : List Str := ["text", "numbers", "number"]
theorem sc_are_items : FnScope N_are_items ["text", "numbers"] (defScope s_are_items) := ⟨rfl, rfl, rfl, by decide +kernel, rfl, by decide +kernel, by decide +kernel⟩
theorem g_are_items (T : Tx K mg) : GFn P w K mg base CX0 1 "are_items" ["text", "numbers"] (sp_are_items K) := by
  refine gfn0 (f_are_items T) (t_are_items T) sc_are_items (fun _ _ _ _ _ _ us hl => match us, hl with | [_, _], _ => rfl) (fun vs H Q E h => ?_) (fun f cdv A outer s H vs Q E hr h => ⟨_, (pss_one (ps_ret (pe_callB (cr_allK K rfl rfl) (by rfl) (t_all T) (by decide +kernel) (pa_cons (pe_lc (own := [("number", 2)]) (g := gName 2) (tt := tYes) rfl sc_are_items.nd (pi_listK K (pv 1)) (blkOk_by (own := [("number", 2)]) (N := N_are_items) (sc := defScope s_are_items) (by decide +kernel)) (fun _ _ _ _ _ => (pg_name (i := 2) sc_are_items.nd rfl (Or.inl rfl))) (fun _ _ _ _ _ => pts_nil) (fun _ _ _ _ _ => (pe_chain op_le op_lt pe_int1 (pv 2) (pe_callB (call_lenK K) (by rfl) (t_len T) PySem.boot_len (pa_cons (pe_fldK K (pv 0)) pa_nil1))))) pa_nil1)))), ?_⟩)
  · obtain ⟨x, nl, t, l, rfl, _⟩ := h
    rfl
  · obtain ⟨x, nl, t, l, rfl, ⟨dx, nm, pa, gl, fo, st, hT⟩, hl, hz, k⟩ := h
    let pe : Int → Bool := fun z => decide (0 ≤ z) && decide (z < (count t : Int))
    refine ⟨_, rfl, nl, rfl, ⟨_, hl⟩, fun D hD => ?_⟩
    refine lcl (Q := fun v H' => rAll K [v] H' Q) hD hl (fun i => (l.take i).map fun z => V.bl (pe z)) rfl (by rw [vis_len]; omega) ?_ ?_
    · intro i xv H' hx s5 Y Z hY hZ
      obtain ⟨z, hj, rfl⟩ := vis_inv hx
      have hT5 := hT.same s5
      obtain ⟨as, h1, h2, h3⟩ := hT5.fsLen
      have more : ∀ b : Bool, b = pe z → Y (.bl b) H' := by
        rintro b rfl
        refine hY _ _ (Same.refl _) ?_
        show (List.map _ _) = List.map _ _ ++ _
        rw [take_more hj, List.map_append]
        rfl
      refine ⟨rfl, _, rfl, _, _, rfl, rfl, _, rfl, ?_⟩
      by_cases c : 0 ≤ z
      · refine if_true_of (decide_eq_true c) ?_
        refine ⟨_, rfl, x, _, dx, _, _, rfl, hT5.at_, c_ProofText T, n_ProofText_formulas T, lk_formulas _ _ _ _ _ _, fo, _, rfl, .inl h1, _, _, rfl, rfl, ?_⟩
        refine more _ ?_
        show decide (z < ((vr as).length : Int)) = (decide (0 ≤ z) && decide (z < (count t : Int)))
        rw [h3, decide_eq_true c, Bool.true_and]
      · refine if_false_of (decide_eq_false c) ?_
        refine more _ ?_
        show false = (decide (0 ≤ z) && decide (z < (count t : Int)))
        rw [decide_eq_false c, Bool.false_and]
    · intro H' s5 hD'
      refine ⟨D, l.map pe, rfl, SqL.of ?_, ?_⟩
      · rw [hD', vis_len, List.take_length, List.map_map]
        rfl
      · have e : (l.map pe).all id = itemsIn (count t) l := by
          rw [List.all_map]
          rfl
        rw [e]
        exact k H' s5
/-- pair_of(text, row) -/
def sp_pair_of (K : PySem.W.Frag) : Sp := fun vs H Q _ => ∃ (x : Addr) (t : Text_) (i : Nat) (r : Vapcma.Row), vs = [.ref x, .int ((t.axioms.length + i : Nat) : Int)] ∧ TextAt K H x t ∧ t.rows[i]? = some r ∧ ∀ p, SqT K H p (vis (pr r)) → Q (.ref p) H
abbrev N_pair_of : List Str := ["text", "row"]
theorem sc_pair_of : FnScope N_pair_of ["text", "row"] (defScope s_pair_of) := ⟨rfl, rfl, rfl, by decide +kernel, rfl, by decide +kernel, by decide +kernel⟩
theorem g_pair_of (T : Tx K mg) : GFn P w K mg base CX0 1 "pair_of" ["text", "row"] (sp_pair_of K) := by
  refine gfn0 (f_pair_of T) (t_pair_of T) sc_pair_of (fun _ _ _ _ _ _ us hl => match us, hl with | [_, _], _ => rfl) (fun vs H Q E h => ?_) (fun f cdv A outer s H vs Q E hr h => ⟨_, (pss_one (ps_ret (pe_ix (ix_listK K) (pe_fldK K (pv 0)) (pe_op op_sub (pv 1) (pe_fldK K (pv 0))) (fun _ _ => rfl)))), ?_⟩)
  · obtain ⟨x, t, i, r, rfl, _⟩ := h
    rfl
  · obtain ⟨x, t, i, r, rfl, ⟨dx, nm, pa, gl, fo, st, hT⟩, hr1, k⟩ := h
    obtain ⟨ps, h1, h2⟩ := hT.parts.pa
    obtain ⟨a, ha, hat⟩ := h2.get' (i := i) (l := pr r) (by rw [List.getElem?_map, hr1]; rfl)
    refine ⟨_, rfl, x, _, dx, _, _, rfl, hT.at_, c_ProofText T, n_ProofText_pairs T, lk_pairs _ _ _ _ _ _, ?_⟩
    refine ⟨_, rfl, _, rfl, x, _, dx, _, _, rfl, hT.at_, c_ProofText T, n_ProofText_axioms T, lk_axioms _ _ _ _ _ _, ?_⟩
    refine ⟨_, _, rfl, rfl, pa, _, _, .ref a, rfl, rfl, h1, ?_, k a hat⟩
    rw [show ((t.axioms.length + i : Nat) : Int) - (t.axioms.length : Int) = ((i : Nat) : Int) by omega]
    exact atI_nat (vr_get ha)
end SPW
end
section
set_option Elab.async false
set_option linter.all false
set_option maxRecDepth 100000
set_option maxHeartbeats 4000000
namespace SPW
open PySem PySem.Spec PyProof.Rows L2
open SP (ci co TOk Fine det fsTo tsTo rowsOf)
open Vapcma (Form Text_ formulas treeSizes count needsBy)
open Vapcmb (targetItems treeTotal firstAsGeneral)
variable {P : Program} {w : World} {K : PySem.W.Frag} {mg : Str → Option Value} {base : Heap}
/-- which are wanted -/
def flags (n : Nat) (l : List Nat) : List Bool := (List.range n).map fun k => decide (k ∈ l)
def vb (l : List Bool) : List V := l.map V.bl
theorem flags_len (n : Nat) (l : List Nat) : (flags n l).length = n := by simp [flags]
theorem flags_get {n k : Nat} (l : List Nat) (h : k < n) : (flags n l)[k]? = some (decide (k ∈ l)) := by
  unfold flags
  rw [List.getElem?_map, List.getElem?_range h]
  rfl
theorem vb_len (l : List Bool) : (vb l).length = l.length := List.length_map _
theorem vb_get {l : List Bool} {k : Nat} {b : Bool} (h : l[k]? = some b) : (vb l)[k]? = some (V.bl b) := by simp [vb, h]
theorem flags_set {n i : Nat} (l : List Nat) (h : i < n) : (flags n l).set i true = flags n (l ++ [i]) := by
  refine List.ext_getElem? fun k => ?_
  rw [List.getElem?_set, flags_len]
  by_cases hk : k < n
  · rw [flags_get _ hk, flags_get _ hk]
    by_cases e : i = k
    · subst e
      rw [if_pos rfl, if_pos h, decide_eq_true (by simp)]
    · rw [if_neg e]
      congr 1
      have : k ≠ i := fun z => e z.symm
      simp [this]
  · have h1 : (flags n l)[k]? = none := List.getElem?_eq_none (by rw [flags_len]; omega)
    have h2 : (flags n (l ++ [i]))[k]? = none := List.getElem?_eq_none (by rw [flags_len]; omega)
    rw [h1, h2]
    have : ¬ i = k := by omega
    rw [if_neg this]
theorem vb_set (l : List Bool) (i : Nat) (b : Bool) : (vb l).set i (V.bl b) = vb (l.set i b) := by simp only [vb, List.map_set]
theorem flags_nil (n : Nat) : flags n [] = List.replicate n false := by
  unfold flags
  simp [List.map_const']
/-- needed(text, numbers) -/
def sp_needed (K : PySem.W.Frag) : Sp := fun vs H Q _ => ∃ (x nl : Addr) (t : Text_) (l : List Nat), vs = [.ref x, .ref nl] ∧ TextAt K H x t ∧ SqL K H nl (vn l) ∧ (∀ z ∈ l, z < count t) ∧
  ∀ H' p, Same H H' → H p = none → H' p = some (.lst (vn (rowsOf t l))) → Q (.ref p) H'
abbrev N_needed : List Str := ["text", "numbers", "wanted", "item", "row", "first", "second"]
theorem sc_needed : FnScope N_needed ["text", "numbers"] (defScope s_needed) := ⟨rfl, rfl, rfl, by decide +kernel, rfl, by decide +kernel, by decide +kernel⟩
theorem g_needed (T : Tx K mg) : GFn P w K mg base CX0 2 "needed" ["text", "numbers"] (sp_needed K) := by
  have g_pair_of : GFn P w K mg base CX0 1 "pair_of" ["text", "row"] (sp_pair_of K) := g_pair_of T
  refine gfn0 (f_needed T) (t_needed T) sc_needed (fun _ _ _ _ _ _ us hl => match us, hl with | [_, _], _ => rfl) (fun vs H Q E h => ?_) (fun f cdv A outer s H vs Q E hr h => ⟨_, (pss_cons (ps_set (i := 2) sc_needed.nd rfl (Or.inr rfl) (pe_op op_rep (pe_lst (pa_cons pe_bl1 pa_nil1)) (pe_callB (call_lenK K) (by rfl) (t_len T) PySem.boot_len (pa_cons (pe_fldK K (pv 0)) pa_nil1))))
  (pss_cons (ps_for PassesOwn.never rfl (pi_listK K (pv 1)) (pg_name (i := 3) sc_needed.nd rfl (Or.inl rfl))
  (pss_one (ps_asg pe_bl1 (pg_sub (pv 2) (pv 3) set_list))))
  (pss_cons (ps_for PassesOwn.never rfl (pi_range3 rfl (t_range T) (pa_cons (pe_op op_sub (pe_callB (call_lenK K) (by rfl) (t_len T) PySem.boot_len (pa_cons (pe_fldK K (pv 0)) pa_nil1)) pe_int1) (pa_cons (pe_op op_sub (pe_fldK K (pv 0)) pe_int1) (pa_cons (pe_un un_neg pe_int1) pa_nil1)))) (pg_name (i := 4) sc_needed.nd rfl (Or.inl rfl))
  (pss_one (ps_if (pt_val (pe_ix (ix_listK K) (pv 2) (pv 4) (fun _ _ => rfl))) (pss_cons (ps_asg (pe_fn g_pair_of (hr.mono (by decide)) pass0 (pa_cons (pv 0) (pa_cons (pv 4) pa_nil1))) (pg_tupK K (n := 2) rfl (pgs_cons (pg_name (i := 5) sc_needed.nd rfl (Or.inl rfl)) (pgs_cons (pg_name (i := 6) sc_needed.nd rfl (Or.inl rfl)) pgs_nil))))
  (pss_cons (ps_asg pe_bl1 (pg_sub (pv 2) (pv 5) set_list))
  (pss_one (ps_asg pe_bl1 (pg_sub (pv 2) (pv 6) set_list)))))
  pss_nil)))
  (pss_one (ps_ret (pe_lc (own := [("row", 4)]) (g := gName 4) rfl sc_needed.nd (pi_range2 rfl (t_range T) (pa_cons (pe_fldK K (pv 0)) (pa_cons (pe_callB (call_lenK K) (by rfl) (t_len T) PySem.boot_len (pa_cons (pe_fldK K (pv 0)) pa_nil1)) pa_nil1))) (blkOk_by (own := [("row", 4)]) (N := N_needed) (sc := defScope s_needed) (by decide +kernel)) (fun _ _ _ _ _ => (pg_name (i := 4) sc_needed.nd rfl (Or.inl rfl))) (fun _ _ _ _ _ => (pts_one (pt_val (pe_ix (ix_listK K) (pv 2) (pv 4) (fun _ _ => rfl))))) (fun _ _ _ _ _ => (pv 4)))))))), ?_⟩)
  · obtain ⟨x, nl, t, l, rfl, _⟩ := h
    rfl
  · obtain ⟨x, nl, t, l, rfl, ⟨dx, nm, pa, gl, fo, st, hT⟩, hl, hlt, k⟩ := h
    have hct : count t = t.axioms.length + t.rows.length := rfl
    have hc30 := SP.count_le hT.ok
    refine ⟨small_size (by simp), fun z hz => ?_⟩
    have sz : Same H (upd H z (.lst [.bl false])) := Same.new hz
    have hTz := hT.same sz
    obtain ⟨as, h1, h2, h3⟩ := hTz.fsLen
    refine ⟨_, rfl, x, _, dx, _, _, rfl, hTz.at_, c_ProofText T, n_ProofText_formulas T, lk_formulas _ _ _ _ _ _, fo, _, rfl, .inl h1, z, _, _, rfl, rfl, upd_same, by rw [h3]; omega, by rw [h3]; omega, small_size (by rw [h3]; simp; omega), fun wl hwl => ?_⟩
    have ef : (List.replicate (count t) [V.bl false]).flatten = vb (flags (count t) []) := by
      rw [rep_bl, flags_nil]
      rfl
    rw [h3, Int.toNat_natCast, ef]
    have hwl0 : H wl = none := sz.free hwl
    have s1 : Same H (upd (upd H z (.lst [.bl false])) wl (.lst (vb (flags (count t) [])))) := sz.trans (Same.new hwl)
    refine ⟨_, rfl, nl, rfl, ⟨_, s1.seq hl⟩, ?_⟩
    refine for_list (K := K) (a := nl) (xs := vn l) (fun i σ' H' => ∃ (v3 : Option V), σ' = [some (.ref x), some (.ref nl), some (.ref wl), v3, none, none, none] ∧ Same H H' ∧ H' wl = some (.lst (vb (flags (count t) (l.take i)))))
      ⟨none, rfl, s1, upd_same⟩ (fun i σ' H' _ ⟨_, _, s, _⟩ => s.seq hl) ?_ ?_
    · rintro i xv σ' H' hx ⟨v3, rfl, s2, hw2⟩
      obtain ⟨y, hy, rfl⟩ := vn_inv hx
      have hyl := hlt y (List.mem_of_getElem? hy)
      refine ⟨_, rfl, _, rfl, wl, _, _, y, rfl, rfl, hw2, ixN_nat (by rw [vb_len, flags_len]; exact hyl), ?_⟩
      refine ⟨_, rfl, s2.mut hwl0, ?_⟩
      rw [upd_same, vb_set, flags_set _ hyl, take_more hy]
    rintro σ' H' ⟨v3, rfl, s2, hw2⟩
    rw [vn_len, List.take_length] at hw2
    have hT2 := hT.same s2
    obtain ⟨as2, q1, q2, q3⟩ := hT2.fsLen
    refine ⟨_, rfl, x, _, dx, _, _, rfl, hT2.at_, c_ProofText T, n_ProofText_formulas T, lk_formulas _ _ _ _ _ _, fo, _, rfl, .inl q1, _, _, rfl, rfl, ?_⟩
    refine ⟨_, rfl, x, _, dx, _, _, rfl, hT2.at_, c_ProofText T, n_ProofText_axioms T, lk_axioms _ _ _ _ _ _, _, _, rfl, rfl, ?_⟩
    refine ⟨_, rfl, _, _, _, _, rfl, RgC.neg (by rw [q3]; omega) (by rw [q3]; omega) (by omega) (by omega), ?_⟩
    rw [q3, show ((count t : Int) - 1 - ((t.axioms.length : Int) - 1)).toNat = t.rows.length by omega]
    refine for_rangeC (fun i σ' H' => ∃ (l' : List Nat) (v3 v4 v5 v6 : Option V), σ' = [some (.ref x), some (.ref nl), some (.ref wl), v3, v4, v5, v6] ∧ Same H H' ∧ H' wl = some (.lst (vb (flags (count t) l'))) ∧ needsBy t (t.rows.length - i) l' = needsBy t t.rows.length l)
      ⟨l, v3, none, none, none, rfl, s2, hw2, rfl⟩ ?_ ?_
    · rintro i σ' H' hi ⟨l', v3, v4, v5, v6, rfl, s3, hw3, hn⟩
      have em : (count t : Int) - 1 + (i : Int) * -1 = ((t.axioms.length + (t.rows.length - 1 - i) : Nat) : Int) := by omega
      rw [em]
      have hm : t.rows.length - 1 - i < t.rows.length := by omega
      have hrow := SP.get_of_lt hm
      rw [show t.rows.length - i = (t.rows.length - 1 - i) + 1 by omega, SP.needsBy_succ hrow] at hn
      have hr2 := hT.ok.rw _ _ hrow
      have hmi : t.rows.length - (i + 1) = t.rows.length - 1 - i := by omega
      generalize t.rows.length - 1 - i = m at *
      generalize t.rows[m] = r at *
      have hxl : t.axioms.length + m < count t := by omega
      refine ⟨_, rfl, _, rfl, wl, _, _, .bl (decide (t.axioms.length + m ∈ l')), rfl, rfl, SqL.of hw3, atI_nat (vb_get (flags_get l' hxl)), _, rfl, ?_⟩
      by_cases c : t.axioms.length + m ∈ l'
      · refine if_true_of (decide_eq_true c) ?_
        rw [if_pos (by simpa using c)] at hn
        refine ⟨_, rfl, _, rfl, x, t, m, r, rfl, ⟨dx, nm, pa, gl, fo, st, hT.same s3⟩, hrow, fun p hp => ?_⟩
        refine ⟨p, _, rfl, hp, rfl, _, _, rfl, _, _, rfl, rfl, ?_⟩
        refine ⟨_, rfl, _, rfl, wl, _, _, r.i, rfl, rfl, hw3, ixN_nat (by rw [vb_len, flags_len]; omega), ?_⟩
        refine ⟨_, rfl, _, rfl, wl, _, _, r.j, rfl, rfl, upd_same, ixN_nat (by rw [List.length_set, vb_len, flags_len]; omega), ?_⟩
        refine ⟨l' ++ [r.i] ++ [r.j], _, _, _, _, rfl, (s3.mut hwl0).mut hwl0, ?_, ?_⟩
        · rw [upd_same, vb_set, flags_set _ (by omega), vb_set, flags_set _ (by omega)]
        · rw [hmi, List.append_assoc]
          exact hn
      · refine if_false_of (decide_eq_false c) ?_
        rw [if_neg (by simpa using c)] at hn
        exact ⟨l', v3, _, v5, v6, rfl, s3, hw3, by rw [hmi]; exact hn⟩
    · rintro σ' H' ⟨l', v3, v4, v5, v6, rfl, s3, hw3, hn⟩
      rw [Nat.sub_self] at hn
      have hn : l' = needsBy t t.rows.length l := hn
      have hT3 := hT.same s3
      obtain ⟨as3, r1, r2, r3⟩ := hT3.fsLen
      refine ⟨_, rfl, x, _, dx, _, _, rfl, hT3.at_, c_ProofText T, n_ProofText_axioms T, lk_axioms _ _ _ _ _ _, ?_⟩
      refine ⟨_, rfl, x, _, dx, _, _, rfl, hT3.at_, c_ProofText T, n_ProofText_formulas T, lk_formulas _ _ _ _ _ _, fo, _, rfl, .inl r1, _, _, rfl, ⟨by omega, by omega, by rw [r3]; omega, by rw [r3]; omega⟩, fun D hD => ?_⟩
      rw [r3, show ((count t : Int) - (t.axioms.length : Int)).toNat = t.rows.length by omega]
      refine lcr hD (fun i => vn ((List.range' t.axioms.length i).filter fun k => l'.contains k)) rfl (by omega) ?_ ?_
      · intro i H2 hi s5 Y Z hY hZ
        have hxl : t.axioms.length + i < count t := by omega
        have hw5 := s5 _ _ hw3
        refine ⟨rfl, _, rfl, _, rfl, wl, _, ((t.axioms.length + i : Nat) : Int), .bl (decide (t.axioms.length + i ∈ l')), rfl, rfl, SqL.of hw5, atI_nat (vb_get (flags_get l' hxl)), _, rfl, ?_⟩
        by_cases c : t.axioms.length + i ∈ l'
        · refine if_true_of (decide_eq_true c) ?_
          refine ⟨_, rfl, hY _ _ (Same.refl _) ?_⟩
          show vn _ = vn _ ++ _
          rw [List.range'_1_concat, List.filter_append, List.filter_cons, if_pos (by simpa using c)]
          simp [vn]
        · refine if_false_of (decide_eq_false c) (hZ _ (Same.refl _) ?_)
          show vn _ = vn _
          rw [List.range'_1_concat, List.filter_append, List.filter_cons, if_neg (by simpa using c)]
          simp
      · intro H2 s5 hD'
        refine k H2 D (s3.trans s5) (s3.free hD) ?_
        rw [hD', hn]
        rfl
end SPW
end
section
set_option Elab.async false
set_option linter.all false
set_option maxRecDepth 100000
set_option maxHeartbeats 4000000
namespace SPW
open PySem PySem.Spec PyProof.Rows L2
open SP (ci co TOk Fine det fsTo tsTo rowsOf)
open Vapcma (Form Text_ formulas treeSizes count needsBy)
open Vapcmb (targetItems treeTotal firstAsGeneral)
variable {P : Program} {w : World} {K : PySem.W.Frag} {mg : Str → Option Value} {base : Heap}
theorem targetItems_eq (t : Text_) : targetItems t = t.goals.filterMap (firstAsGeneral (formulas t)) := by
  rw [targetItems, SP.targets_eq, List.filterMap_map]
  rfl
theorem firstAs_lt {fs : List (Option Form)} {F : Form} {k : Nat} (h : firstAsGeneral fs F = some k) : k < fs.length := by
  unfold firstAsGeneral at h
  rw [List.findIdx?_eq_some_iff_getElem] at h
  exact h.1
theorem targetItems_lt {t : Text_} {k : Nat} (h : k ∈ targetItems t) : k < count t := by
  rw [targetItems_eq, List.mem_filterMap] at h
  obtain ⟨g, _, h⟩ := h
  rw [← SP.formulas_len]
  exact firstAs_lt h
theorem targetItems_len (t : Text_) : (targetItems t).length ≤ t.goals.length := by
  rw [targetItems_eq]
  exact List.length_filterMap_le _ _
/-- targets(text) -/
def sp_targets (K : PySem.W.Frag) : Sp := fun vs H Q _ => ∃ (x : Addr) (t : Text_), vs = [.ref x] ∧ TextAt K H x t ∧ ∀ H' p, Same H H' → H p = none → H' p = some (.lst (vn (targetItems t))) → Q (.ref p) H'
abbrev N_targets : List Str := ["text", "found", "goal", "item"]
theorem sc_targets : FnScope N_targets ["text"] (defScope s_targets) := ⟨rfl, rfl, rfl, by decide +kernel, rfl, by decide +kernel, by decide +kernel⟩
theorem g_targets (T : Tx K mg) : GFn P w K mg base CX0 4 "targets" ["text"] (sp_targets K) := by
  have g_first_general : GFn P w K mg base CX0 3 "first_general" ["formulas", "f"] (sp_first_general K) := g_first_general T
  refine gfn0 (f_targets T) (t_targets T) sc_targets (fun _ _ _ _ _ _ us hl => match us, hl with | [_], _ => rfl) (fun vs H Q E h => ?_) (fun f cdv A outer s H vs Q E hr h => ⟨_, (pss_cons (ps_setLc (i := 1) (own := [("goal", 2)]) (g := gName 2) (tt := tYes) rfl sc_targets.nd rfl rfl (sw_true rfl rfl rfl (by decide +kernel)) (pi_listK K (pe_fldK K (pv 0))) (blkOk_by (own := [("goal", 2)]) (N := N_targets) (sc := defScope s_targets) (by decide +kernel)) (fun _ _ _ _ _ => (pg_name (i := 2) sc_targets.nd rfl (Or.inl rfl))) (fun _ _ _ _ _ => pts_nil) (fun _ _ _ _ _ => (pe_fn g_first_general (hr.mono (by decide)) pass0 (pa_cons (pe_fldK K (pv 0)) (pa_cons (pv 2) pa_nil1)))))
  (pss_one (ps_ret (pe_lc (own := [("item", 3)]) (g := gName 3) rfl sc_targets.nd (pi_listK K (pv 1)) (blkOk_by (own := [("item", 3)]) (N := N_targets) (sc := defScope s_targets) (by decide +kernel)) (fun _ _ _ _ _ => (pg_name (i := 3) sc_targets.nd rfl (Or.inl rfl))) (fun _ _ _ _ _ => (pts_one (pt_cmpR op_ge (pv 3) pe_int1 (nomark _)))) (fun _ _ _ _ _ => (pv 3)))))), ?_⟩)
  · obtain ⟨x, t, rfl, _⟩ := h
    rfl
  · obtain ⟨x, t, rfl, ⟨dx, nm, pa, gl, fo, st, hT⟩, k⟩ := h
    obtain ⟨gs, g1, g2⟩ := hT.parts.gl
    have hgl := g2.len
    rw [List.length_map] at hgl
    have ng := hT.ok.ng
    refine ⟨_, rfl, x, _, dx, _, _, rfl, hT.at_, c_ProofText T, n_ProofText_goals T, lk_goals _ _ _ _ _ _, gl, rfl, ⟨_, g1⟩, fun D hD => ?_⟩
    refine lcl (Q := fun v H' => gName 1 v (L2.start N_targets [V.ref x]) H' _) hD g1 (fun i => (t.goals.take i).map fun g => V.int (genI (formulas t) g)) rfl (by rw [vr_len]; omega) ?_ ?_
    · intro i xv H' hx s5 Y Z hY hZ
      obtain ⟨c, hc, rfl⟩ := vr_inv hx
      have hT5 := hT.same s5
      obtain ⟨l, hl, hcl⟩ := (g2.same s5).get hc
      rw [List.getElem?_map] at hl
      cases hg : t.goals[i]? with
      | none => rw [hg] at hl; cases hl
      | some g =>
        rw [hg] at hl
        have hl := Option.some.inj hl
        subst hl
        refine ⟨rfl, _, rfl, x, _, dx, _, _, rfl, hT5.at_, c_ProofText T, n_ProofText_formulas T, lk_formulas _ _ _ _ _ _, _, rfl, fo, c, formulas t, g, rfl, hT5.fo, hcl, fun H2 s6 => ?_⟩
        refine hY _ _ s6 ?_
        show (List.map _ _) = List.map _ _ ++ _
        rw [take_more hg, List.map_append]
        rfl
    · intro H' s5 hD'
      rw [vr_len, hgl, List.take_length] at hD'
      refine ⟨_, rfl, D, rfl, ⟨_, SqL.of hD'⟩, fun D2 hD2 => ?_⟩
      let res : Nat → List V := fun i => vn ((t.goals.take i).filterMap (firstAsGeneral (formulas t)))
      refine lcl hD2 (SqL.of hD') res rfl (by rw [List.length_map]; omega) ?_ ?_
      · intro i xv H2 hx s6 Y Z hY hZ
        rw [List.getElem?_map] at hx
        cases hg : t.goals[i]? with
        | none => rw [hg] at hx; cases hx
        | some g =>
          rw [hg] at hx
          have hx := (Option.some.inj hx).symm
          subst hx
          refine ⟨rfl, _, rfl, _, _, rfl, rfl, _, rfl, ?_⟩
          cases hf : firstAsGeneral (formulas t) g with
          | none =>
            refine if_false_of (decide_eq_false (by simp [genI, hf])) (hZ _ (Same.refl _) ?_)
            show vn _ = vn _
            rw [take_more hg, List.filterMap_append]
            simp [hf]
          | some m =>
            refine if_true_of (decide_eq_true (by simp [genI, hf])) ?_
            refine ⟨_, rfl, hY _ _ (Same.refl _) ?_⟩
            show vn _ = vn _ ++ _
            rw [take_more hg, List.filterMap_append]
            simp [hf, vn, genI]
      · intro H2 s6 hD2'
        refine k H2 D2 (s5.trans s6) (s5.free hD2) ?_
        rw [hD2', targetItems_eq]
        show some (HO.lst (vn _)) = _
        rw [List.length_map, List.take_length]
/-- total_steps(text) -/
def sp_total_steps (K : PySem.W.Frag) : Sp := fun vs H Q _ => ∃ (x : Addr) (t : Text_), vs = [.ref x] ∧ TextAt K H x t ∧ ∀ H', Same H H' → Q (.int (treeTotal t : Nat)) H'
abbrev N_total_steps : List Str := ["text", "item"]
theorem sc_total_steps : FnScope N_total_steps ["text"] (defScope s_total_steps) := ⟨rfl, rfl, rfl, by decide +kernel, rfl, by decide +kernel, by decide +kernel⟩
theorem g_total_steps (T : Tx K mg) : GFn P w K mg base CX0 5 "total_steps" ["text"] (sp_total_steps K) := by
  have g_targets : GFn P w K mg base CX0 4 "targets" ["text"] (sp_targets K) := g_targets T
  refine gfn0 (f_total_steps T) (t_total_steps T) sc_total_steps (fun _ _ _ _ _ _ us hl => match us, hl with | [_], _ => rfl) (fun vs H Q E h => ?_) (fun f cdv A outer s H vs Q E hr h => ⟨_, (pss_one (ps_ret (pe_callB (cr_sumK K rfl rfl) (by rfl) (t_sum T) (by decide +kernel) (pa_cons (pe_lc (own := [("item", 1)]) (g := gName 1) (tt := tYes) rfl sc_total_steps.nd (pi_listK K (pe_fn g_targets (hr.mono (by decide)) pass0 (pa_cons (pv 0) pa_nil1))) (blkOk_by (own := [("item", 1)]) (N := N_total_steps) (sc := defScope s_total_steps) (by decide +kernel)) (fun _ _ _ _ _ => (pg_name (i := 1) sc_total_steps.nd rfl (Or.inl rfl))) (fun _ _ _ _ _ => pts_nil) (fun _ _ _ _ _ => (pe_ix (ix_listK K) (pe_fldK K (pv 0)) (pv 1) (fun _ _ => rfl)))) pa_nil1)))), ?_⟩)
  · obtain ⟨x, t, rfl, _⟩ := h
    rfl
  · obtain ⟨x, t, rfl, hTx, k⟩ := h
    refine ⟨_, rfl, x, t, rfl, hTx, fun H1 p s1 hp0 hp => ?_⟩
    obtain ⟨dx, nm, pa, gl, fo, st, hT⟩ := hTx.same s1
    have ng := hT.ok.ng
    have htl := targetItems_len t
    refine ⟨p, rfl, ⟨_, SqL.of hp⟩, fun D hD => ?_⟩
    let sz : Nat → Nat := fun i => ((treeSizes t).getD i (0, 0)).1
    refine lcl (Q := fun v H' => rSum K [v] H' Q) hD (SqL.of hp) (fun i => vn (((targetItems t).take i).map sz)) rfl (by rw [vn_len]; omega) ?_ ?_
    · intro i xv H' hx s5 Y Z hY hZ
      obtain ⟨m, hm, rfl⟩ := vn_inv hx
      have hT5 := hT.same s5
      have hlt := targetItems_lt (List.mem_of_getElem? hm)
      rw [← SP.treeSizes_len] at hlt
      have e1 : ((treeSizes t).map fun p => p.1)[m]? = some (sz m) := by
        rw [List.getElem?_map, List.getElem?_eq_getElem hlt]
        show _ = some ((treeSizes t).getD m (0, 0)).1
        rw [List.getD_eq_getElem?_getD, List.getElem?_eq_getElem hlt]
        rfl
      refine ⟨rfl, _, rfl, x, _, dx, _, _, rfl, hT5.at_, c_ProofText T, n_ProofText_steps T, lk_steps _ _ _ _ _ _, _, rfl, st, _, _, _, rfl, rfl, hT5.st, vn_at e1, ?_⟩
      refine hY _ _ (Same.refl _) ?_
      show vn _ = vn _ ++ _
      rw [take_more hm, List.map_append]
      simp [vn]
    · intro H' s5 hD'
      rw [vn_len, List.take_length, vn_vis] at hD'
      refine ⟨D, _, rfl, SqL.of hD', ?_⟩
      have e : (List.map (fun n : Nat => (n : Int)) ((targetItems t).map sz)).sum = ((treeTotal t : Nat) : Int) := by
        show _ = ((((targetItems t).map sz).sum : Nat) : Int)
        induction (targetItems t).map sz with
        | nil => rfl
        | cons a l ih => simp [ih]
      rw [e]
      exact k H' (s1.trans s5)
end SPW
end
section
set_option Elab.async false
set_option linter.all false
set_option maxRecDepth 100000
set_option maxHeartbeats 4000000
namespace SPW
open PySem PySem.Spec PyProof.Rows L2
open SP (ci co TOk ni gB dep)
open VapcmBase (Bytes word showNat)
open Vapcma (Form Text_ formulas treeSizes count showForm shown)
variable {P : Program} {w : World} {K : PySem.W.Frag} {mg : Str → Option Value} {base : Heap}
/-- a + b, both new lists -/
theorem catL {H : Hp} {p q : Addr} {a b : List Int} {Q : VK} (hp : H p = some (.lst (vis a))) (hq : H q = some (.lst (vis b))) (hz : a.length + b.length ≤ 1000000) (k : ∀ r H', Same H H' → H r = none → H' r = some (.lst (vis (a ++ b))) → Q (.ref r) H') : rCat (.ref p) (.ref q) H Q :=
  ⟨p, q, _, _, rfl, rfl, hp, hq, small_size (by rw [vis_len, vis_len]; omega), fun r hr => k r _ (Same.new hr) hr (by rw [upd_same, vis_append])⟩
/-- a text's signs -/
def cw (z : Str) : List Int := z.cps.toList.map fun n : Nat => (n : Int)
theorem cw_len (z : Str) : (cw z).length = z.cps.size := by simp [cw]
/-- codes(word) -/
def sp_codes (K : PySem.W.Frag) : Sp := fun vs H Q _ => ∃ (z : Str), vs = [.str z] ∧ z.cps.size ≤ 100000 ∧ ∀ H' p, Same H H' → H p = none → H' p = some (.lst (vis (cw z))) → Q (.ref p) H'
abbrev N_codes : List Str := ["word", "sign"]
theorem sc_codes : FnScope N_codes ["word"] (defScope s_codes) := ⟨rfl, rfl, rfl, by decide +kernel, rfl, by decide +kernel, by decide +kernel⟩
theorem g_codes (T : Tx K mg) : GFn P w K mg base CX0 1 "codes" ["word"] (sp_codes K) := by
  refine gfn0 (f_codes T) (t_codes T) sc_codes (fun _ _ _ _ _ _ us hl => match us, hl with | [_], _ => rfl) (fun vs H Q E h => ?_) (fun f cdv A outer s H vs Q E hr h => ⟨_, (pss_one (ps_ret (pe_lc (own := [("sign", 1)]) (g := gName 1) (tt := tYes) rfl sc_codes.nd (pi_str (pv 0)) (blkOk_by (own := [("sign", 1)]) (N := N_codes) (sc := defScope s_codes) (by decide +kernel)) (fun _ _ _ _ _ => (pg_name (i := 1) sc_codes.nd rfl (Or.inl rfl))) (fun _ _ _ _ _ => pts_nil) (fun _ _ _ _ _ => (pe_callB call_ord (by rfl) (t_ord T) (by decide +kernel) (pa_cons (pv 1) pa_nil1)))))), ?_⟩)
  · obtain ⟨z, rfl, _⟩ := h
    rfl
  · obtain ⟨z, rfl, hz, k⟩ := h
    refine ⟨_, rfl, z, rfl, fun D hD => ?_⟩
    refine lcs hD (fun i => vis ((cw z).take i)) rfl (by omega) ?_ ?_
    · intro i c H' hc s5 Y Z hY hZ
      refine ⟨rfl, _, rfl, _, rfl, rfl, hY _ _ (Same.refl _) ?_⟩
      have hc2 : (cw z)[i]? = some (c : Int) := by
        unfold cw
        rw [List.getElem?_map, Array.getElem?_toList, hc]
        rfl
      show vis _ = vis _ ++ _
      rw [take_more hc2, ← vis_snoc]
      rfl
    · intro H' s5 hD'
      refine k H' D s5 hD ?_
      rw [hD', ← cw_len, List.take_length]
/-- what a word's codes are -/
theorem cw_w (z : Str) (b : Bytes) (h : (cw z == ni b) = true) : cw z = ni b := eq_of_beq h
/-- written(f), of a form so deep -/
def sp_written (K : PySem.W.Frag) (d : Nat) : Sp := fun vs H Q _ => ∃ (a : Addr) (F : Form), vs = [.ref a] ∧ SqT K H a (vis (ci F)) ∧ dep F < d ∧ Vapcma.size F ≤ 100 ∧ (∀ v ∈ Vapcma.vars F, v < 1000) ∧
  ∀ H' p, Same H H' → H p = none → H' p = some (.lst (vis (ni (showForm F)))) → Q (.ref p) H'
def sp_guarded (K : PySem.W.Frag) (d : Nat) : Sp := fun vs H Q _ => ∃ (a : Addr) (F : Form), vs = [.ref a] ∧ SqT K H a (vis (ci F)) ∧ dep F < d ∧ Vapcma.size F ≤ 100 ∧ (∀ v ∈ Vapcma.vars F, v < 1000) ∧
  ∀ H' p, Same H H' → H p = none → H' p = some (.lst (vis (ni (gB F)))) → Q (.ref p) H'
abbrev N_guarded : List Str := ["f"]
theorem sc_guarded : FnScope N_guarded ["f"] (defScope s_guarded) := ⟨rfl, rfl, rfl, by decide +kernel, rfl, by decide +kernel, by decide +kernel⟩
abbrev N_written : List Str := ["f", "middle"]
theorem sc_written : FnScope N_written ["f"] (defScope s_written) := ⟨rfl, rfl, rfl, by decide +kernel, rfl, by decide +kernel, by decide +kernel⟩
theorem cw1 : cw "( " = ni (word "( ") := by decide +kernel
theorem cw2 : cw " )" = ni (word " )") := by decide +kernel
theorem cw3 : cw "~ " = ni (word "~ ") := by decide +kernel
theorem cw4 : cw " > " = ni (word " > ") := by decide +kernel
theorem cw5 : cw "axiom " = ni (word "axiom ") := by decide +kernel
theorem cw6 : cw " : " = ni (word " : ") := by decide +kernel
theorem cw7 : cw " ;\n" = ni (word " ;\n") := by decide +kernel
theorem cw8 : cw "row " = ni (word "row ") := by decide +kernel
theorem cw9 : cw ", " = ni (word ", ") := by decide +kernel
theorem cw10 : cw "goal " = ni (word "goal ") := by decide +kernel
theorem cwx (v : Nat) : cw ((("x" : Str)) ++ (Str.ofString (toString (v : Int)))) = ni (showForm (.var v)) := by
  have e : Str.ofString (toString (v : Int)) = ⟨((Nat.toDigits 10 v).map Char.toNat).toArray⟩ := PyProof.Rows.text_ofNat v
  rw [e]
  have e2 : showForm (.var v) = word "x" ++ showNat v := rfl
  rw [e2, SP.ni_append, SP.ni_showNat]
  have e3 : ni (word "x") = [120] := by decide
  rw [e3]
  show List.map _ (Array.toList (_ ++ _)) = _
  rw [Array.toList_append, List.map_append, List.map_map]
  rfl
theorem g_guarded_of (T : Tx K mg) (d j : Nat) (g_written : GFn P w K mg base CX0 (j + 1) "written" ["f"] (sp_written K d)) : GFn P w K mg base CX0 (j + 2) "guarded" ["f"] (sp_guarded K d) := by
  have g_codes : GFn P w K mg base CX0 1 "codes" ["word"] (sp_codes K) := g_codes T
  refine gfn0 (f_guarded T) (t_guarded T) sc_guarded (fun _ _ _ _ _ _ us hl => match us, hl with | [_], _ => rfl) (fun vs H Q E h => ?_) (fun f cdv A outer s H vs Q E hr h => ⟨_, (pss_cons (ps_if (pt_cmpR op_eq (pe_ix (ix_tupK K) (pv 0) pe_int1 (fun _ _ => rfl)) (pe_ci1 (t_IMPLIES T)) (nomark _)) (pss_one (ps_ret (pe_op op_cat (pe_op op_cat (pe_fn g_codes (hr.mono (by omega)) pass0 (pa_cons pe_str1 pa_nil1)) (pe_fn g_written (hr.mono (by omega)) pass0 (pa_cons (pv 0) pa_nil1))) (pe_fn g_codes (hr.mono (by omega)) pass0 (pa_cons pe_str1 pa_nil1)))))
  pss_nil)
  (pss_one (ps_ret (pe_fn g_written (hr.mono (by omega)) pass0 (pa_cons (pv 0) pa_nil1))))), ?_⟩)
  · obtain ⟨a, F, rfl, _⟩ := h
    rfl
  · obtain ⟨a, F, rfl, hA, hd, hs, hv, k⟩ := h
    have hlen := SP.show_len F hv
    refine ⟨_, rfl, a, _, 0, _, rfl, rfl, hA, vis_at (j := 0) (SP.ci_hd F), rfl, _, rfl, ?_⟩
    rw [int_dec]
    by_cases c : SP.hd F = 1
    · refine if_true_of (decide_eq_true c) ?_
      have e : gB F = word "( " ++ (showForm F ++ word " )") := by
        cases F with
        | var v => cases c
        | neg x => cases c
        | imp x y => rfl
      refine ⟨_, rfl, by decide, fun H1 p s1 hp hp1 => ?_⟩
      rw [cw1] at hp1
      refine ⟨_, rfl, a, F, rfl, s1.tup hA, hd, hs, hv, fun H2 q s2 hq hq2 => ?_⟩
      refine catL (s2 _ _ hp1) hq2 (by rw [SP.ni_len, SP.ni_len, show (word "( ").length = 2 by decide]; omega) fun r H3 s3 hr hr3 => ?_
      refine ⟨_, rfl, by decide, fun H4 u s4 hu hu4 => ?_⟩
      rw [cw2] at hu4
      refine catL (s4 _ _ hr3) hu4 (by rw [List.length_append, SP.ni_len, SP.ni_len, SP.ni_len, show (word "( ").length = 2 by decide, show (word " )").length = 2 by decide]; omega) fun r2 H5 s5 hr2 hr5 => ?_
      refine k H5 r2 ((((s1.trans s2).trans s3).trans s4).trans s5) ?_ ?_
      · exact (((s1.trans s2).trans s3).trans s4).free hr2
      · rw [hr5, e, SP.ni_append, SP.ni_append, List.append_assoc]
    · refine if_false_of (decide_eq_false c) ?_
      have e : gB F = showForm F := by
        cases F with
        | var v => rfl
        | neg x => rfl
        | imp x y => exact absurd rfl c
      refine ⟨_, rfl, a, F, rfl, hA, hd, hs, hv, fun H2 q s2 hq hq2 => k H2 q s2 hq ?_⟩
      rw [hq2, e]
theorem g_written_of (T : Tx K mg) (d : Nat) (g_written : GFn P w K mg base CX0 (2 * d + 1) "written" ["f"] (sp_written K d)) (g_guarded : GFn P w K mg base CX0 (2 * d + 2) "guarded" ["f"] (sp_guarded K d)) :
    GFn P w K mg base CX0 (2 * d + 3) "written" ["f"] (sp_written K (d + 1)) := by
  have g_codes : GFn P w K mg base CX0 1 "codes" ["word"] (sp_codes K) := g_codes T
  have g_part_end : GFn P w K mg base CX0 1 "part_end" ["f", "start"] (sp_part_end K) := g_part_end T
  refine gfn0 (f_written T) (t_written T) sc_written (fun _ _ _ _ _ _ us hl => match us, hl with | [_], _ => rfl) (fun vs H Q E h => ?_) (fun f cdv A outer s H vs Q E hr h => ⟨_, (pss_cons (ps_if (pt_cmpR op_eq (pe_ix (ix_tupK K) (pv 0) pe_int1 (fun _ _ => rfl)) (pe_ci1 (t_UNKNOWN T)) (nomark _)) (pss_one (ps_ret (pe_fn g_codes (hr.mono (by omega)) pass0 (pa_cons (pe_op op_add_str pe_str1 (pe_callTy call_str_int (by rfl) (t_str T) (by decide +kernel) (pa_cons (pe_ix (ix_tupK K) (pv 0) pe_int1 (fun _ _ => rfl)) pa_nil1))) pa_nil1))))
  pss_nil)
  (pss_cons (ps_if (pt_cmpR op_eq (pe_ix (ix_tupK K) (pv 0) pe_int1 (fun _ _ => rfl)) (pe_ci1 (t_DENIED T)) (nomark _)) (pss_one (ps_ret (pe_op op_cat (pe_fn g_codes (hr.mono (by omega)) pass0 (pa_cons pe_str1 pa_nil1)) (pe_fn g_guarded (hr.mono (by omega)) pass0 (pa_cons (pe_slice (sl_tupK K) (pv 0) (po_some pe_int1) po_none1) pa_nil1)))))
  pss_nil)
  (pss_cons (ps_set (i := 1) sc_written.nd rfl (Or.inl rfl) (pe_fn g_part_end (hr.mono (by omega)) pass0 (pa_cons (pv 0) (pa_cons pe_int1 pa_nil1))))
  (pss_one (ps_ret (pe_op op_cat (pe_op op_cat (pe_fn g_guarded (hr.mono (by omega)) pass0 (pa_cons (pe_slice (sl_tupK K) (pv 0) (po_some pe_int1) (po_some (pv 1))) pa_nil1)) (pe_fn g_codes (hr.mono (by omega)) pass0 (pa_cons pe_str1 pa_nil1))) (pe_fn g_written (hr.mono (by omega)) pass0 (pa_cons (pe_slice (sl_tupK K) (pv 0) (po_some (pv 1)) po_none1) pa_nil1)))))))), ?_⟩)
  · obtain ⟨a, F, rfl, _⟩ := h
    rfl
  · obtain ⟨a, F, rfl, hA, hd, hs, hv, k⟩ := h
    have hlen := SP.show_len F hv
    refine ⟨_, rfl, a, _, 0, _, rfl, rfl, hA, vis_at (j := 0) (SP.ci_hd F), rfl, _, rfl, ?_⟩
    cases F with
    | var v =>
      refine if_true_of (int_eq 0) ?_
      have hv1 := hv v (by simp [Vapcma.vars])
      refine ⟨_, rfl, a, _, 1, _, rfl, rfl, hA, vis_at (j := 1) (i := (v : Int)) rfl, _, rfl, ?_, _, _, rfl, rfl, ?_, _, rfl, ?_, fun H1 p s1 hp hp1 => ?_⟩
      · have : Nat.log2 v ≤ v := Nat.log2_le_self v
        show Nat.log2 ((v : Int).natAbs) < 1920
        rw [Int.natAbs_natCast]
        omega
      · have e : (Str.ofString (toString (v : Int))).length = (showNat v).length := by
          rw [show Str.ofString (toString (v : Int)) = ⟨((Nat.toDigits 10 v).map Char.toNat).toArray⟩ from PyProof.Rows.text_ofNat v]
          show Array.size _ = _
          rw [List.size_toArray, List.length_map, showNat, List.length_map]
        have h3 := SP.showNat_len hv1
        rw [← e] at h3
        refine small_size ?_
        have h4 : ("x" : Str).length = 1 := by decide
        omega
      · rw [← cw_len, cwx, SP.ni_len]
        have e : showForm (.var v) = word "x" ++ showNat v := rfl
        rw [e, List.length_append, show (word "x").length = 1 by decide]
        have h3 := SP.showNat_len hv1
        omega
      · rw [cwx] at hp1
        exact k H1 p s1 hp hp1
    | neg x =>
      refine if_false_of (int_ne (i := 2) (by decide)) ?_
      refine ⟨_, rfl, a, _, 0, _, rfl, rfl, hA, vis_at (j := 0) (SP.ci_hd _), rfl, _, rfl, ?_⟩
      refine if_true_of (int_eq 2) ?_
      refine ⟨_, rfl, by decide, fun H1 p s1 hp hp1 => ?_⟩
      rw [cw3] at hp1
      refine ⟨_, rfl, _, rfl, ?_⟩
      refine slE (s1.tup hA) (pre := [2]) (mid := ci x) (SP.ci_neg x) (by rfl) fun q H2 s2 hq => ?_
      simp only [dep, Vapcma.size, Vapcma.vars] at hd hs hv
      refine ⟨q, x, rfl, hq, by omega, by omega, hv, fun H3 r s3 hr hr3 => ?_⟩
      rw [SP.show_neg, List.length_append] at hlen
      refine catL (s3 _ _ (s2 _ _ hp1)) hr3 (by rw [SP.ni_len, SP.ni_len]; simp only [Vapcma.size] at hlen; omega) fun r2 H4 s4 hr2 hr4 => ?_
      have s5 := (s1.trans s2).trans s3
      refine k H4 r2 (s5.trans s4) (s5.free hr2) ?_
      rw [hr4, SP.show_neg, SP.ni_append]
    | imp x y =>
      refine if_false_of (int_ne (i := 1) (by decide)) ?_
      refine ⟨_, rfl, a, _, 0, _, rfl, rfl, hA, vis_at (j := 0) (SP.ci_hd _), rfl, _, rfl, ?_⟩
      refine if_false_of (int_ne (i := 1) (by decide)) ?_
      simp only [dep, Vapcma.size] at hd hs
      have hvx : ∀ v ∈ Vapcma.vars x, v < 1000 := fun v h => hv v (by simp [Vapcma.vars, h])
      have hvy : ∀ v ∈ Vapcma.vars y, v < 1000 := fun v h => hv v (by simp [Vapcma.vars, h])
      have lx := SP.show_len x hvx
      have ly := SP.show_len y hvy
      refine ⟨_, rfl, a, ci (.imp x y), [1], ci y, x, rfl, hA, by simp [SP.ci_imp], ?_⟩
      refine ⟨_, rfl, _, rfl, _, rfl, _, rfl, ?_⟩
      refine slA hA (pre := [1]) (mid := ci x) (suf := ci y) (by simp [SP.ci_imp]) (by rfl) (by rfl) fun q H1 s1 hq => ?_
      refine ⟨q, x, rfl, hq, by omega, by omega, hvx, fun H2 p s2 hp hp2 => ?_⟩
      refine ⟨_, rfl, by decide, fun H3 u s3 hu hu3 => ?_⟩
      rw [cw4] at hu3
      refine catL (s3 _ _ hp2) hu3 (by rw [SP.ni_len, SP.ni_len, show (word " > ").length = 3 by decide]; omega) fun r H4 s4 hr hr4 => ?_
      have s5 := ((s1.trans s2).trans s3).trans s4
      refine ⟨_, rfl, _, rfl, _, rfl, ?_⟩
      refine slE (s5.tup hA) (pre := 1 :: ci x) (mid := ci y) (by simp [SP.ci_imp]) (by simp; omega) fun q2 H5 s6 hq2 => ?_
      refine ⟨q2, y, rfl, hq2, by omega, by omega, hvy, fun H6 r2 s7 hr2 hr6 => ?_⟩
      refine catL (s7 _ _ (s6 _ _ hr4)) hr6 (by rw [List.length_append, SP.ni_len, SP.ni_len, SP.ni_len, show (word " > ").length = 3 by decide]; omega) fun r3 H7 s8 hr3 hr7 => ?_
      have s9 := (s5.trans s6).trans s7
      refine k H7 r3 (s9.trans s8) (s9.free hr3) ?_
      rw [hr7, SP.show_imp, SP.ni_append, SP.ni_append, List.append_assoc]
theorem g_written (T : Tx K mg) : ∀ d, GFn P w K mg base CX0 (2 * d + 1) "written" ["f"] (sp_written K d)
  | 0 => gfn0 (k := 0) (f_written T) (t_written T) sc_written (fun _ _ _ _ _ _ us hl => match us, hl with | [_], _ => rfl) (fun vs H Q E ⟨a, F, _, _, h, _⟩ => absurd h (Nat.not_lt_zero _)) (fun _ _ _ _ _ _ _ _ _ _ ⟨a, F, _, _, h, _⟩ => absurd h (Nat.not_lt_zero _))
  | d + 1 => g_written_of T d (g_written T d) (g_guarded_of T d (2 * d) (g_written T d))
end SPW
end
section
set_option Elab.async false
set_option linter.all false
set_option maxRecDepth 100000
set_option maxHeartbeats 4000000
namespace SPW
open PySem PySem.Spec PyProof.Rows L2
open SP (ci co TOk ni gB dep fsTo axL rwL goL)
open VapcmBase (Bytes word showNat)
open Vapcma (Form Text_ formulas treeSizes count showForm shown nameAt)
variable {P : Program} {w : World} {K : PySem.W.Frag} {mg : Str → Option Value} {base : Heap}
/-- axiom_line(name, f) -/
def sp_axiom_line (K : PySem.W.Frag) : Sp := fun vs H Q _ => ∃ (n a : Addr) (A : Vapcma.Axiom), vs = [.ref n, .ref a] ∧ SqT K H n (vis (ni A.name)) ∧ A.name.length ≤ 16 ∧ SqT K H a (vis (ci A.f)) ∧ Vapcma.size A.f ≤ 40 ∧ (∀ v ∈ Vapcma.vars A.f, v < 1000) ∧
  ∀ H' p, Same H H' → H p = none → H' p = some (.lst (vis (ni (axL A)))) → Q (.ref p) H'
abbrev N_axiom_line : List Str := ["name", "f"]
theorem sc_axiom_line : FnScope N_axiom_line ["name", "f"] (defScope s_axiom_line) := ⟨rfl, rfl, rfl, by decide +kernel, rfl, by decide +kernel, by decide +kernel⟩
theorem g_axiom_line (T : Tx K mg) : GFn P w K mg base CX0 82 "axiom_line" ["name", "f"] (sp_axiom_line K) := by
  have g_codes : GFn P w K mg base CX0 1 "codes" ["word"] (sp_codes K) := g_codes T
  have g_written : GFn P w K mg base CX0 81 "written" ["f"] (sp_written K 40) := g_written T 40
  refine gfn0 (f_axiom_line T) (t_axiom_line T) sc_axiom_line (fun _ _ _ _ _ _ us hl => match us, hl with | [_, _], _ => rfl) (fun vs H Q E h => ?_) (fun f cdv A outer s H vs Q E hr h => ⟨_, (pss_one (ps_ret (pe_op op_cat (pe_op op_cat (pe_op op_cat (pe_op op_cat (pe_fn g_codes (hr.mono (by omega)) pass0 (pa_cons pe_str1 pa_nil1)) (pe_callTy (call_listK K) (by rfl) (t_list T) (by decide +kernel) (pa_cons (pv 0) pa_nil1))) (pe_fn g_codes (hr.mono (by omega)) pass0 (pa_cons pe_str1 pa_nil1))) (pe_fn g_written (hr.mono (by omega)) pass0 (pa_cons (pv 1) pa_nil1))) (pe_fn g_codes (hr.mono (by omega)) pass0 (pa_cons pe_str1 pa_nil1))))), ?_⟩)
  · obtain ⟨n, a, A', rfl, _⟩ := h
    rfl
  · obtain ⟨n, a, B, rfl, hN, hNl, hA, hs, hv, k⟩ := h
    have hlen := (SP.show_len B.f hv).1
    have hdp := SP.dep_lt_size B.f
    refine ⟨_, rfl, by decide, fun H1 p1 s1 f1 h1 => ?_⟩
    rw [cw5] at h1
    refine ⟨_, rfl, n, _, rfl, .inr (s1.tup hN), fun p2 f2 => ?_⟩
    have s2 : Same H1 (upd H1 p2 (.lst (vis (ni B.name)))) := Same.new f2
    refine catL (s2 _ _ h1) upd_same (by rw [SP.ni_len, SP.ni_len, show (word "axiom ").length = 6 by decide]; omega) fun p3 H3 s3 f3 h3 => ?_
    refine ⟨_, rfl, by decide, fun H4 p4 s4 f4 h4 => ?_⟩
    rw [cw6] at h4
    refine catL (s4 _ _ h3) h4 (by simp only [List.length_append, SP.ni_len, show (word "axiom ").length = 6 by decide, show (word " : ").length = 3 by decide]; omega) fun p5 H5 s5 f5 h5 => ?_
    have s6 := (((s1.trans s2).trans s3).trans s4).trans s5
    refine ⟨_, rfl, a, B.f, rfl, s6.tup hA, by omega, by omega, hv, fun H7 p7 s7 f7 h7 => ?_⟩
    refine catL (s7 _ _ h5) h7 (by simp only [List.length_append, SP.ni_len, show (word "axiom ").length = 6 by decide, show (word " : ").length = 3 by decide]; omega) fun p8 H8 s8 f8 h8 => ?_
    refine ⟨_, rfl, by decide, fun H9 p9 s9 f9 h9 => ?_⟩
    rw [cw7] at h9
    refine catL (s9 _ _ h8) h9 (by simp only [List.length_append, SP.ni_len, show (word "axiom ").length = 6 by decide, show (word " : ").length = 3 by decide, show (word " ;\n").length = 3 by decide]; omega) fun p10 H10 s10 f10 h10 => ?_
    have s11 := ((s6.trans s7).trans s8).trans s9
    refine k H10 p10 (s11.trans s10) (s11.free f10) ?_
    rw [h10, SP.axL_eq]
    simp only [SP.ni_append]
/-- goal_line(f) -/
def sp_goal_line (K : PySem.W.Frag) : Sp := fun vs H Q _ => ∃ (a : Addr) (F : Form), vs = [.ref a] ∧ SqT K H a (vis (ci F)) ∧ Vapcma.size F ≤ 40 ∧ (∀ v ∈ Vapcma.vars F, v < 1000) ∧
  ∀ H' p, Same H H' → H p = none → H' p = some (.lst (vis (ni (goL F)))) → Q (.ref p) H'
abbrev N_goal_line : List Str := ["f"]
theorem sc_goal_line : FnScope N_goal_line ["f"] (defScope s_goal_line) := ⟨rfl, rfl, rfl, by decide +kernel, rfl, by decide +kernel, by decide +kernel⟩
theorem g_goal_line (T : Tx K mg) : GFn P w K mg base CX0 82 "goal_line" ["f"] (sp_goal_line K) := by
  have g_codes : GFn P w K mg base CX0 1 "codes" ["word"] (sp_codes K) := g_codes T
  have g_written : GFn P w K mg base CX0 81 "written" ["f"] (sp_written K 40) := g_written T 40
  refine gfn0 (f_goal_line T) (t_goal_line T) sc_goal_line (fun _ _ _ _ _ _ us hl => match us, hl with | [_], _ => rfl) (fun vs H Q E h => ?_) (fun f cdv A outer s H vs Q E hr h => ⟨_, (pss_one (ps_ret (pe_op op_cat (pe_op op_cat (pe_fn g_codes (hr.mono (by omega)) pass0 (pa_cons pe_str1 pa_nil1)) (pe_fn g_written (hr.mono (by omega)) pass0 (pa_cons (pv 0) pa_nil1))) (pe_fn g_codes (hr.mono (by omega)) pass0 (pa_cons pe_str1 pa_nil1))))), ?_⟩)
  · obtain ⟨a, A', rfl, _⟩ := h
    rfl
  · obtain ⟨a, F, rfl, hA, hs, hv, k⟩ := h
    have hlen := (SP.show_len F hv).1
    have hdp := SP.dep_lt_size F
    refine ⟨_, rfl, by decide, fun H1 p1 s1 f1 h1 => ?_⟩
    rw [cw10] at h1
    refine ⟨_, rfl, a, F, rfl, s1.tup hA, by omega, by omega, hv, fun H2 p2 s2 f2 h2 => ?_⟩
    refine catL (s2 _ _ h1) h2 (by simp only [SP.ni_len, show (word "goal ").length = 5 by decide]; omega) fun p3 H3 s3 f3 h3 => ?_
    refine ⟨_, rfl, by decide, fun H4 p4 s4 f4 h4 => ?_⟩
    rw [cw7] at h4
    refine catL (s4 _ _ h3) h4 (by simp only [List.length_append, SP.ni_len, show (word "goal ").length = 5 by decide, show (word " ;\n").length = 3 by decide]; omega) fun p5 H5 s5 f5 h5 => ?_
    have s6 := ((s1.trans s2).trans s3).trans s4
    refine k H5 p5 (s6.trans s5) (s6.free f5) ?_
    rw [h5, SP.goL_eq]
    simp only [SP.ni_append]
def rwB (n m o : Bytes) : Bytes := word "row " ++ n ++ word " : " ++ m ++ word ", " ++ o ++ word " ;\n"
/-- row_line(name, first, second) -/
def sp_row_line (K : PySem.W.Frag) : Sp := fun vs H Q _ => ∃ (a b c : Addr) (n m o : Bytes), vs = [.ref a, .ref b, .ref c] ∧ SqT K H a (vis (ni n)) ∧ SqT K H b (vis (ni m)) ∧ SqT K H c (vis (ni o)) ∧ n.length ≤ 16 ∧ m.length ≤ 16 ∧ o.length ≤ 16 ∧
  ∀ H' p, Same H H' → H p = none → H' p = some (.lst (vis (ni (rwB n m o)))) → Q (.ref p) H'
abbrev N_row_line : List Str := ["name", "first", "second"]
theorem sc_row_line : FnScope N_row_line ["name", "first", "second"] (defScope s_row_line) := ⟨rfl, rfl, rfl, by decide +kernel, rfl, by decide +kernel, by decide +kernel⟩
theorem g_row_line (T : Tx K mg) : GFn P w K mg base CX0 82 "row_line" ["name", "first", "second"] (sp_row_line K) := by
  have g_codes : GFn P w K mg base CX0 1 "codes" ["word"] (sp_codes K) := g_codes T
  refine gfn0 (f_row_line T) (t_row_line T) sc_row_line (fun _ _ _ _ _ _ us hl => match us, hl with | [_, _, _], _ => rfl) (fun vs H Q E h => ?_) (fun f cdv A outer s H vs Q E hr h => ⟨_, (pss_one (ps_ret (pe_op op_cat (pe_op op_cat (pe_op op_cat (pe_op op_cat (pe_op op_cat (pe_op op_cat (pe_fn g_codes (hr.mono (by omega)) pass0 (pa_cons pe_str1 pa_nil1)) (pe_callTy (call_listK K) (by rfl) (t_list T) (by decide +kernel) (pa_cons (pv 0) pa_nil1))) (pe_fn g_codes (hr.mono (by omega)) pass0 (pa_cons pe_str1 pa_nil1))) (pe_callTy (call_listK K) (by rfl) (t_list T) (by decide +kernel) (pa_cons (pv 1) pa_nil1))) (pe_fn g_codes (hr.mono (by omega)) pass0 (pa_cons pe_str1 pa_nil1))) (pe_callTy (call_listK K) (by rfl) (t_list T) (by decide +kernel) (pa_cons (pv 2) pa_nil1))) (pe_fn g_codes (hr.mono (by omega)) pass0 (pa_cons pe_str1 pa_nil1))))), ?_⟩)
  · obtain ⟨a, b, c, n, m, o, rfl, _⟩ := h
    rfl
  · obtain ⟨a, b, c, n, m, o, rfl, hA, hB, hC, ln, lm, lo, k⟩ := h
    have w1 : (word "row ").length = 4 := by decide
    have w2 : (word " : ").length = 3 := by decide
    have w3 : (word ", ").length = 2 := by decide
    have w4 : (word " ;\n").length = 3 := by decide
    refine ⟨_, rfl, by decide, fun H1 p1 s1 f1 h1 => ?_⟩
    rw [cw8] at h1
    refine ⟨_, rfl, a, _, rfl, .inr (s1.tup hA), fun p2 f2 => ?_⟩
    have s2 : Same H1 (upd H1 p2 (.lst (vis (ni n)))) := Same.new f2
    refine catL (s2 _ _ h1) upd_same (by simp only [SP.ni_len]; omega) fun p3 H3 s3 f3 h3 => ?_
    refine ⟨_, rfl, by decide, fun H4 p4 s4 f4 h4 => ?_⟩
    rw [cw6] at h4
    refine catL (s4 _ _ h3) h4 (by simp only [List.length_append, SP.ni_len]; omega) fun p5 H5 s5 f5 h5 => ?_
    have s6 := (((s1.trans s2).trans s3).trans s4).trans s5
    refine ⟨_, rfl, b, _, rfl, .inr (s6.tup hB), fun p6 f6 => ?_⟩
    have s7 : Same H5 (upd H5 p6 (.lst (vis (ni m)))) := Same.new f6
    refine catL (s7 _ _ h5) upd_same (by simp only [List.length_append, SP.ni_len]; omega) fun p8 H8 s8 f8 h8 => ?_
    refine ⟨_, rfl, by decide, fun H9 p9 s9 f9 h9 => ?_⟩
    rw [cw9] at h9
    refine catL (s9 _ _ h8) h9 (by simp only [List.length_append, SP.ni_len]; omega) fun p10 H10 s10 f10 h10 => ?_
    have s11 := (((s6.trans s7).trans s8).trans s9).trans s10
    refine ⟨_, rfl, c, _, rfl, .inr (s11.tup hC), fun p12 f12 => ?_⟩
    have s12 : Same H10 (upd H10 p12 (.lst (vis (ni o)))) := Same.new f12
    refine catL (s12 _ _ h10) upd_same (by simp only [List.length_append, SP.ni_len]; omega) fun p13 H13 s13 f13 h13 => ?_
    refine ⟨_, rfl, by decide, fun H14 p14 s14 f14 h14 => ?_⟩
    rw [cw7] at h14
    refine catL (s14 _ _ h13) h14 (by simp only [List.length_append, SP.ni_len]; omega) fun p15 H15 s15 f15 h15 => ?_
    have s16 := ((s11.trans s12).trans s13).trans s14
    refine k H15 p15 (s16.trans s15) (s16.free f15) ?_
    rw [h15, rwB]
    simp only [SP.ni_append]
end SPW
end
section
set_option Elab.async false
set_option linter.all false
set_option maxRecDepth 100000
set_option maxHeartbeats 4000000
namespace SPW
open PySem PySem.Spec PyProof.Rows L2
open SP (ci co TOk ni gB dep fsTo axL rwL goL)
open VapcmBase (Bytes word showNat)
open Vapcma (Form Text_ formulas treeSizes count showForm shown nameAt)
variable {P : Program} {w : World} {K : PySem.W.Frag} {mg : Str → Option Value} {base : Heap}
theorem fsTo_ax {t : Text_} (ok : TOk t) {i : Nat} {A : Vapcma.Axiom} (h : t.axioms[i]? = some A) : ∀ k, k ≤ t.rows.length → (fsTo t k)[i]? = some (some A.f)
  | 0, _ => by
    rw [fsTo, List.take_zero, List.foldl_nil, List.getElem?_map, h]
    show some (some (Vapcma.normal A.f)) = _
    rw [(ok.ax A (List.mem_of_getElem? h)).1]
  | k + 1, hk => by
    rw [SP.fsTo_step (SP.get_of_lt (show k < t.rows.length by omega))]
    have := fsTo_ax ok h k (by omega)
    rw [List.getElem?_append_left (List.getElem?_eq_some_iff.mp this).1]
    exact this
theorem formulas_ax {t : Text_} (ok : TOk t) {i : Nat} {A : Vapcma.Axiom} (h : t.axioms[i]? = some A) : (formulas t)[i]? = some (some A.f) := by
  rw [← SP.fsTo_all]
  exact fsTo_ax ok h _ (Nat.le_refl _)
theorem nms_len {t : Text_} : (nms t).length = count t := by simp [nms, count]
theorem nms_at {t : Text_} {i : Nat} (h : i < count t) : (nms t)[i]? = some (nameAt t i) := by
  have e := List.getElem?_eq_getElem (l := nms t) (i := i) (by rw [nms_len]; exact h)
  unfold Vapcma.nameAt
  show _ = some (((nms t)[i]?).getD [])
  rw [e]
  rfl
theorem nms_small {t : Text_} (ok : TOk t) {i : Nat} (h : i < count t) : (nameAt t i).length ≤ 16 := by
  have := List.mem_of_getElem? (nms_at h)
  rw [nms, List.mem_append, List.mem_map, List.mem_map] at this
  rcases this with ⟨a, ha, e⟩ | ⟨a, ha, e⟩
  · rw [← e]; exact ok.nma a ha
  · rw [← e]; exact ok.nmr a ha
theorem flat_len {A : Type} {f : A → Bytes} {B : Nat} : ∀ {l : List A}, (∀ a ∈ l, (f a).length ≤ B) → (l.flatMap f).length ≤ l.length * B
  | [], _ => by simp
  | a :: l, h => by
    have h1 := h a (by simp)
    have h2 := flat_len (l := l) fun b hb => h b (by simp [hb])
    simp only [List.flatMap_cons, List.length_append, List.length_cons, Nat.succ_mul]
    omega
theorem wl_ok : (word "axiom ").length = 6 ∧ (word " : ").length = 3 ∧ (word " ;\n").length = 3 ∧ (word "row ").length = 4 ∧ (word ", ").length = 2 ∧ (word "goal ").length = 5 := by decide
theorem axL_len {A : Vapcma.Axiom} (h : A.name.length ≤ 16) (hs : Vapcma.size A.f ≤ 40) (hv : ∀ v ∈ Vapcma.vars A.f, v < 1000) : (axL A).length ≤ 500 := by
  have := (SP.show_len A.f hv).1
  obtain ⟨w1, w2, w3, _⟩ := wl_ok
  rw [SP.axL_eq]
  simp only [List.length_append]
  omega
theorem goL_len {F : Form} (hs : Vapcma.size F ≤ 40) (hv : ∀ v ∈ Vapcma.vars F, v < 1000) : (goL F).length ≤ 500 := by
  have := (SP.show_len F hv).1
  obtain ⟨w1, w2, w3, w4, w5, w6⟩ := wl_ok
  rw [SP.goL_eq]
  simp only [List.length_append]
  omega
theorem rwB_len {a b c : Bytes} (h1 : a.length ≤ 16) (h2 : b.length ≤ 16) (h3 : c.length ≤ 16) : (rwB a b c).length ≤ 500 := by
  obtain ⟨w1, w2, w3, w4, w5, w6⟩ := wl_ok
  simp only [rwB, List.length_append]
  omega
/-- one_form(text) -/
def sp_one_form (K : PySem.W.Frag) : Sp := fun vs H Q _ => ∃ (x : Addr) (t : Text_), vs = [.ref x] ∧ TextAt K H x t ∧ ∀ H' p, Same H H' → H p = none → H' p = some (.lst (vis (ni (shown t)))) → Q (.ref p) H'
abbrev N_one_form : List Str := ["text", "out", "item", "at", "first", "second", "goal"]
theorem sc_one_form : FnScope N_one_form ["text"] (defScope s_one_form) := ⟨rfl, rfl, rfl, by decide +kernel, rfl, by decide +kernel, by decide +kernel⟩
theorem g_one_form (T : Tx K mg) : GFn P w K mg base CX0 83 "one_form" ["text"] (sp_one_form K) := by
  have g_axiom_line : GFn P w K mg base CX0 82 "axiom_line" ["name", "f"] (sp_axiom_line K) := g_axiom_line T
  have g_row_line : GFn P w K mg base CX0 82 "row_line" ["name", "first", "second"] (sp_row_line K) := g_row_line T
  have g_goal_line : GFn P w K mg base CX0 82 "goal_line" ["f"] (sp_goal_line K) := g_goal_line T
  refine gfn0 (f_one_form T) (t_one_form T) sc_one_form (fun _ _ _ _ _ _ us hl => match us, hl with | [_], _ => rfl) (fun vs H Q E h => ?_) (fun f cdv A outer s H vs Q E hr h => ⟨_, (pss_cons (ps_set (i := 1) sc_one_form.nd rfl (Or.inl rfl) (pe_lst pa_nil1))
  (pss_cons (ps_for PassesOwn.never rfl (pi_range1 rfl (t_range T) (pa_cons (pe_fldK K (pv 0)) pa_nil1)) (pg_name (i := 2) sc_one_form.nd rfl (Or.inl rfl))
  (pss_one (ps_expr (pe_bmK K PySem.F.plainAttrs_list PySem.F.slot_list_extend PySem.F.type_list_extend mt_extend (pv 1) (pa_cons (pe_fn g_axiom_line (hr.mono (by omega)) pass0 (pa_cons (pe_ix (ix_listK K) (pe_fldK K (pv 0)) (pv 2) (fun _ _ => rfl)) (pa_cons (pe_ix (ix_listK K) (pe_fldK K (pv 0)) (pv 2) (fun _ _ => rfl)) pa_nil1))) pa_nil1)))))
  (pss_cons (ps_for PassesOwn.never rfl (pi_enumK K (by rfl) (t_enumerate T) (pa_cons (pe_fldK K (pv 0)) pa_nil1)) (pg_tupK K (n := 2) rfl (pgs_cons (pg_name (i := 3) sc_one_form.nd rfl (Or.inl rfl)) (pgs_cons (pg_tupK K (n := 2) rfl (pgs_cons (pg_name (i := 4) sc_one_form.nd rfl (Or.inl rfl)) (pgs_cons (pg_name (i := 5) sc_one_form.nd rfl (Or.inl rfl)) pgs_nil))) pgs_nil)))
  (pss_one (ps_expr (pe_bmK K PySem.F.plainAttrs_list PySem.F.slot_list_extend PySem.F.type_list_extend mt_extend (pv 1) (pa_cons (pe_fn g_row_line (hr.mono (by omega)) pass0 (pa_cons (pe_ix (ix_listK K) (pe_fldK K (pv 0)) (pe_op op_add (pe_fldK K (pv 0)) (pv 3)) (fun _ _ => rfl)) (pa_cons (pe_ix (ix_listK K) (pe_fldK K (pv 0)) (pv 4) (fun _ _ => rfl)) (pa_cons (pe_ix (ix_listK K) (pe_fldK K (pv 0)) (pv 5) (fun _ _ => rfl)) pa_nil1)))) pa_nil1)))))
  (pss_cons (ps_for PassesOwn.never rfl (pi_listK K (pe_fldK K (pv 0))) (pg_name (i := 6) sc_one_form.nd rfl (Or.inl rfl))
  (pss_one (ps_expr (pe_bmK K PySem.F.plainAttrs_list PySem.F.slot_list_extend PySem.F.type_list_extend mt_extend (pv 1) (pa_cons (pe_fn g_goal_line (hr.mono (by omega)) pass0 (pa_cons (pv 6) pa_nil1)) pa_nil1)))))
  (pss_one (ps_ret (pv 1))))))), ?_⟩)
  · obtain ⟨x, t, rfl, _⟩ := h
    rfl
  · obtain ⟨x, t, rfl, ⟨dx, nm, pa, gl, fo, st, hT⟩, k⟩ := h
    have hct : count t = t.axioms.length + t.rows.length := rfl
    have ok := hT.ok
    have c1 := ok.na
    have c2 := ok.nr
    have c3 := ok.ng
    have ax40 : ∀ A ∈ t.axioms, Vapcma.size A.f ≤ 40 ∧ (∀ v ∈ Vapcma.vars A.f, v < 1000) ∧ A.name.length ≤ 16 := fun A hA => by
      have h := ok.ax A hA
      exact ⟨h.2, (SP.fine_normal h.1 (by omega)).2, ok.nma A hA⟩
    have go40 : ∀ F ∈ t.goals, Vapcma.size F ≤ 40 ∧ ∀ v ∈ Vapcma.vars F, v < 1000 := fun F hF => by
      have h := ok.go F hF
      exact ⟨h.2, (SP.fine_normal h.1 (by omega)).2⟩
    have hB1 : (t.axioms.flatMap axL).length ≤ 6 * 500 := Nat.le_trans (flat_len fun A hA => by obtain ⟨h1, h2, h3⟩ := ax40 A hA; exact axL_len h3 h1 h2) (Nat.mul_le_mul_right _ c1)
    have rwE : ∀ (j : Nat) (r : Vapcma.Row), t.rows[j]? = some r → rwL t r = rwB (nameAt t (t.axioms.length + j)) (nameAt t r.i) (nameAt t r.j) ∧ r.i < count t ∧ r.j < count t ∧ t.axioms.length + j < count t := by
      intro j r hr
      have hlt := (List.getElem?_eq_some_iff.mp hr).1
      have h := ok.rw j r hr
      refine ⟨?_, by omega, by omega, by omega⟩
      rw [SP.rwL_eq, rwB]
      have e : nameAt t (t.axioms.length + j) = r.name := by
        unfold Vapcma.nameAt
        rw [List.getElem?_append_right (by simp)]
        simp [hr]
      rw [e]
    have hB2 : (t.rows.flatMap (rwL t)).length ≤ 24 * 500 := Nat.le_trans (flat_len fun r hr => by
      obtain ⟨j, hj, e⟩ := List.mem_iff_getElem.mp hr
      obtain ⟨h1, h2, h3, h4⟩ := rwE j r (by rw [List.getElem?_eq_getElem hj, e])
      rw [h1]
      exact rwB_len (nms_small ok h4) (nms_small ok h2) (nms_small ok h3)) (Nat.mul_le_mul_right _ c2)
    have hB3 : (t.goals.flatMap goL).length ≤ 4 * 500 := Nat.le_trans (flat_len fun F hF => by obtain ⟨h1, h2⟩ := go40 F hF; exact goL_len h1 h2) (Nat.mul_le_mul_right _ c3)
    have pre : ∀ {A : Type} (f : A → Bytes) (l : List A) (i : Nat), ((l.take i).flatMap f).length ≤ (l.flatMap f).length := by
      intro A f l i
      have e := congrArg (fun m => (List.flatMap f m).length) (List.take_append_drop i l)
      simp only [List.flatMap_append, List.length_append] at e
      omega
    refine ⟨small_size (by simp), fun o ho => ?_⟩
    have s0 : Same H (upd H o (.lst [])) := Same.new ho
    -- o is made longer
    have ext : ∀ (H1 : Hp) (q : Addr) (a b : List Int) (Z : VK), Same H H1 → H1 o = some (.lst (vis a)) → H1 q = some (.lst (vis b)) → a.length ≤ 100000 → b.length ≤ 100000 → (∀ H2, Same H H2 → H2 o = some (.lst (vis (a ++ b))) → Z .non H2) → rExtend (.ref o) [.ref q] H1 Z := by
      intro H1 q a b Z s1 h1 h2 l1 l2 z
      refine ⟨o, q, _, _, rfl, rfl, h1, h2, small_size (by rw [vis_len, vis_len]; omega), z _ (s1.mut ho) ?_⟩
      rw [upd_same, vis_append]
    have hT0 := hT.same s0
    refine ⟨_, rfl, x, _, dx, _, _, rfl, hT0.at_, c_ProofText T, n_ProofText_axioms T, lk_axioms _ _ _ _ _ _, _, rfl, by omega, by omega, ?_⟩
    rw [Int.toNat_natCast]
    refine for_range (fun i σ' H' => ∃ (v2 : Option V), σ' = [some (.ref x), some (.ref o), v2, none, none, none, none] ∧ Same H H' ∧ H' o = some (.lst (vis (ni ((t.axioms.take i).flatMap axL)))))
      ⟨none, rfl, s0, upd_same⟩ ?_ ?_
    · rintro i σ' H' hi ⟨v2, rfl, s1, ho1⟩
      have hT1 := hT.same s1
      have hA := SP.get_of_lt hi
      generalize t.axioms[i] = A at hA
      obtain ⟨h40, hv, h16⟩ := ax40 A (List.mem_of_getElem? hA)
      obtain ⟨ns, n1, n2⟩ := hT1.parts.nm
      have hnm : nameAt t i = A.name := by
        unfold Vapcma.nameAt
        rw [List.getElem?_append_left (by simpa using hi)]
        simp [hA]
      obtain ⟨na, hna, hnat⟩ := n2.get' (i := i) (l := ni (nameAt t i)) (by rw [List.getElem?_map, nms_at (by omega)]; rfl)
      rw [hnm] at hnat
      obtain ⟨fs, f1, f2⟩ := hT1.fo.ex
      obtain ⟨fa, hfa, hfat⟩ := f2.get' (i := i) (l := ci A.f) (by rw [List.getElem?_map, formulas_ax ok hA]; rfl)
      have ei : (0 : Int) + (i : Int) = (i : Int) := by omega
      rw [ei]
      refine ⟨_, rfl, .inl ⟨rfl, _, SqL.of ho1⟩, ?_⟩
      refine ⟨_, rfl, x, _, dx, _, _, rfl, hT1.at_, c_ProofText T, n_ProofText_names T, lk_names _ _ _ _ _ _, _, rfl, nm, _, _, .ref na, rfl, rfl, n1, atI_nat (vr_get hna), ?_⟩
      refine ⟨_, rfl, x, _, dx, _, _, rfl, hT1.at_, c_ProofText T, n_ProofText_formulas T, lk_formulas _ _ _ _ _ _, _, rfl, fo, _, _, .ref fa, rfl, rfl, f1, atI_nat (vr_get hfa), ?_⟩
      refine ⟨na, fa, A, rfl, hnat, h16, hfat, h40, hv, fun H2 q s2 hq hq2 => ?_⟩
      have p1 := pre axL t.axioms i
      have p2 := axL_len h16 h40 hv
      refine ext H2 q _ _ _ (s1.trans s2) (s2 _ _ ho1) hq2 (by rw [SP.ni_len]; omega) (by rw [SP.ni_len]; omega) fun H3 s3 h3 => ?_
      refine ⟨_, rfl, s3, ?_⟩
      rw [h3, take_more hA, List.flatMap_append, SP.ni_append]
      simp
    rintro σ' H' ⟨v2, rfl, s1, ho1⟩
    rw [List.take_length] at ho1
    have hT1 := hT.same s1
    obtain ⟨ps, q1, q2⟩ := hT.parts.pa
    have hpl := q2.len
    rw [List.length_map] at hpl
    refine ⟨_, rfl, x, _, dx, _, _, rfl, hT1.at_, c_ProofText T, n_ProofText_pairs T, lk_pairs _ _ _ _ _ _, pa, _, rfl, s1.seq q1, ?_⟩
    refine for_enum (K := K) (a := pa) (xs := vr ps) (fun i σ' H' => ∃ (v2 v3 v4 v5 : Option V), σ' = [some (.ref x), some (.ref o), v2, v3, v4, v5, none] ∧ Same H H' ∧ H' o = some (.lst (vis (ni (t.axioms.flatMap axL ++ (t.rows.take i).flatMap (rwL t))))))
      ⟨v2, none, none, none, rfl, s1, by simpa using ho1⟩ (fun i σ' H' _ ⟨_, _, _, _, _, s, _⟩ => s.seq q1) ?_ ?_
    · rintro i xv T' σ' H' hx ⟨v2, v3, v4, v5, rfl, s2, ho2⟩ hT'
      obtain ⟨c, hc, rfl⟩ := vr_inv hx
      have hir : i < t.rows.length := by have := (List.getElem?_eq_some_iff.mp hc).1; omega
      have s3 : Same H (upd H' T' (.tup [.int (i : Int), .ref c])) := s2.trans (Same.new hT')
      have ho3 := (Same.new (o := .tup [.int (i : Int), .ref c]) hT') _ _ ho2
      have hTt : upd H' T' (.tup [.int (i : Int), .ref c]) T' = _ := upd_same
      generalize upd H' T' (.tup [.int (i : Int), .ref c]) = H3 at s3 ho3 hTt ⊢
      have hT3 := hT.same s3
      obtain ⟨l, hl, hcl⟩ := (q2.same s3).get hc
      rw [List.getElem?_map, List.getElem?_eq_getElem hir] at hl
      have hl := Option.some.inj hl
      subst hl
      have hrow : t.rows[i]? = some t.rows[i] := List.getElem?_eq_getElem hir
      generalize t.rows[i] = r at hrow hcl
      obtain ⟨er, li, lj, lk⟩ := rwE i r hrow
      obtain ⟨ns, n1, n2⟩ := hT3.parts.nm
      have getn : ∀ j, j < count t → ∃ a, atI (vr ns) (j : Int) = some (.ref a) ∧ SqT K H3 a (vis (ni (nameAt t j))) := fun j hj => by
        obtain ⟨a, h1, h2⟩ := n2.get' (i := j) (l := ni (nameAt t j)) (by rw [List.getElem?_map, nms_at hj]; rfl)
        exact ⟨a, atI_nat (vr_get h1), h2⟩
      obtain ⟨a1, ha1, hb1⟩ := getn _ lk
      obtain ⟨a2, ha2, hb2⟩ := getn _ li
      obtain ⟨a3, ha3, hb3⟩ := getn _ lj
      refine ⟨T', _, rfl, SqT.of hTt, rfl, _, _, rfl, _, _, rfl, ⟨c, _, rfl, hcl, rfl, _, _, rfl, _, _, rfl, rfl, rfl, ?_⟩⟩
      refine ⟨_, rfl, .inl ⟨rfl, _, SqL.of ho3⟩, ?_⟩
      refine ⟨_, rfl, x, _, dx, _, _, rfl, hT3.at_, c_ProofText T, n_ProofText_names T, lk_names _ _ _ _ _ _, _, rfl, x, _, dx, _, _, rfl, hT3.at_, c_ProofText T, n_ProofText_axioms T, lk_axioms _ _ _ _ _ _, _, rfl, _, _, rfl, rfl, nm, _, _, .ref a1, rfl, rfl, n1, ?_, ?_⟩
      · rw [← ha1]
        congr 1
      refine ⟨_, rfl, x, _, dx, _, _, rfl, hT3.at_, c_ProofText T, n_ProofText_names T, lk_names _ _ _ _ _ _, _, rfl, nm, _, _, .ref a2, rfl, rfl, n1, ha2, ?_⟩
      refine ⟨_, rfl, x, _, dx, _, _, rfl, hT3.at_, c_ProofText T, n_ProofText_names T, lk_names _ _ _ _ _ _, _, rfl, nm, _, _, .ref a3, rfl, rfl, n1, ha3, ?_⟩
      refine ⟨a1, a2, a3, _, _, _, rfl, hb1, hb2, hb3, nms_small ok lk, nms_small ok li, nms_small ok lj, fun H2 q s4 hq hq2 => ?_⟩
      have p1 := pre (rwL t) t.rows i
      have p2 := rwB_len (nms_small ok lk) (nms_small ok li) (nms_small ok lj)
      refine ext H2 q _ _ _ (s3.trans s4) (s4 _ _ ho3) hq2 (by rw [SP.ni_len, List.length_append]; omega) (by rw [SP.ni_len]; omega) fun H4 s5 h5 => ?_
      refine ⟨_, _, _, _, rfl, s5, ?_⟩
      rw [h5, take_more hrow, List.flatMap_append, ← er, ← SP.ni_append, List.append_assoc]
      simp
    rintro σ' H' ⟨v2, v3, v4, v5, rfl, s2, ho2⟩
    rw [vr_len, hpl, List.take_length] at ho2
    have hT2 := hT.same s2
    obtain ⟨gs, g1, g2⟩ := hT.parts.gl
    have hgl := g2.len
    rw [List.length_map] at hgl
    refine ⟨_, rfl, x, _, dx, _, _, rfl, hT2.at_, c_ProofText T, n_ProofText_goals T, lk_goals _ _ _ _ _ _, gl, rfl, ⟨_, s2.seq g1⟩, ?_⟩
    refine for_list (K := K) (a := gl) (xs := vr gs) (fun i σ' H' => ∃ (v6 : Option V), σ' = [some (.ref x), some (.ref o), v2, v3, v4, v5, v6] ∧ Same H H' ∧ H' o = some (.lst (vis (ni (t.axioms.flatMap axL ++ (t.rows.flatMap (rwL t) ++ (t.goals.take i).flatMap goL))))))
      ⟨none, rfl, s2, by simpa using ho2⟩ (fun i σ' H' _ ⟨_, _, s, _⟩ => s.seq g1) ?_ ?_
    · rintro i xv σ' H' hx ⟨v6, rfl, s3, ho3⟩
      obtain ⟨c, hc, rfl⟩ := vr_inv hx
      have hir : i < t.goals.length := by have := (List.getElem?_eq_some_iff.mp hc).1; omega
      obtain ⟨l, hl, hcl⟩ := (g2.same s3).get hc
      have hg := SP.get_of_lt hir
      generalize t.goals[i] = F at hg
      rw [List.getElem?_map, hg] at hl
      have hl := Option.some.inj hl
      subst hl
      obtain ⟨h40, hv⟩ := go40 F (List.mem_of_getElem? hg)
      refine ⟨_, rfl, .inl ⟨rfl, _, SqL.of ho3⟩, _, rfl, c, F, rfl, hcl, h40, hv, fun H2 q s4 hq hq2 => ?_⟩
      have p1 := pre goL t.goals i
      have p2 := goL_len h40 hv
      refine ext H2 q _ _ _ (s3.trans s4) (s4 _ _ ho3) hq2 (by rw [SP.ni_len, List.length_append, List.length_append]; omega) (by rw [SP.ni_len]; omega) fun H4 s5 h5 => ?_
      refine ⟨_, rfl, s5, ?_⟩
      rw [h5, take_more hg, List.flatMap_append, ← SP.ni_append, List.append_assoc, List.append_assoc]
      simp
    · rintro σ' H' ⟨v6, rfl, s3, ho3⟩
      rw [vr_len, hgl, List.take_length, ← SP.shown_eq] at ho3
      exact ⟨_, rfl, k H' o s3 ho ho3⟩
end SPW
end
section
set_option autoImplicit false
set_option linter.all false
namespace SP
open Vapcma (Form size vars detach Axiom Row Text_ addRow formulas needsBy needs count)
open Vapcmb (neededRows Job from_ held ready jobOf peakBy peakOf inSet NONE ahead tableBy table leastPeak orderBy leastOrder)

/-! ### least by folding -/
def gm {A : Type} (f : A → Nat) (a : Nat) (l : List A) : Nat := l.foldl (fun b x => Nat.min b (f x)) a
theorem gm_init {A : Type} (f : A → Nat) : ∀ (l : List A) (a : Nat), gm f a l ≤ a
  | [], _ => Nat.le_refl _
  | x :: l, a => Nat.le_trans (gm_init f l _) (Nat.min_le_left _ _)
theorem gm_mem {A : Type} (f : A → Nat) : ∀ (l : List A) (a : Nat), ∀ x ∈ l, gm f a l ≤ f x
  | y :: l, a, x, h => by
    rcases List.mem_cons.mp h with rfl | h
    · exact Nat.le_trans (gm_init f l _) (Nat.min_le_right _ _)
    · exact gm_mem f l _ x h
theorem gm_at {A : Type} (f : A → Nat) : ∀ (l : List A) (a : Nat), gm f a l = a ∨ ∃ x ∈ l, gm f a l = f x
  | [], _ => .inl rfl
  | y :: l, a => by
    rcases gm_at f l (Nat.min a (f y)) with h | ⟨x, hx, h⟩
    · rcases Nat.le_total a (f y) with c | c
      · left
        show gm f (Nat.min a (f y)) l = a
        rw [h]
        exact Nat.min_eq_left c
      · right
        refine ⟨y, by simp, ?_⟩
        show gm f (Nat.min a (f y)) l = f y
        rw [h]
        exact Nat.min_eq_right c
    · right
      exact ⟨x, by simp [hx], h⟩
theorem gm_eq {A : Type} (f : A → Nat) {l : List A} {a b : Nat} (h : ∃ x ∈ l, f x ≤ a ∧ f x ≤ b) : gm f a l = gm f b l := by
  obtain ⟨x, hx, h1, h2⟩ := h
  have le : ∀ a b, f x ≤ b → gm f a l ≤ gm f b l := by
    intro a b hb
    rcases gm_at f l b with e | ⟨y, hy, e⟩
    · rw [e]
      exact Nat.le_trans (gm_mem f l a x hx) hb
    · rw [e]
      exact gm_mem f l a y hy
  exact Nat.le_antisymm (le a b h2) (le b a h1)
/-! ### sets by number -/
theorem zipIdx_mem {l : List Nat} {x : Nat × Nat} : x ∈ l.zipIdx ↔ l[x.2]? = some x.1 := by
  rw [List.mem_zipIdx_iff_getElem?]
theorem mem_inSet {rows : List Nat} (hN : rows.Nodup) {m k r : Nat} (h : rows[k]? = some r) : r ∈ inSet rows m ↔ m / 2 ^ k % 2 = 1 := by
  unfold inSet
  rw [List.mem_map]
  constructor
  · rintro ⟨x, hx, e⟩
    rw [List.mem_filter] at hx
    obtain ⟨hx1, hx2⟩ := hx
    rw [zipIdx_mem] at hx1
    have : x.2 = k := by
      exact (List.getElem?_inj (List.getElem?_eq_some_iff.mp hx1).1 hN).mp (by rw [hx1, h, e])
    rw [this] at hx2
    simpa using hx2
  · intro hb
    exact ⟨(r, k), List.mem_filter.mpr ⟨zipIdx_mem.mpr h, by simpa using hb⟩, rfl⟩
theorem inSet_sub {rows : List Nat} {m r : Nat} (h : r ∈ inSet rows m) : r ∈ rows := by
  unfold inSet at h
  rw [List.mem_map] at h
  obtain ⟨x, hx, e⟩ := h
  rw [List.mem_filter, zipIdx_mem] at hx
  rw [← e]
  exact List.mem_of_getElem? hx.1
theorem zipIdx_map (l : List Nat) (k : Nat) : (l.zipIdx k).map (fun x => x.1) = l := by
  induction l generalizing k with
  | nil => rfl
  | cons a l ih => rw [List.zipIdx_cons, List.map_cons, ih]
theorem inSet_nodup {rows : List Nat} (hN : rows.Nodup) (m : Nat) : (inSet rows m).Nodup := by
  unfold inSet
  have h : ((rows.zipIdx.filter fun x => m / 2 ^ x.2 % 2 == 1).map fun x => x.1).Sublist (rows.zipIdx.map fun x => x.1) := List.Sublist.map _ List.filter_sublist
  rw [zipIdx_map] at h
  exact h.nodup hN
theorem inSet_len (rows : List Nat) (m : Nat) : (inSet rows m).length ≤ rows.length := by
  unfold inSet
  rw [List.length_map]
  have := List.length_filter_le (fun x : Nat × Nat => m / 2 ^ x.2 % 2 == 1) rows.zipIdx
  rw [List.length_zipIdx] at this
  exact this
/-! ### bits -/
theorem bits_add {n m k : Nat} (hn : n ≤ 8) (hm : m < 2 ^ n) (hk : k < n) (hb : m / 2 ^ k % 2 ≠ 1) : m + 2 ^ k < 2 ^ n ∧ ∀ i, i < n → ((m + 2 ^ k) / 2 ^ i % 2 = if i = k then 1 else m / 2 ^ i % 2) := by
  have key : ∀ (n : Fin 9) (k : Fin 8) (m : Fin 256), k.val < n.val → m.val < 2 ^ n.val → m.val / 2 ^ k.val % 2 ≠ 1 → m.val + 2 ^ k.val < 2 ^ n.val := by decide +kernel
  have key2 : ∀ (k i : Fin 8) (m : Fin 256), m.val / 2 ^ k.val % 2 ≠ 1 → ((m.val + 2 ^ k.val) / 2 ^ i.val % 2 = if i.val = k.val then 1 else m.val / 2 ^ i.val % 2) := by decide +kernel
  have h256 : 2 ^ n ≤ 256 := Nat.pow_le_pow_right (by decide) hn
  exact ⟨key ⟨n, by omega⟩ ⟨k, by omega⟩ ⟨m, by omega⟩ hk hm hb, fun i hi => key2 ⟨k, by omega⟩ ⟨i, by omega⟩ ⟨m, by omega⟩ hb⟩
theorem bits_full {n m : Nat} (hn : n ≤ 8) (hm : m < 2 ^ n) (hf : m + 1 ≠ 2 ^ n) : ∃ i, i < n ∧ m / 2 ^ i % 2 ≠ 1 := by
  have key : ∀ (n : Fin 9) (m : Fin 256), m.val < 2 ^ n.val → m.val + 1 ≠ 2 ^ n.val → ∃ i : Fin 8, i.val < n.val ∧ m.val / 2 ^ i.val % 2 ≠ 1 := by decide +kernel
  have h256 : 2 ^ n ≤ 256 := Nat.pow_le_pow_right (by decide) hn
  obtain ⟨i, h1, h2⟩ := key ⟨n, by omega⟩ ⟨m, by omega⟩ hm hf
  exact ⟨i.val, h1, h2⟩
theorem bits_ones {n i : Nat} (hn : n ≤ 8) (hi : i < n) : (2 ^ n - 1) / 2 ^ i % 2 = 1 := by
  have key : ∀ (n : Fin 9) (i : Fin 8), i.val < n.val → (2 ^ n.val - 1) / 2 ^ i.val % 2 = 1 := by decide +kernel
  exact key ⟨n, by omega⟩ ⟨i, by omega⟩ hi
/-! ### the table -/
section
variable {t : Text_} {j : Job}
theorem tableBy_len (t : Text_) (j : Job) : ∀ (m : Nat) (l : List Nat), (tableBy t j m l).length = m + l.length
  | 0, l => by simp [tableBy]
  | m + 1, l => by rw [tableBy, tableBy_len t j m]; simp; omega
theorem tableBy_drop (t : Text_) (j : Job) : ∀ (m : Nat) (l : List Nat), (tableBy t j m l).drop m = l
  | 0, l => by simp [tableBy]
  | m + 1, l => by
    rw [tableBy]
    have h := congrArg (List.drop 1) (tableBy_drop t j m (ahead t j l m :: l))
    rw [List.drop_drop] at h
    rw [h]
    rfl
theorem table_len (t : Text_) (j : Job) : (table t j).length = 2 ^ j.rows.length := by rw [table, tableBy_len]; simp
theorem table_at (t : Text_) (j : Job) : ∀ d m, m + d = 2 ^ j.rows.length → table t j = tableBy t j m ((table t j).drop m)
  | 0, m, h => by
    have : (table t j).drop m = [] := List.drop_eq_nil_of_le (by rw [table_len]; omega)
    rw [this]
    have : m = 2 ^ j.rows.length := by omega
    subst this
    rfl
  | d + 1, m, h => by
    have ih := table_at t j d (m + 1) (by omega)
    rw [tableBy] at ih
    have h2 := congrArg (List.drop m) ih
    rw [tableBy_drop] at h2
    rw [h2]
    exact ih
theorem table_step (t : Text_) (j : Job) {m : Nat} (h : m < 2 ^ j.rows.length) : (table t j).drop m = ahead t j ((table t j).drop (m + 1)) m :: (table t j).drop (m + 1) := by
  have ih := table_at t j (2 ^ j.rows.length - (m + 1)) (m + 1) (by omega)
  rw [tableBy] at ih
  have h2 := congrArg (List.drop m) ih
  rw [tableBy_drop] at h2
  exact h2
def tv (t : Text_) (j : Job) (m : Nat) : Nat := (table t j).getD m NONE
def now (t : Text_) (j : Job) (m : Nat) : Nat := (held t j (inSet j.rows m)).length + 1
def frs (t : Text_) (j : Job) (m : Nat) : List (Nat × Nat) := j.rows.zipIdx.filter fun x => ready t (inSet j.rows m) x.1
def via (t : Text_) (j : Job) (m : Nat) (x : Nat × Nat) : Nat := Nat.max (now t j m) (tv t j (m + 2 ^ x.2))
theorem getD_drop (l : List Nat) (i k d : Nat) : (l.drop i).getD k d = l.getD (i + k) d := by
  rw [List.getD_eq_getElem?_getD, List.getD_eq_getElem?_getD, List.getElem?_drop]
theorem tv_step (t : Text_) (j : Job) {m : Nat} (h : m < 2 ^ j.rows.length) : tv t j m = if m + 1 = 2 ^ j.rows.length then 0 else gm (via t j m) NONE (frs t j m) := by
  have h1 : tv t j m = ahead t j ((table t j).drop (m + 1)) m := by
    have := congrArg (fun l => l.getD 0 NONE) (table_step t j h)
    rw [getD_drop] at this
    exact this
  rw [h1, ahead]
  split
  · rfl
  · unfold gm frs via
    congr 1
    funext b x
    rw [getD_drop]
    have e : m + 1 + (m + 2 ^ x.2 - (m + 1)) = m + 2 ^ x.2 := by have := Nat.two_pow_pos x.2; omega
    rw [e]
    rfl
structure JOk (t : Text_) (j : Job) : Prop where
  nd : j.rows.Nodup
  cl : ∀ r ∈ j.rows, ∀ x ∈ from_ t r, x ∈ j.rows ∧ x < r
theorem frs_spec (h : JOk t j) {m : Nat} {x : Nat × Nat} (hx : x ∈ frs t j m) : j.rows[x.2]? = some x.1 ∧ x.2 < j.rows.length ∧ m / 2 ^ x.2 % 2 ≠ 1 := by
  unfold frs at hx
  rw [List.mem_filter, zipIdx_mem] at hx
  obtain ⟨h1, h2⟩ := hx
  refine ⟨h1, (List.getElem?_eq_some_iff.mp h1).1, fun hb => ?_⟩
  rw [ready, Bool.and_eq_true] at h2
  have := (mem_inSet h.nd h1 (m := m)).mpr hb
  have e : (inSet j.rows m).contains x.1 = true := by simpa using this
  rw [e] at h2
  exact absurd h2.1 (by decide)
theorem least_not (h : JOk t j) (done : List Nat) : ∀ r ∈ j.rows, r ∉ done → ∃ r' ∈ j.rows, r' ∉ done ∧ ∀ x ∈ from_ t r', x ∈ done := by
  intro r
  induction r using Nat.strongRecOn with
  | ind r ih =>
    intro hr hd
    by_cases c : ∀ x ∈ from_ t r, x ∈ done
    · exact ⟨r, hr, hd, c⟩
    · have : ∃ x, x ∈ from_ t r ∧ x ∉ done := Classical.byContradiction fun z => c fun x hx => Classical.byContradiction fun y => z ⟨x, hx, y⟩
      obtain ⟨x, hx, hxd⟩ := this
      obtain ⟨h1, h2⟩ := h.cl r hr x hx
      exact ih x h2 h1 hxd
theorem frs_some (h : JOk t j) (hn : j.rows.length ≤ 8) {m : Nat} (hm : m < 2 ^ j.rows.length) (hf : m + 1 ≠ 2 ^ j.rows.length) : ∃ x, x ∈ frs t j m := by
  obtain ⟨i, hi, hb⟩ := bits_full hn hm hf
  have hr := get_of_lt hi
  have hnot : j.rows[i] ∉ inSet j.rows m := fun z => hb ((mem_inSet h.nd hr).mp z)
  obtain ⟨r, h1, h2, h3⟩ := least_not h (inSet j.rows m) _ (List.mem_of_getElem? hr) hnot
  obtain ⟨k, hk, e⟩ := List.mem_iff_getElem.mp h1
  refine ⟨(r, k), ?_⟩
  unfold frs
  rw [List.mem_filter, zipIdx_mem]
  refine ⟨by rw [get_of_lt hk, e], ?_⟩
  rw [ready, Bool.and_eq_true]
  refine ⟨by simpa using h2, ?_⟩
  rw [List.all_eq_true]
  intro x hx
  simpa using h3 x hx
theorem now_le (t : Text_) (j : Job) (m : Nat) : now t j m ≤ j.rows.length + 1 := by
  unfold now held
  have := List.length_filter_le (fun k => j.wish.contains k || j.rows.any fun m_1 => !(inSet j.rows m).contains m_1 && (from_ t m_1).contains k) (inSet j.rows m)
  have := inSet_len j.rows m
  omega
theorem tv_le (h : JOk t j) (hn : j.rows.length ≤ 8) : ∀ d m, m + d + 1 = 2 ^ j.rows.length → tv t j m ≤ 9 := by
  intro d
  induction d using Nat.strongRecOn with
  | ind d ih =>
    intro m hm
    rw [tv_step t j (by omega)]
    split
    · omega
    · rename_i hf
      obtain ⟨x, hx⟩ := frs_some h hn (by omega) hf
      obtain ⟨h1, h2, h3⟩ := frs_spec h hx
      obtain ⟨h4, _⟩ := bits_add hn (by omega) h2 h3
      have hp := Nat.two_pow_pos x.2
      have hv := ih (2 ^ j.rows.length - 1 - (m + 2 ^ x.2)) (by omega) (m + 2 ^ x.2) (by omega)
      refine Nat.le_trans (gm_mem _ _ _ x hx) ?_
      unfold via
      have := now_le t j m
      exact Nat.max_le.mpr ⟨by omega, hv⟩
theorem via_le (h : JOk t j) (hn : j.rows.length ≤ 8) {m : Nat} (hm : m < 2 ^ j.rows.length) {x : Nat × Nat} (hx : x ∈ frs t j m) : via t j m x ≤ 9 := by
  obtain ⟨h1, h2, h3⟩ := frs_spec h hx
  obtain ⟨h4, _⟩ := bits_add hn hm h2 h3
  have hv := tv_le h hn (2 ^ j.rows.length - 1 - (m + 2 ^ x.2)) (m + 2 ^ x.2) (by omega)
  have := now_le t j m
  unfold via
  exact Nat.max_le.mpr ⟨by omega, hv⟩
/-- what the program works out: 99 where it has none -/
theorem tv_99 (h : JOk t j) (hn : j.rows.length ≤ 8) {m : Nat} (hm : m < 2 ^ j.rows.length) (hf : m + 1 ≠ 2 ^ j.rows.length) : tv t j m = gm (via t j m) 99 (frs t j m) := by
  rw [tv_step t j hm, if_neg hf]
  obtain ⟨x, hx⟩ := frs_some h hn hm hf
  have := via_le h hn hm hx
  exact gm_eq _ ⟨x, hx, by simp only [NONE]; omega, by omega⟩
/-- the next one of the first order with the least -/
theorem next_ok (h : JOk t j) (hn : j.rows.length ≤ 8) {m : Nat} (hm : m < 2 ^ j.rows.length) (hf : m + 1 ≠ 2 ^ j.rows.length) {b : Nat} (hb : tv t j m ≤ b) (hb9 : b ≤ 9) :
    now t j m ≤ b ∧ ∃ x, x ∈ frs t j m ∧ tv t j (m + 2 ^ x.2) ≤ b := by
  rw [tv_step t j hm, if_neg hf] at hb
  rcases gm_at (via t j m) (frs t j m) NONE with e | ⟨x, hx, e⟩
  · rw [e] at hb
    simp only [NONE] at hb
    omega
  · rw [e] at hb
    unfold via at hb
    have := Nat.max_le.mp hb
    exact ⟨this.1, x, hx, this.2⟩
/-- the ones done so far, and the set by number -/
structure Stp (t : Text_) (j : Job) (m : Nat) (done : List Nat) : Prop where
  lt : m < 2 ^ j.rows.length
  nd : done.Nodup
  mem : ∀ r, r ∈ done ↔ r ∈ inSet j.rows m
theorem Stp.perm {m : Nat} {done : List Nat} (h : JOk t j) (s : Stp t j m done) : done.Perm (inSet j.rows m) := (List.perm_ext_iff_of_nodup s.nd (inSet_nodup h.nd m)).mpr s.mem
theorem Stp.contains {m : Nat} {done : List Nat} (s : Stp t j m done) (r : Nat) : done.contains r = (inSet j.rows m).contains r := by
  rw [Bool.eq_iff_iff]
  simp only [List.contains_iff_mem]
  exact s.mem r
theorem Stp.ready {m : Nat} {done : List Nat} (s : Stp t j m done) (k : Nat) : Vapcmb.ready t done k = Vapcmb.ready t (inSet j.rows m) k := by
  unfold Vapcmb.ready
  simp only [s.contains]
theorem Stp.held {m : Nat} {done : List Nat} (h : JOk t j) (s : Stp t j m done) : (Vapcmb.held t j done).length + 1 = now t j m := by
  unfold now Vapcmb.held
  simp only [s.contains]
  rw [((s.perm h).filter _).length_eq]
theorem Stp.start (t : Text_) (j : Job) : Stp t j 0 [] := by
  refine ⟨Nat.two_pow_pos _, by simp, fun r => ?_⟩
  simp only [List.not_mem_nil, false_iff]
  unfold inSet
  rw [List.mem_map]
  rintro ⟨x, hx, _⟩
  rw [List.mem_filter] at hx
  simp at hx
theorem Stp.next {m : Nat} {done : List Nat} {x : Nat × Nat} (h : JOk t j) (hn : j.rows.length ≤ 8) (s : Stp t j m done) (hx : x ∈ frs t j m) : Stp t j (m + 2 ^ x.2) (done ++ [x.1]) := by
  obtain ⟨h1, h2, h3⟩ := frs_spec h hx
  obtain ⟨h4, h5⟩ := bits_add hn s.lt h2 h3
  have hnd : x.1 ∉ done := fun z => h3 ((mem_inSet h.nd h1).mp ((s.mem _).mp z))
  refine ⟨h4, ?_, fun r => ?_⟩
  · rw [List.nodup_append]
    refine ⟨s.nd, by simp, fun a ha b hb => ?_⟩
    have : b = x.1 := by simpa using hb
    subst this
    exact fun z => hnd (z ▸ ha)
  · have both : ∀ (k : Nat), j.rows[k]? = some r → (r ∈ done ++ [x.1] ↔ r ∈ inSet j.rows (m + 2 ^ x.2)) := by
      intro k hk
      have hkn := (List.getElem?_eq_some_iff.mp hk).1
      rw [mem_inSet h.nd hk, h5 k hkn, List.mem_append, s.mem, mem_inSet h.nd hk]
      by_cases e : k = x.2
      · subst e
        rw [h1] at hk
        cases hk
        simp
      · rw [if_neg e]
        have : ¬ r = x.1 := by
          intro z
          rw [z] at hk
          exact e ((List.getElem?_inj hkn h.nd).mp (by rw [hk, h1]))
        simp [this]
    constructor
    · intro z
      have hr : r ∈ j.rows := by
        rcases List.mem_append.mp z with q | q
        · exact inSet_sub ((s.mem _).mp q)
        · have : r = x.1 := by simpa using q
          rw [this]
          exact List.mem_of_getElem? h1
      obtain ⟨k, hk, e⟩ := List.mem_iff_getElem.mp hr
      exact (both k (by rw [get_of_lt hk, e])).mp z
    · intro z
      obtain ⟨k, hk, e⟩ := List.mem_iff_getElem.mp (inSet_sub z)
      exact (both k (by rw [get_of_lt hk, e])).mpr z
theorem Stp.notFull {m : Nat} {done : List Nat} (h : JOk t j) (hn : j.rows.length ≤ 8) (s : Stp t j m done) (hl : done.length < j.rows.length) : m + 1 ≠ 2 ^ j.rows.length := by
  intro e
  have : j.rows.length ≤ done.length := nodup_sub_len h.nd fun r hr => by
    obtain ⟨k, hk, e2⟩ := List.mem_iff_getElem.mp hr
    rw [s.mem, mem_inSet h.nd (k := k) (by rw [get_of_lt hk, e2])]
    have : m = 2 ^ j.rows.length - 1 := by omega
    rw [this]
    exact bits_ones hn hk
  omega
/-- what the program looks for -/
def picks (t : Text_) (j : Job) (m : Nat) : List (Nat × Nat) := (frs t j m).filter fun x => decide (tv t j (m + 2 ^ x.2) ≤ tv t j 0)
theorem order_step (h : JOk t j) (hn : j.rows.length ≤ 8) {m : Nat} {done : List Nat} (s : Stp t j m done) (hl : done.length < j.rows.length) (hb : tv t j m ≤ tv t j 0) (n : Nat) :
    ∃ x r, picks t j m = x :: r ∧ x ∈ frs t j m ∧ tv t j (m + 2 ^ x.2) ≤ tv t j 0 ∧ orderBy t j (table t j) ((table t j).getD 0 0) (n + 1) m done = orderBy t j (table t j) ((table t j).getD 0 0) n (m + 2 ^ x.2) (done ++ [x.1]) := by
  have hf := s.notFull h hn hl
  have h0 : tv t j 0 ≤ 9 := tv_le h hn (2 ^ j.rows.length - 1) 0 (by have := Nat.two_pow_pos j.rows.length; omega)
  obtain ⟨hnow, x0, hx0, hx1⟩ := next_ok h hn s.lt hf hb h0
  have htab : (table t j).getD 0 0 = tv t j 0 := by
    unfold tv
    rw [List.getD_eq_getElem?_getD, List.getD_eq_getElem?_getD, get_of_lt (show 0 < (table t j).length by rw [table_len]; exact Nat.two_pow_pos _)]
    rfl
  have hfind : (j.rows.zipIdx.find? fun x => Vapcmb.ready t done x.1 && decide (Nat.max ((Vapcmb.held t j done).length + 1) ((table t j).getD (m + 2 ^ x.2) NONE) ≤ (table t j).getD 0 0)) = (picks t j m).head? := by
    unfold picks frs
    rw [List.filter_filter, List.head?_filter]
    congr 1
    funext x
    rw [s.held h, s.ready, htab, Bool.and_comm]
    congr 1
    rw [Bool.eq_iff_iff]
    simp only [decide_eq_true_eq]
    show Nat.max (now t j m) (tv t j (m + 2 ^ x.2)) ≤ tv t j 0 ↔ tv t j (m + 2 ^ x.2) ≤ tv t j 0
    constructor
    · intro z
      exact (Nat.max_le.mp z).2
    · intro z
      exact Nat.max_le.mpr ⟨hnow, z⟩
  cases hp : picks t j m with
  | nil =>
    have : x0 ∈ picks t j m := List.mem_filter.mpr ⟨hx0, by simpa using hx1⟩
    rw [hp] at this
    simp at this
  | cons x r =>
    have hx : x ∈ picks t j m := by rw [hp]; simp
    have hx2 := List.mem_filter.mp hx
    refine ⟨x, r, rfl, hx2.1, by simpa using hx2.2, ?_⟩
    rw [orderBy, hfind, hp]
    rfl
end
end SP
end
section
set_option autoImplicit false
set_option linter.all false
namespace SP
open Vapcma (Form size vars detach Axiom Row Text_ addRow formulas needsBy needs count)
open Vapcmb (neededRows Job from_ held ready jobOf peakBy peakOf inSet NONE ahead tableBy table leastPeak orderBy leastOrder itemsOf)
theorem needsBy_sub (t : Text_) : ∀ (n : Nat) (l : List Nat), ∀ x ∈ l, x ∈ needsBy t n l
  | 0, _, x, h => h
  | n + 1, l, x, h => by
    cases hr : t.rows[n]? with
    | none => rw [needsBy_none hr]; exact needsBy_sub t n l x h
    | some r =>
      rw [needsBy_succ hr]
      split
      · exact needsBy_sub t n _ x (by simp [h])
      · exact needsBy_sub t n l x h
theorem needsBy_lt {t : Text_} (ok : TOk t) : ∀ (n : Nat) (l : List Nat), ∀ x ∈ needsBy t n l, x ∈ l ∨ x < t.axioms.length + n
  | 0, _, x, h => .inl h
  | n + 1, l, x, h => by
    cases hr : t.rows[n]? with
    | none =>
      rw [needsBy_none hr] at h
      rcases needsBy_lt ok n l x h with z | z
      · exact .inl z
      · exact .inr (by omega)
    | some r =>
      have hw := ok.rw n r hr
      rw [needsBy_succ hr] at h
      split at h
      · rcases needsBy_lt ok n _ x h with z | z
        · simp only [List.mem_append, List.mem_cons, List.not_mem_nil, or_false] at z
          rcases z with z | rfl | rfl
          · exact .inl z
          · exact .inr (by omega)
          · exact .inr (by omega)
        · exact .inr (by omega)
      · rcases needsBy_lt ok n l x h with z | z
        · exact .inl z
        · exact .inr (by omega)
theorem needsBy_closed {t : Text_} (ok : TOk t) : ∀ (n : Nat) (l : List Nat) (k : Nat) (r : Row), k < n → t.rows[k]? = some r → t.axioms.length + k ∈ needsBy t n l → r.i ∈ needsBy t n l ∧ r.j ∈ needsBy t n l
  | 0, _, k, r, h, _, _ => absurd h (Nat.not_lt_zero _)
  | n + 1, l, k, r, h, hr, hm => by
    cases hn : t.rows[n]? with
    | none =>
      rw [needsBy_none hn] at hm ⊢
      have : k ≠ n := fun e => by rw [e, hn] at hr; cases hr
      exact needsBy_closed ok n l k r (by omega) hr hm
    | some r2 =>
      rw [needsBy_succ hn] at hm ⊢
      by_cases e : k = n
      · subst e
        rw [hn] at hr
        cases hr
        by_cases c : t.axioms.length + k ∈ l
        · rw [if_pos (by simpa using c)]
          exact ⟨needsBy_sub t _ _ _ (by simp), needsBy_sub t _ _ _ (by simp)⟩
        · rw [if_neg (by simpa using c)] at hm
          rcases needsBy_lt ok k l _ hm with z | z
          · exact absurd z c
          · omega
      · split at hm
        · rename_i c
          rw [if_pos c]
          exact needsBy_closed ok n _ k r (by omega) hr hm
        · rename_i c
          rw [if_neg c]
          exact needsBy_closed ok n _ k r (by omega) hr hm
theorem from_eq {t : Text_} {i : Nat} {r : Row} (h : t.rows[i]? = some r) : from_ t (t.axioms.length + i) = ([r.i, r.j].filter fun x => decide (t.axioms.length ≤ x)).eraseDups := by
  rw [from_, show t.axioms.length + i - t.axioms.length = i by omega, h]
theorem from_mem {t : Text_} {i : Nat} {r : Row} (h : t.rows[i]? = some r) (x : Nat) : x ∈ from_ t (t.axioms.length + i) ↔ (x = r.i ∨ x = r.j) ∧ t.axioms.length ≤ x := by
  rw [from_eq h, eraseDups_mem, List.mem_filter]
  simp
theorem rowsOf_mem {t : Text_} {l : List Nat} {k : Nat} (h : k ∈ rowsOf t l) : ∃ i r, k = t.axioms.length + i ∧ t.rows[i]? = some r ∧ k < count t ∧ k ∈ needsBy t t.rows.length l := by
  unfold rowsOf at h
  rw [List.mem_filter, List.mem_range'_1] at h
  obtain ⟨⟨h1, h2⟩, h3⟩ := h
  have hi : k - t.axioms.length < t.rows.length := by omega
  exact ⟨k - t.axioms.length, _, by omega, get_of_lt hi, by simp only [count]; omega, by simpa using h3⟩
theorem rowsOf_sorted (t : Text_) (l : List Nat) : (rowsOf t l).Pairwise (· < ·) := by
  unfold rowsOf
  exact List.Pairwise.filter _ List.pairwise_lt_range'
theorem rowsOf_nodup (t : Text_) (l : List Nat) : (rowsOf t l).Nodup := (rowsOf_sorted t l).imp fun h => Nat.ne_of_lt h
theorem rowsOf_len {t : Text_} (l : List Nat) : (rowsOf t l).length ≤ t.rows.length := by
  unfold rowsOf
  have := List.length_filter_le (fun k => (needsBy t t.rows.length l).contains k) (List.range' t.axioms.length t.rows.length)
  simpa using this
theorem rowsOf_ok {t : Text_} (ok : TOk t) (l w : List Nat) : JOk t ⟨rowsOf t l, w⟩ := by
  refine ⟨rowsOf_nodup t l, fun r hr x hx => ?_⟩
  obtain ⟨i, rw, e, h1, h2, h3⟩ := rowsOf_mem hr
  subst e
  rw [from_mem h1] at hx
  have hlt := (List.getElem?_eq_some_iff.mp h1).1
  have hw := ok.rw i rw h1
  have hc := needsBy_closed ok _ l i rw hlt h1 h3
  refine ⟨?_, by omega⟩
  show x ∈ rowsOf t l
  unfold rowsOf
  rw [List.mem_filter, List.mem_range'_1]
  refine ⟨by omega, ?_⟩
  rcases hx.1 with rfl | rfl
  · simpa using hc.1
  · simpa using hc.2
/-! ### an order's peak -/
theorem peak_step {t : Text_} {j : Job} {done : List Nat} {m k : Nat} {r : List Nat} (hk : k ∈ j.rows) (hd : k ∉ done) :
    peakBy t j done m (k :: r) = if (from_ t k).all (fun x => done.contains x) = true then peakBy t j (done ++ [k]) (Nat.max m ((held t j done).length + 1)) r else none := by
  have e1 : j.rows.contains k = true := by simpa using hk
  have e2 : done.contains k = false := by simpa using hd
  rw [peakBy, e1, ready, e2]
  cases (from_ t k).all fun x => done.contains x <;> simp
theorem peak_some {t : Text_} {j : Job} : ∀ (rest done : List Nat) (m x : Nat), done.Nodup → peakBy t j done m rest = some x → (done ++ rest).Nodup ∧ ∀ k ∈ rest, k ∈ j.rows
  | [], done, m, x, hn, _ => ⟨by simpa using hn, fun k h => by simp at h⟩
  | k :: r, done, m, x, hn, h => by
    rw [peakBy] at h
    split at h
    · cases h
    · rename_i c
      have c1 : j.rows.contains k = true := by
        cases e : j.rows.contains k with
        | true => rfl
        | false => exact absurd (.inl e) c
      have c2 : ready t done k = true := by
        cases e : ready t done k with
        | true => rfl
        | false => exact absurd (.inr e) c
      rw [ready, Bool.and_eq_true] at c2
      have hd : k ∉ done := by simpa using c2.1
      have hn2 : (done ++ [k]).Nodup := by
        rw [List.nodup_append]
        refine ⟨hn, by simp, fun a ha b hb => ?_⟩
        have : b = k := by simpa using hb
        subst this
        exact fun z => hd (z ▸ ha)
      obtain ⟨h1, h2⟩ := peak_some r (done ++ [k]) _ x hn2 h
      refine ⟨by simpa using h1, fun y hy => ?_⟩
      rcases List.mem_cons.mp hy with rfl | hy
      · simpa using c1
      · exact h2 y hy
theorem peakOf_perm {t : Text_} {j : Job} {l : List Nat} {x : Nat} (hN : j.rows.Nodup) (h : peakOf t j l = some x) : l.Perm j.rows := by
  rw [peakOf] at h
  split at h
  · rename_i e
    obtain ⟨h1, h2⟩ := peak_some l [] 0 x (by simp) h
    rw [List.nil_append] at h1
    rw [List.perm_ext_iff_of_nodup h1 hN]
    intro a
    refine ⟨h2 a, fun ha => ?_⟩
    refine Classical.byContradiction fun z => ?_
    have h3 := nodup_sub_len (l := a :: l) (k := j.rows) (List.nodup_cons.mpr ⟨z, h1⟩) fun v hv => by
      rcases List.mem_cons.mp hv with rfl | hv
      · exact ha
      · exact h2 v hv
    rw [List.length_cons] at h3
    omega
  · cases h
/-- sorted, it's the rows -/
theorem sorted_rows {rows l : List Nat} {ns : List Int} (hs : rows.Pairwise (· < ·)) (hp : ns.Perm (l.map fun n : Nat => (n : Int))) (ho : ns.Pairwise (· ≤ ·)) : ns = rows.map (fun n : Nat => (n : Int)) ↔ l.Perm rows := by
  constructor
  · intro e
    rw [e] at hp
    have h2 := hp.symm.map Int.toNat
    rw [List.map_map, List.map_map] at h2
    have e2 : (Int.toNat ∘ fun n : Nat => (n : Int)) = id := by funext n; simp
    rw [e2, List.map_id, List.map_id] at h2
    exact h2
  · intro h
    have h2 : ns.Perm (rows.map fun n : Nat => (n : Int)) := hp.trans (h.map _)
    refine List.Perm.eq_of_pairwise (le := (· ≤ ·)) (fun a b _ _ h1 h2 => Int.le_antisymm h1 h2) ho ?_ h2
    rw [List.pairwise_map]
    exact hs.imp fun h => by omega
/-! ### what's held -/
theorem held_eq {t : Text_} {j : Job} {done asked : List Nat} (h : ∀ k ∈ done, asked.contains k = j.wish.contains k) : held t j done = done.filter fun k => asked.contains k || j.rows.any fun m => !done.contains m && (from_ t m).contains k := by
  unfold held
  refine List.filter_congr fun k hk => ?_
  rw [h k hk]
/-! ### items told -/
theorem itemsOf_all {t : Text_} {l : List Int} (h : (l.all fun z => decide (0 ≤ z) && decide (z < (count t : Int))) = true) : itemsOf t l = some ((List.range (count t)).filter fun k : Nat => l.contains (k : Int)) := by
  unfold itemsOf
  have : (l.any fun z => (VapcmBase.index z (count t)).isNone) = false := by
    rw [List.any_eq_false]
    intro z hz
    rw [List.all_eq_true] at h
    have := h z hz
    rw [Bool.and_eq_true, decide_eq_true_eq, decide_eq_true_eq] at this
    rw [VapcmBase.index, if_pos this]
    simp
  rw [this]
  rfl
theorem itemsOf_not {t : Text_} {l : List Int} (h : (l.all fun z => decide (0 ≤ z) && decide (z < (count t : Int))) = false) : itemsOf t l = none := by
  unfold itemsOf
  have : (l.any fun z => (VapcmBase.index z (count t)).isNone) = true := by
    rw [List.any_eq_true]
    rw [List.all_eq_false] at h
    obtain ⟨z, hz, hc⟩ := h
    refine ⟨z, hz, ?_⟩
    rw [Bool.and_eq_true, decide_eq_true_eq, decide_eq_true_eq] at hc
    rw [VapcmBase.index, if_neg hc]
    rfl
  rw [this]
  rfl
end SP
end
section
set_option Elab.async false
set_option linter.all false
set_option maxRecDepth 100000
set_option maxHeartbeats 4000000
namespace SPW
open PySem PySem.Spec PyProof.Rows L2
open SP (ci co TOk rowsOf)
open Vapcma (Form Text_ formulas count)
open Vapcmb (from_ held ready)
variable {P : Program} {w : World} {K : PySem.W.Frag} {mg : Str → Option Value} {base : Heap}
theorem inV_bl {b : Bool} {n : Nat} {l : List Nat} : inV (.int (n : Int)) (vn l) = l.contains n := inV_nats n l
/-- a row's number -/
def RowN (t : Text_) (k : Nat) : Prop := ∃ i r, k = t.axioms.length + i ∧ t.rows[i]? = some r
theorem RowN.ge {t : Text_} {k : Nat} (h : RowN t k) : t.axioms.length ≤ k := by obtain ⟨i, r, e, _⟩ := h; omega
/-- is_ready(text, row, done) -/
def sp_is_ready (K : PySem.W.Frag) : Sp := fun vs H Q _ => ∃ (x dl : Addr) (t : Text_) (k : Nat) (done : List Nat), vs = [.ref x, .int (k : Int), .ref dl] ∧ TextAt K H x t ∧ RowN t k ∧ SqL K H dl (vn done) ∧
  ∀ H', Same H H' → Q (.bl ((from_ t k).all fun x => done.contains x)) H'
abbrev N_is_ready : List Str := ["text", "row", "done", "item"]
theorem sc_is_ready : FnScope N_is_ready ["text", "row", "done"] (defScope s_is_ready) := ⟨rfl, rfl, rfl, by decide +kernel, rfl, by decide +kernel, by decide +kernel⟩
theorem g_is_ready (T : Tx K mg) : GFn P w K mg base CX0 2 "is_ready" ["text", "row", "done"] (sp_is_ready K) := by
  have g_pair_of : GFn P w K mg base CX0 1 "pair_of" ["text", "row"] (sp_pair_of K) := g_pair_of T
  refine gfn0 (f_is_ready T) (t_is_ready T) sc_is_ready (fun _ _ _ _ _ _ us hl => match us, hl with | [_, _, _], _ => rfl) (fun vs H Q E h => ?_) (fun f cdv A outer s H vs Q E hr h => ⟨_, (pss_one (ps_ret (pe_callB (cr_allK K rfl rfl) (by rfl) (t_all T) (by decide +kernel) (pa_cons (pe_lc (own := [("item", 3)]) (g := gName 3) (tt := tYes) rfl sc_is_ready.nd (pi_tupK K (pe_fn g_pair_of (hr.mono (by omega)) pass0 (pa_cons (pv 0) (pa_cons (pv 1) pa_nil1)))) (blkOk_by (own := [("item", 3)]) (N := N_is_ready) (sc := defScope s_is_ready) (by decide +kernel)) (fun _ _ _ _ _ => (pg_name (i := 3) sc_is_ready.nd rfl (Or.inl rfl))) (fun _ _ _ _ _ => pts_nil) (fun _ _ _ _ _ => (pe_or (pe_cmpR op_lt (pv 3) (pe_fldK K (pv 0)) (nomark _)) (pe_one (pe_cmpR (op_inK K) (pv 3) (pv 2) (by rfl)))))) pa_nil1)))), ?_⟩)
  · obtain ⟨x, dl, t, k, done, rfl, _⟩ := h
    rfl
  · obtain ⟨x, dl, t, k, done, rfl, hTx, ⟨i, r, rfl, hr⟩, hd, k1⟩ := h
    refine ⟨_, rfl, _, rfl, x, t, i, r, rfl, hTx, hr, fun p hp => ⟨p, rfl, ⟨_, hp⟩, fun D hD => ?_⟩⟩
    let pe : Int → Bool := fun z => decide (z < (t.axioms.length : Int)) || done.contains z.toNat
    refine lct (Q := fun v H' => rAll K [v] H' Q) hD hp (fun n => ((pr r).take n).map fun z => V.bl (pe z)) rfl (by rw [vis_len]; simp [pr]) ?_ ?_
    · intro n xv H' hx s5 Y Z hY hZ
      obtain ⟨z, hj, rfl⟩ := vis_inv hx
      obtain ⟨dx, nm, pa, gl, fo, st, hT⟩ := hTx.same s5
      have hz : ∃ u : Nat, z = (u : Int) := by
        have := List.mem_of_getElem? hj
        simp only [pr, List.mem_cons, List.not_mem_nil, or_false] at this
        rcases this with rfl | rfl
        · exact ⟨_, rfl⟩
        · exact ⟨_, rfl⟩
      obtain ⟨u, rfl⟩ := hz
      have more : ∀ b : Bool, b = pe (u : Int) → Y (.bl b) H' := by
        rintro b rfl
        refine hY _ _ (Same.refl _) ?_
        show (List.map _ _) = List.map _ _ ++ _
        rw [take_more hj, List.map_append]
        rfl
      refine ⟨rfl, _, rfl, _, rfl, x, _, dx, _, _, rfl, hT.at_, c_ProofText T, n_ProofText_axioms T, lk_axioms _ _ _ _ _ _, _, _, rfl, rfl, _, rfl, ?_⟩
      by_cases c : (u : Int) < (t.axioms.length : Int)
      · refine if_true_of (decide_eq_true c) ?_
        refine more _ ?_
        show true = (decide ((u : Int) < (t.axioms.length : Int)) || done.contains ((u : Int).toNat))
        rw [decide_eq_true c, Bool.true_or]
      · refine if_false_of (decide_eq_false c) ?_
        refine ⟨_, rfl, _, rfl, dl, _, rfl, .inl (s5.seq hd), rfl, flat_nats _, more _ ?_⟩
        show inV (.int (u : Int)) (vn done) = (decide ((u : Int) < (t.axioms.length : Int)) || done.contains ((u : Int).toNat))
        rw [inV_nats, decide_eq_false c, Bool.false_or, Int.toNat_natCast]
    · intro H' s5 hD'
      refine ⟨D, (pr r).map pe, rfl, SqL.of ?_, ?_⟩
      · rw [hD', vis_len, List.take_length, List.map_map]
        rfl
      · have e : ((pr r).map pe).all id = (from_ t (t.axioms.length + i)).all fun x => done.contains x := by
          rw [Bool.eq_iff_iff, List.all_map, List.all_eq_true, List.all_eq_true]
          constructor
          · intro h x hx
            rw [SP.from_mem hr] at hx
            have h1 := h (x : Int) (by rcases hx.1 with rfl | rfl <;> simp [pr])
            have h2 : (decide ((x : Int) < (t.axioms.length : Int)) || done.contains ((x : Int).toNat)) = true := h1
            rw [decide_eq_false (by omega), Bool.false_or, Int.toNat_natCast] at h2
            exact h2
          · intro h z hz
            have hz2 : ∃ u : Nat, z = (u : Int) ∧ (u = r.i ∨ u = r.j) := by
              simp only [pr, List.mem_cons, List.not_mem_nil, or_false] at hz
              rcases hz with rfl | rfl
              · exact ⟨_, rfl, .inl rfl⟩
              · exact ⟨_, rfl, .inr rfl⟩
            obtain ⟨u, rfl, hu⟩ := hz2
            show (decide ((u : Int) < (t.axioms.length : Int)) || done.contains ((u : Int).toNat)) = true
            by_cases c : (u : Int) < (t.axioms.length : Int)
            · rw [decide_eq_true c, Bool.true_or]
            · have := h u (by rw [SP.from_mem hr]; exact ⟨hu, by omega⟩)
              rw [decide_eq_false c, Bool.false_or, Int.toNat_natCast]
              exact this
        rw [e]
        exact k1 H' s5
/-- whether one of some rows that's not done yet needs an item -/
def usedBy (t : Text_) (item : Nat) (rows done : List Nat) : Bool := rows.any fun m => !done.contains m && (from_ t m).contains item
/-- is_used(text, item, rows, done) -/
def sp_is_used (K : PySem.W.Frag) : Sp := fun vs H Q _ => ∃ (x rl dl : Addr) (t : Text_) (item : Nat) (rows done : List Nat), vs = [.ref x, .int (item : Int), .ref rl, .ref dl] ∧ TextAt K H x t ∧ t.axioms.length ≤ item ∧ (∀ k ∈ rows, RowN t k) ∧ rows.length ≤ 100 ∧ SqL K H rl (vn rows) ∧ SqL K H dl (vn done) ∧
  ∀ H', Same H H' → Q (.bl (usedBy t item rows done)) H'
abbrev N_is_used : List Str := ["text", "item", "rows", "done", "row"]
theorem sc_is_used : FnScope N_is_used ["text", "item", "rows", "done"] (defScope s_is_used) := ⟨rfl, rfl, rfl, by decide +kernel, rfl, by decide +kernel, by decide +kernel⟩
theorem g_is_used (T : Tx K mg) : GFn P w K mg base CX0 2 "is_used" ["text", "item", "rows", "done"] (sp_is_used K) := by
  have g_pair_of : GFn P w K mg base CX0 1 "pair_of" ["text", "row"] (sp_pair_of K) := g_pair_of T
  refine gfn0 (f_is_used T) (t_is_used T) sc_is_used (fun _ _ _ _ _ _ us hl => match us, hl with | [_, _, _, _], _ => rfl) (fun vs H Q E h => ?_) (fun f cdv A outer s H vs Q E hr h => ⟨_, (pss_one (ps_ret (pe_callB (cr_anyK K rfl rfl) (by rfl) (t_any T) (by decide +kernel) (pa_cons (pe_lc (own := [("row", 4)]) (g := gName 4) (tt := tYes) rfl sc_is_used.nd (pi_listK K (pv 2)) (blkOk_by (own := [("row", 4)]) (N := N_is_used) (sc := defScope s_is_used) (by decide +kernel)) (fun _ _ _ _ _ => (pg_name (i := 4) sc_is_used.nd rfl (Or.inl rfl))) (fun _ _ _ _ _ => pts_nil) (fun _ _ _ _ _ => (pe_and (pe_cmpR (op_notInK K) (pv 4) (pv 3) (by rfl)) (pe_one (pe_cmpR (op_inK K) (pv 1) (pe_fn g_pair_of (hr.mono (by omega)) pass0 (pa_cons (pv 0) (pa_cons (pv 4) pa_nil1))) (by rfl)))))) pa_nil1)))), ?_⟩)
  · obtain ⟨x, rl, dl, t, k, rows, done, rfl, _⟩ := h
    rfl
  · obtain ⟨x, rl, dl, t, item, rows, done, rfl, hTx, hit, hrows, hz, hrl, hd, k1⟩ := h
    refine ⟨_, rfl, rl, rfl, ⟨_, hrl⟩, fun D hD => ?_⟩
    let pe : Nat → Bool := fun m => !done.contains m && (from_ t m).contains item
    refine lcl (Q := fun v H' => rAny K [v] H' Q) hD hrl (fun n => (rows.take n).map fun z => V.bl (pe z)) rfl (by rw [vn_len]; omega) ?_ ?_
    · intro n xv H' hx s5 Y Z hY hZ
      obtain ⟨m, hm, rfl⟩ := vn_inv hx
      have more : ∀ b : Bool, b = pe m → ∀ H2, Same H' H2 → Y (.bl b) H2 := by
        rintro b rfl H2 s6
        refine hY _ _ s6 ?_
        show (List.map _ _) = List.map _ _ ++ _
        rw [take_more hm, List.map_append]
        rfl
      refine ⟨rfl, _, rfl, _, rfl, dl, _, rfl, .inl (s5.seq hd), rfl, flat_nats _, _, rfl, ?_⟩
      simp only [if_true, inV_nats]
      by_cases c : done.contains m = true
      · refine if_false_of (by rw [c]; rfl) ?_
        refine more _ ?_ H' (Same.refl _)
        show false = (!done.contains m && (from_ t m).contains item)
        rw [c]
        rfl
      · have c : done.contains m = false := by simpa using c
        refine if_true_of (by rw [c]; rfl) ?_
        obtain ⟨i, r, e, hr⟩ := hrows m (List.mem_of_getElem? hm)
        subst e
        refine ⟨_, rfl, _, rfl, _, rfl, x, t, i, r, rfl, hTx.same s5, hr, fun p hp => ?_⟩
        refine ⟨p, _, rfl, .inr hp, rfl, flat_ints _, more _ ?_ H' (Same.refl _)⟩
        show inV (.int (item : Int)) (vis (pr r)) = (!done.contains _ && (from_ t _).contains item)
        rw [c, Bool.not_false, Bool.true_and, inV_ints, Bool.eq_iff_iff]
        simp only [List.contains_iff_mem]
        rw [SP.from_mem hr]
        simp only [pr, List.mem_cons, List.not_mem_nil, or_false]
        omega
    · intro H' s5 hD'
      refine ⟨D, rows.map pe, rfl, SqL.of ?_, ?_⟩
      · rw [hD', vn_len, List.take_length, List.map_map]
        rfl
      · have e : (rows.map pe).any id = usedBy t item rows done := by
          rw [List.any_map]
          rfl
        rw [e]
        exact k1 H' s5
/-- what's held -/
def heldBy (t : Text_) (rows asked done : List Nat) : List Nat := done.filter fun k => asked.contains k || usedBy t k rows done
/-- places(text, rows, asked, done) -/
def sp_places (K : PySem.W.Frag) : Sp := fun vs H Q _ => ∃ (x rl al dl : Addr) (t : Text_) (rows asked done : List Nat), vs = [.ref x, .ref rl, .ref al, .ref dl] ∧ TextAt K H x t ∧ (∀ k ∈ rows, RowN t k) ∧ (∀ k ∈ done, t.axioms.length ≤ k) ∧ rows.length ≤ 100 ∧ done.length ≤ 100 ∧
  SqL K H rl (vn rows) ∧ SqL K H al (vn asked) ∧ SqL K H dl (vn done) ∧ ∀ H', Same H H' → Q (.int (((heldBy t rows asked done).length + 1 : Nat) : Int)) H'
abbrev N_places : List Str := ["text", "rows", "asked", "done", "held", "item"]
theorem sc_places : FnScope N_places ["text", "rows", "asked", "done"] (defScope s_places) := ⟨rfl, rfl, rfl, by decide +kernel, rfl, by decide +kernel, by decide +kernel⟩
theorem g_places (T : Tx K mg) : GFn P w K mg base CX0 3 "places" ["text", "rows", "asked", "done"] (sp_places K) := by
  have g_is_used : GFn P w K mg base CX0 2 "is_used" ["text", "item", "rows", "done"] (sp_is_used K) := g_is_used T
  refine gfn0 (f_places T) (t_places T) sc_places (fun _ _ _ _ _ _ us hl => match us, hl with | [_, _, _, _], _ => rfl) (fun vs H Q E h => ?_) (fun f cdv A outer s H vs Q E hr h => ⟨_, (pss_cons (ps_setLc (i := 4) (own := [("item", 5)]) (g := gName 5) rfl sc_places.nd rfl rfl (sw_true rfl rfl rfl (by decide +kernel)) (pi_listK K (pv 3)) (blkOk_by (own := [("item", 5)]) (N := N_places) (sc := defScope s_places) (by decide +kernel)) (fun _ _ _ _ _ => (pg_name (i := 5) sc_places.nd rfl (Or.inl rfl))) (fun _ _ _ _ _ => (pts_one (PW.pt (pw_or (pt_cmpR (op_inK K) (pv 5) (pv 2) (by rfl)) (pw_or1 (pt_val (pe_fn g_is_used (hr.mono (by omega)) pass0 (pa_cons (pv 0) (pa_cons (pv 5) (pa_cons (pv 1) (pa_cons (pv 3) pa_nil1))))))))))) (fun _ _ _ _ _ => (pv 5)))
  (pss_one (ps_ret (pe_op op_add (pe_callB (call_lenK K) (by rfl) (t_len T) PySem.boot_len (pa_cons (pv 4) pa_nil1)) pe_int1)))), ?_⟩)
  · obtain ⟨x, rl, al, dl, t, rows, asked, done, rfl, _⟩ := h
    rfl
  · obtain ⟨x, rl, al, dl, t, rows, asked, done, rfl, hTx, hrows, hdn, hz, hz2, hrl, hal, hdl, k1⟩ := h
    refine ⟨_, rfl, dl, rfl, ⟨_, hdl⟩, fun D hD => ?_⟩
    let res : Nat → List V := fun i => vn ((done.take i).filter fun k => asked.contains k || usedBy t k rows done)
    refine lcl (Q := fun v H' => gName 4 v (L2.start N_places [V.ref x, V.ref rl, V.ref al, V.ref dl]) H' _) hD hdl res rfl (by rw [vn_len]; omega) ?_ ?_
    · intro n xv H' hx s5 Y Z hY hZ
      obtain ⟨m, hm, rfl⟩ := vn_inv hx
      have yes : (asked.contains m || usedBy t m rows done) = true → ∀ H2, Same H' H2 → Y (.int (m : Int)) H2 := by
        intro c H2 s6
        refine hY _ _ s6 ?_
        show vn _ = vn _ ++ _
        rw [take_more hm, List.filter_append, List.filter_cons, if_pos c]
        simp [vn]
      have no : (asked.contains m || usedBy t m rows done) = false → ∀ H2, Same H' H2 → Z H2 := by
        intro c H2 s6
        refine hZ _ s6 ?_
        show vn _ = vn _
        rw [take_more hm, List.filter_append, List.filter_cons, if_neg (by rw [c]; decide)]
        simp
      refine ⟨rfl, _, rfl, _, rfl, al, _, rfl, .inl (s5.seq hal), rfl, flat_nats _, _, rfl, ?_⟩
      simp only [Bool.false_eq_true, if_false, inV_nats]
      by_cases c : asked.contains m = true
      · refine if_true_of c ?_
        exact ⟨_, rfl, yes (by rw [c, Bool.true_or]) H' (Same.refl _)⟩
      · have c : asked.contains m = false := by simpa using c
        refine if_false_of c ?_
        refine ⟨_, rfl, _, rfl, _, rfl, _, rfl, x, rl, dl, t, m, rows, done, rfl, hTx.same s5, hdn m (List.mem_of_getElem? hm), hrows, hz, s5.seq hrl, s5.seq hdl, fun H2 s6 => ⟨_, rfl, ?_⟩⟩
        by_cases c2 : usedBy t m rows done = true
        · refine if_true_of c2 ?_
          exact ⟨_, rfl, yes (by rw [c, c2]; rfl) H2 s6⟩
        · have c2 : usedBy t m rows done = false := by simpa using c2
          refine if_false_of c2 ?_
          exact no (by rw [c, c2]; rfl) H2 s6
    · intro H' s5 hD'
      have e : res (vn done).length = vn (heldBy t rows asked done) := by
        show vn _ = _
        rw [vn_len, List.take_length]
        rfl
      rw [e] at hD'
      refine ⟨_, rfl, D, _, rfl, .inl (SqL.of hD'), _, _, rfl, rfl, ?_⟩
      rw [vn_len]
      exact k1 H' s5
end SPW
end
section
set_option Elab.async false
set_option linter.all false
set_option maxRecDepth 100000
set_option maxHeartbeats 4000000
namespace SPW
open PySem PySem.Spec PyProof.Rows L2
open SP (ci co TOk rowsOf JOk)
open Vapcma (Form Text_ formulas count)
open Vapcmb (from_ held ready Job peakOf peakBy)
variable {P : Program} {w : World} {K : PySem.W.Frag} {mg : Str → Option Value} {base : Heap}
theorem rowsOf_row {t : Text_} {l : List Nat} : ∀ k ∈ rowsOf t l, RowN t k := fun k h => by
  obtain ⟨i, r, e, h1, _⟩ := SP.rowsOf_mem h
  exact ⟨i, r, e, h1⟩
/-- what an order is answered -/
def peakAns (x : Option Nat) : List Int := match x with
  | none => [0]
  | some m => [1, (m : Int)]
/-- the asked ones among the rows -/
theorem asked_eq {rows l : List Nat} {k : Nat} (h : k ∈ rows) : (rows.filter fun k => l.contains k).contains k = l.contains k := by
  rw [Bool.eq_iff_iff]
  simp only [List.contains_iff_mem, List.mem_filter]
  exact ⟨fun z => z.2, fun z => ⟨h, z⟩⟩
/-- a job of needed rows -/
structure JobOf (t : Text_) (l : List Nat) (j : Job) : Prop where
  rows : j.rows = rowsOf t l
  wish : ∀ k ∈ j.rows, j.wish.contains k = l.contains k
theorem JobOf.ok {t : Text_} {l : List Nat} {j : Job} (h : JobOf t l j) (ok : TOk t) : JOk t j := by
  obtain ⟨r, w⟩ := j
  have e : r = rowsOf t l := h.rows
  subst e
  exact SP.rowsOf_ok ok l w
theorem JobOf.held {t : Text_} {l : List Nat} {j : Job} (h : JobOf t l j) {done : List Nat} (hd : ∀ k ∈ done, k ∈ j.rows) : heldBy t (rowsOf t l) ((rowsOf t l).filter fun k => l.contains k) done = held t j done := by
  rw [SP.held_eq (asked := (rowsOf t l).filter fun k => l.contains k) fun k hk => ?_]
  · unfold heldBy usedBy
    rw [h.rows]
  · rw [asked_eq (h.rows ▸ hd k hk), h.wish k (hd k hk)]
/-- order_answer(text, wished, order) -/
def sp_order_answer (K : PySem.W.Frag) : Sp := fun vs H Q _ => ∃ (x wl ol : Addr) (t : Text_) (l o : List Nat) (j : Job), vs = [.ref x, .ref wl, .ref ol] ∧ TextAt K H x t ∧ SqL K H wl (vn l) ∧ (∀ z ∈ l, z < count t) ∧ SqL K H ol (vn o) ∧ JobOf t l j ∧
  ∀ H' p, Same H H' → H p = none → H' p = some (.lst (vis (peakAns (peakOf t j o)))) → Q (.ref p) H'
abbrev N_order_answer : List Str := ["text", "wished", "order", "rows", "asked", "row", "done", "peak"]
theorem sc_order_answer : FnScope N_order_answer ["text", "wished", "order"] (defScope s_order_answer) := ⟨rfl, rfl, rfl, by decide +kernel, rfl, by decide +kernel, by decide +kernel⟩
theorem g_order_answer (T : Tx K mg) : GFn P w K mg base CX0 4 "order_answer" ["text", "wished", "order"] (sp_order_answer K) := by
  have g_needed : GFn P w K mg base CX0 2 "needed" ["text", "numbers"] (sp_needed K) := g_needed T
  have g_is_ready : GFn P w K mg base CX0 2 "is_ready" ["text", "row", "done"] (sp_is_ready K) := g_is_ready T
  have g_places : GFn P w K mg base CX0 3 "places" ["text", "rows", "asked", "done"] (sp_places K) := g_places T
  refine gfn0 (f_order_answer T) (t_order_answer T) sc_order_answer (fun _ _ _ _ _ _ us hl => match us, hl with | [_, _, _], _ => rfl) (fun vs H Q E h => ?_) (fun f cdv A outer s H vs Q E hr h => ⟨_, (pss_cons (ps_set (i := 3) sc_order_answer.nd rfl (Or.inl rfl) (pe_fn g_needed (hr.mono (by omega)) pass0 (pa_cons (pv 0) (pa_cons (pv 1) pa_nil1))))
  (pss_cons (ps_if (pt_cmpR (op_neDK K hr.units) (pe_callB (cr_sortedK K) (by rfl) (t_sorted T) (by decide +kernel) (pa_cons (pv 2) pa_nil1)) (pv 3) (nomark _)) (pss_one (ps_ret (pe_lst (pa_cons pe_int1 pa_nil1))))
  pss_nil)
  (pss_cons (ps_setLc (i := 4) (own := [("row", 5)]) (g := gName 5) rfl sc_order_answer.nd rfl rfl (sw_true rfl rfl rfl (by decide +kernel)) (pi_listK K (pv 3)) (blkOk_by (own := [("row", 5)]) (N := N_order_answer) (sc := defScope s_order_answer) (by decide +kernel)) (fun _ _ _ _ _ => (pg_name (i := 5) sc_order_answer.nd rfl (Or.inl rfl))) (fun _ _ _ _ _ => (pts_one (pt_cmpR (op_inK K) (pv 5) (pv 1) (by rfl)))) (fun _ _ _ _ _ => (pv 5)))
  (pss_cons (ps_set (i := 6) sc_order_answer.nd rfl (Or.inl rfl) (pe_lst pa_nil1))
  (pss_cons (ps_set (i := 7) sc_order_answer.nd rfl (Or.inl rfl) pe_int1)
  (pss_cons (ps_for PassesOwn.never rfl (pi_listK K (pv 2)) (pg_name (i := 5) sc_order_answer.nd rfl (Or.inl rfl))
  (pss_cons (ps_if (pt_not (pt_val (pe_fn g_is_ready (hr.mono (by omega)) pass0 (pa_cons (pv 0) (pa_cons (pv 5) (pa_cons (pv 6) pa_nil1)))))) (pss_one (ps_ret (pe_lst (pa_cons pe_int1 pa_nil1))))
  pss_nil)
  (pss_cons (ps_set (i := 7) sc_order_answer.nd rfl (Or.inl rfl) (pe_callB (call_max2 rfl) (by rfl) (t_max T) (by decide +kernel) (pa_cons (pv 7) (pa_cons (pe_fn g_places (hr.mono (by omega)) pass0 (pa_cons (pv 0) (pa_cons (pv 3) (pa_cons (pv 4) (pa_cons (pv 6) pa_nil1))))) pa_nil1))))
  (pss_one (ps_expr (pe_bmK K PySem.F.plainAttrs_list PySem.F.slot_list_append PySem.F.type_list_append mt_append (pv 6) (pa_cons (pv 5) pa_nil1)))))))
  (pss_one (ps_ret (pe_lst (pa_cons pe_int1 (pa_cons (pv 7) pa_nil1))))))))))), ?_⟩)
  · obtain ⟨x, wl, ol, t, l, o, j, rfl, _⟩ := h
    rfl
  · obtain ⟨x, wl, ol, t, l, o, j, rfl, hTx, hwl, hlt, hol, hj, k⟩ := h
    have ok : TOk t := by obtain ⟨_, _, _, _, _, _, h⟩ := hTx; exact h.ok
    have hJ := hj.ok ok
    refine ⟨_, rfl, _, rfl, x, wl, t, l, rfl, hTx, hwl, hlt, fun H1 rl s1 frl hrl => ?_⟩
    have hrl24 : (rowsOf t l).length ≤ 24 := Nat.le_trans (SP.rowsOf_len l) ok.nr
    refine ⟨_, rfl, ol, o.map fun n : Nat => (n : Int), rfl, by rw [show List.map V.int (o.map fun n : Nat => (n : Int)) = vn o by rw [vn_vis]; rfl]; exact s1.seq hol, fun ns p hperm hsrt hp => ?_⟩
    have s2 : Same H1 (upd H1 p (.lst (ns.map V.int))) := Same.new hp
    have s12 := s1.trans s2
    refine ⟨_, rfl, _, _, dp_lst (l := ns) (SqL.of upd_same), dp_lst (l := (rowsOf t l).map fun n : Nat => (n : Int)) (by rw [← vn_vis]; exact SqL.of (s2 _ _ hrl)), lI_shaped _, lI_shaped _, _, rfl, ?_⟩
    rw [eqv_lI]
    have hsr := SP.sorted_rows (SP.rowsOf_sorted t l) hperm hsrt
    by_cases c : ns = (rowsOf t l).map fun n : Nat => (n : Int)
    · refine if_false_of (by rw [decide_eq_true c]; rfl) ?_
      have hpm : o.Perm (rowsOf t l) := hsr.mp c
      have hol24 : o.length ≤ 24 := by rw [hpm.length_eq]; exact hrl24
      have hond : o.Nodup := hpm.nodup_iff.mpr (SP.rowsOf_nodup t l)
      have hin : ∀ k ∈ o, k ∈ j.rows := fun k hk => by rw [hj.rows]; exact hpm.mem_iff.mp hk
      have hrl2 := s2 _ _ hrl
      generalize upd H1 p (.lst (ns.map V.int)) = H2 at s2 s12 hrl2 ⊢
      refine ⟨_, rfl, rl, rfl, ⟨_, SqL.of hrl2⟩, fun D hD => ?_⟩
      let res : Nat → List V := fun i => vn (((rowsOf t l).take i).filter fun k => l.contains k)
      refine lcl (Q := fun v H' => gName 4 v _ H' _) hD (SqL.of hrl2) res rfl (by rw [vn_len]; omega) ?_ ?_
      · intro n xv H' hx s5 Y Z hY hZ
        obtain ⟨m, hm, rfl⟩ := vn_inv hx
        refine ⟨rfl, _, rfl, _, rfl, wl, _, rfl, .inl ((s12.trans s5).seq hwl), rfl, flat_nats _, _, rfl, ?_⟩
        simp only [Bool.false_eq_true, if_false, inV_nats]
        by_cases c : l.contains m = true
        · refine if_true_of c ?_
          refine ⟨_, rfl, hY _ _ (Same.refl _) ?_⟩
          show vn _ = vn _ ++ _
          rw [take_more hm, List.filter_append, List.filter_cons, if_pos c]
          simp [vn]
        · have c : l.contains m = false := by simpa using c
          refine if_false_of c (hZ _ (Same.refl _) ?_)
          show vn _ = vn _
          rw [take_more hm, List.filter_append, List.filter_cons, if_neg (by rw [c]; decide)]
          simp
      · intro H3 s3 hD3
        have e : res (vn (rowsOf t l)).length = vn ((rowsOf t l).filter fun k => l.contains k) := by
          show vn _ = _
          rw [vn_len, List.take_length]
        rw [e] at hD3
        have s13 := s12.trans s3
        refine ⟨small_size (by simp), fun dl hdl => ?_⟩
        have hdl0 : H dl = none := s13.free hdl
        have s4 : Same H3 (upd H3 dl (.lst [])) := Same.new hdl
        have hrl3 := s3 _ _ hrl2
        have hnr : rl ≠ dl := ne_of_none hrl3 hdl
        have hnD : D ≠ dl := ne_of_none hD3 hdl
        have hpk : peakOf t j o = peakBy t j [] 0 o := by
          rw [peakOf, hj.rows, if_pos hpm.length_eq]
        refine ⟨_, rfl, ol, rfl, ⟨_, (s13.trans s4).seq hol⟩, ?_⟩
        refine for_list (K := K) (a := ol) (xs := vn o) (fun i σ' H' => ∃ (m : Nat) (v5 : Option V), σ' = [some (.ref x), some (.ref wl), some (.ref ol), some (.ref rl), some (.ref D), v5, some (.ref dl), some (.int (m : Int))] ∧ Same H H' ∧
            H' rl = some (.lst (vn (rowsOf t l))) ∧ H' D = some (.lst (vn ((rowsOf t l).filter fun k => l.contains k))) ∧ H' dl = some (.lst (vn (o.take i))) ∧ peakBy t j (o.take i) m (o.drop i) = peakOf t j o)
          ⟨0, none, rfl, s13.trans s4, s4 _ _ hrl3, s4 _ _ hD3, upd_same, by rw [hpk]; rfl⟩ (fun i σ' H' _ ⟨_, _, _, s, _⟩ => s.seq hol) ?_ ?_
        · rintro i xv σ' H' hx ⟨m, v5, rfl, s5, hrl5, hD5, hdl5, hpb⟩
          obtain ⟨r, hr, rfl⟩ := vn_inv hx
          have hrm := hin r (List.mem_of_getElem? hr)
          have hlt := (List.getElem?_eq_some_iff.mp hr).1
          have hdrop : o.drop i = r :: o.drop (i + 1) := by
            rw [List.drop_eq_getElem_cons hlt]
            congr 1
            rw [List.getElem?_eq_getElem hlt] at hr
            exact Option.some.inj hr
          have hnot : r ∉ o.take i := by
            intro z
            have := (List.take_append_drop i o) ▸ hond
            rw [List.nodup_append] at this
            exact this.2.2 r z r (by rw [hdrop]; simp) rfl
          rw [hdrop, SP.peak_step hrm hnot] at hpb
          have hin2 : ∀ k ∈ o.take i, k ∈ j.rows := fun k hk => hin k (List.mem_of_mem_take hk)
          refine ⟨_, rfl, _, rfl, _, rfl, x, dl, t, r, o.take i, rfl, hTx.same s5, rowsOf_row r (hj.rows ▸ hrm), SqL.of hdl5, fun H6 s6 => ⟨_, rfl, ?_⟩⟩
          by_cases c2 : ((Vapcmb.from_ t r).all fun x => (o.take i).contains x) = true
          · rw [if_pos c2] at hpb
            refine if_false_of (by rw [c2]; rfl) ?_
            have s7 := s5.trans s6
            refine ⟨_, rfl, _, rfl, _, rfl, _, rfl, _, rfl, x, rl, D, dl, t, rowsOf t l, _, o.take i, rfl, hTx.same s7, rowsOf_row, fun k hk => (rowsOf_row k (hj.rows ▸ hin2 k hk)).ge, by omega, by rw [List.length_take]; omega, SqL.of (s6 _ _ hrl5), SqL.of (s6 _ _ hD5), SqL.of (s6 _ _ hdl5), fun H7 s8 => ?_⟩
            rw [hj.held hin2]
            have s9 := s6.trans s8
            have hdl7 := s9 _ _ hdl5
            refine ⟨_, _, rfl, ?_⟩
            refine ⟨_, rfl, .inl ⟨rfl, _, SqL.of hdl7⟩, _, rfl, dl, _, _, rfl, rfl, hdl7, small_lt (by rw [vn_len, List.length_take]; omega), ?_⟩
            refine ⟨Nat.max m ((held t j (o.take i)).length + 1), some (.int (r : Int)), ?_, (s5.trans s9).mut hdl0, ?_, ?_, ?_, ?_⟩
            · have e9 : (if (((held t j (o.take i)).length + 1 : Nat) : Int) > (m : Int) then (((held t j (o.take i)).length + 1 : Nat) : Int) else (m : Int)) = ((Nat.max m ((held t j (o.take i)).length + 1) : Nat) : Int) := by
                have : Nat.max m ((held t j (o.take i)).length + 1) = if m ≤ (held t j (o.take i)).length + 1 then (held t j (o.take i)).length + 1 else m := rfl
                rw [this]
                split <;> split <;> omega
              rw [e9]
              rfl
            · rw [upd_ne hnr]; exact s9 _ _ hrl5
            · rw [upd_ne hnD]; exact s9 _ _ hD5
            · rw [upd_same, vn_snoc, take_more hr]
            · rw [take_more hr]
              exact hpb
          · rw [if_neg c2] at hpb
            have c2 : ((Vapcmb.from_ t r).all fun x => (o.take i).contains x) = false := by simpa using c2
            refine if_true_of (by rw [c2]; rfl) ?_
            refine ⟨small_size (by simp), fun q hq => ?_⟩
            refine k _ q ((s5.trans s6).trans (Same.new hq)) ((s5.trans s6).free hq) ?_
            rw [upd_same, ← hpb]
            rfl
        · rintro σ' H' ⟨m, v5, rfl, s5, hrl5, hD5, hdl5, hpb⟩
          rw [vn_len, List.take_length, List.drop_length] at hpb
          refine ⟨_, rfl, small_size (by simp), fun q hq => ?_⟩
          refine k _ q (s5.trans (Same.new hq)) (s5.free hq) ?_
          rw [upd_same, ← hpb]
          rfl
    · refine if_true_of (by rw [decide_eq_false c]; rfl) ?_
      refine ⟨small_size (by simp), fun q hq => ?_⟩
      refine k _ q (s12.trans (Same.new hq)) (s12.free hq) ?_
      have hno : peakOf t j o = none := by
        cases e : peakOf t j o with
        | none => rfl
        | some m =>
          have := SP.peakOf_perm hJ.nd e
          rw [hj.rows] at this
          exact absurd (hsr.mpr this) c
      rw [upd_same, hno]
      rfl
end SPW
end
section
set_option Elab.async false
set_option linter.all false
set_option maxRecDepth 100000
set_option maxHeartbeats 4000000
namespace SPW
open PySem PySem.Spec PyProof.Rows L2
open SP (ci co TOk rowsOf JOk tv now frs via gm picks)
open Vapcma (Form Text_ formulas count)
open Vapcmb (from_ held ready Job inSet table)
variable {P : Program} {w : World} {K : PySem.W.Frag} {mg : Str → Option Value} {base : Heap}
theorem bit_and {m k : Nat} (hm : m < 256) (hk : k < 8) : Builtin.bitAnd ((m : Int) / 2 ^ ((k : Int).toNat)) 1 = ((m / 2 ^ k % 2 : Nat) : Int) := by
  have key : ∀ (m : Fin 256) (k : Fin 8), Builtin.bitAnd ((m.val : Int) / 2 ^ ((k.val : Int).toNat)) 1 = ((m.val / 2 ^ k.val % 2 : Nat) : Int) := by decide +kernel
  exact key ⟨m, hm⟩ ⟨k, hk⟩
theorem bit_or {m k : Nat} (hm : m < 256) (hk : k < 8) (h : m / 2 ^ k % 2 ≠ 1) : Builtin.bitOr (m : Int) (1 * 2 ^ ((k : Int).toNat)) = ((m + 2 ^ k : Nat) : Int) := by
  have key : ∀ (m : Fin 256) (k : Fin 8), m.val / 2 ^ k.val % 2 ≠ 1 → Builtin.bitOr (m.val : Int) (1 * 2 ^ ((k.val : Int).toNat)) = ((m.val + 2 ^ k.val : Nat) : Int) := by decide +kernel
  exact key ⟨m, hm⟩ ⟨k, hk⟩ h
theorem zipIdx_at {l : List Nat} {i r : Nat} (h : l[i]? = some r) : l.zipIdx[i]? = some (r, i) := by
  rw [List.getElem?_zipIdx, h]
  simp
/-- done_rows(rows, mask) -/
def sp_done_rows (K : PySem.W.Frag) : Sp := fun vs H Q _ => ∃ (rl : Addr) (rows : List Nat) (m : Nat), vs = [.ref rl, .int (m : Int)] ∧ SqL K H rl (vn rows) ∧ rows.length ≤ 8 ∧ m < 256 ∧ ∀ H' p, Same H H' → H p = none → H' p = some (.lst (vn (inSet rows m))) → Q (.ref p) H'
abbrev N_done_rows : List Str := ["rows", "mask", "k", "row"]
theorem sc_done_rows : FnScope N_done_rows ["rows", "mask"] (defScope s_done_rows) := ⟨rfl, rfl, rfl, by decide +kernel, rfl, by decide +kernel, by decide +kernel⟩
theorem g_done_rows (T : Tx K mg) : GFn P w K mg base CX0 1 "done_rows" ["rows", "mask"] (sp_done_rows K) := by
  refine gfn0 (f_done_rows T) (t_done_rows T) sc_done_rows (fun _ _ _ _ _ _ us hl => match us, hl with | [_, _], _ => rfl) (fun vs H Q E h => ?_) (fun f cdv A outer s H vs Q E hr h => ⟨_, (pss_one (ps_ret (pe_lc (own := [("k", 2), ("row", 3)]) rfl sc_done_rows.nd (pi_enumK K (by rfl) (t_enumerate T) (pa_cons (pv 0) pa_nil1)) (blkOk_by (own := [("k", 2), ("row", 3)]) (N := N_done_rows) (sc := defScope s_done_rows) (by decide +kernel)) (fun _ _ _ _ _ => (pg_tupK K (n := 2) rfl (pgs_cons (pg_name (i := 2) sc_done_rows.nd rfl (Or.inl rfl)) (pgs_cons (pg_name (i := 3) sc_done_rows.nd rfl (Or.inl rfl)) pgs_nil)))) (fun _ _ _ _ _ => (pts_one (pt_cmpR op_eq (pe_op op_and (pe_op op_shr (pv 1) (pv 2)) pe_int1) pe_int1 (nomark _)))) (fun _ _ _ _ _ => (pv 3))))), ?_⟩)
  · obtain ⟨rl, rows, m, rfl, _⟩ := h
    rfl
  · obtain ⟨rl, rows, m, rfl, hrl, hz, hm, k⟩ := h
    refine ⟨_, rfl, rl, _, rfl, hrl, fun D hD => ?_⟩
    let res : Nat → List V := fun i => vn (((rows.zipIdx.take i).filter fun x => m / 2 ^ x.2 % 2 == 1).map fun x => x.1)
    refine lce hD hrl res rfl (by rw [vn_len]; omega) ?_ ?_
    · intro i xv T' H' hx s5 hT' Y Z hY hZ
      obtain ⟨r, hr, rfl⟩ := vn_inv hx
      have hi := (List.getElem?_eq_some_iff.mp hr).1
      have hz2 := zipIdx_at hr
      have s6 : Same H' (upd H' T' (.tup [.int (i : Int), .int (r : Int)])) := Same.new hT'
      refine ⟨T', _, rfl, SqT.of upd_same, rfl, _, _, rfl, _, _, rfl, rfl, rfl, ?_⟩
      refine ⟨_, rfl, _, rfl, _, _, rfl, rfl, by omega, _, _, rfl, rfl, rfl, _, rfl, ?_⟩
      have eb : decide (V.int (Builtin.bitAnd ((m : Int) / 2 ^ ((i : Int).toNat)) 1) = V.int 1) = decide (m / 2 ^ i % 2 = 1) := by
        have hi8 : i < 8 := by omega
        rw [bit_and hm hi8, int_dec, Bool.eq_iff_iff]
        simp only [decide_eq_true_eq]
        omega
      by_cases c : m / 2 ^ i % 2 = 1
      · refine if_true_of (eb.trans (decide_eq_true c)) ?_
        refine ⟨_, rfl, hY _ _ s6 ?_⟩
        show vn _ = vn _ ++ _
        rw [take_more hz2, List.filter_append, List.map_append, List.filter_cons, if_pos (by simpa using c)]
        simp [vn]
      · refine if_false_of (eb.trans (decide_eq_false c)) (hZ _ s6 ?_)
        show vn _ = vn _
        rw [take_more hz2, List.filter_append, List.map_append, List.filter_cons, if_neg (by simpa using c)]
        simp
    · intro H' s5 hD'
      refine k H' D s5 hD ?_
      rw [hD']
      show some (HO.lst (vn _)) = _
      rw [vn_len, List.take_of_length_le (by rw [List.length_zipIdx]; omega)]
      rfl
/-- free(text, rows, done) -/
def freeOf (t : Text_) (rows done : List Nat) : List (Nat × Nat) := rows.zipIdx.filter fun x => ready t done x.1
def sp_free (K : PySem.W.Frag) : Sp := fun vs H Q _ => ∃ (x rl dl : Addr) (t : Text_) (rows done : List Nat), vs = [.ref x, .ref rl, .ref dl] ∧ TextAt K H x t ∧ (∀ k ∈ rows, RowN t k) ∧ rows.length ≤ 8 ∧ SqL K H rl (vn rows) ∧ SqL K H dl (vn done) ∧
  ∀ H' p, Same H H' → H p = none → H' p = some (.lst (vn ((freeOf t rows done).map fun x => x.2))) → Q (.ref p) H'
abbrev N_free : List Str := ["text", "rows", "done", "k", "row"]
theorem sc_free : FnScope N_free ["text", "rows", "done"] (defScope s_free) := ⟨rfl, rfl, rfl, by decide +kernel, rfl, by decide +kernel, by decide +kernel⟩
theorem g_free (T : Tx K mg) : GFn P w K mg base CX0 3 "free" ["text", "rows", "done"] (sp_free K) := by
  have g_is_ready : GFn P w K mg base CX0 2 "is_ready" ["text", "row", "done"] (sp_is_ready K) := g_is_ready T
  refine gfn0 (f_free T) (t_free T) sc_free (fun _ _ _ _ _ _ us hl => match us, hl with | [_, _, _], _ => rfl) (fun vs H Q E h => ?_) (fun f cdv A outer s H vs Q E hr h => ⟨_, (pss_one (ps_ret (pe_lc (own := [("k", 3), ("row", 4)]) rfl sc_free.nd (pi_enumK K (by rfl) (t_enumerate T) (pa_cons (pv 1) pa_nil1)) (blkOk_by (own := [("k", 3), ("row", 4)]) (N := N_free) (sc := defScope s_free) (by decide +kernel)) (fun _ _ _ _ _ => (pg_tupK K (n := 2) rfl (pgs_cons (pg_name (i := 3) sc_free.nd rfl (Or.inl rfl)) (pgs_cons (pg_name (i := 4) sc_free.nd rfl (Or.inl rfl)) pgs_nil)))) (fun _ _ _ _ _ => (pts_one (PW.pt (pw_and (pt_cmpR (op_notInK K) (pv 4) (pv 2) (by rfl)) (pw_and1 (pt_val (pe_fn g_is_ready (hr.mono (by omega)) pass0 (pa_cons (pv 0) (pa_cons (pv 4) (pa_cons (pv 2) pa_nil1)))))))))) (fun _ _ _ _ _ => (pv 3))))), ?_⟩)
  · obtain ⟨x, rl, dl, t, rows, done, rfl, _⟩ := h
    rfl
  · obtain ⟨x, rl, dl, t, rows, done, rfl, hTx, hrows, hz, hrl, hdl, k⟩ := h
    refine ⟨_, rfl, rl, _, rfl, hrl, fun D hD => ?_⟩
    let res : Nat → List V := fun i => vn (((rows.zipIdx.take i).filter fun x => ready t done x.1).map fun x => x.2)
    refine lce hD hrl res rfl (by rw [vn_len]; omega) ?_ ?_
    · intro i xv T' H' hx s5 hT' Y Z hY hZ
      obtain ⟨r, hr, rfl⟩ := vn_inv hx
      have hi := (List.getElem?_eq_some_iff.mp hr).1
      have hz2 := zipIdx_at hr
      have s6 : Same H' (upd H' T' (.tup [.int (i : Int), .int (r : Int)])) := Same.new hT'
      have s56 := s5.trans s6
      have yes : ready t done r = true → ∀ H2, Same H' H2 → Y (.int (i : Int)) H2 := by
        intro c H2 s7
        refine hY _ _ s7 ?_
        show vn _ = vn _ ++ _
        rw [take_more hz2, List.filter_append, List.map_append, List.filter_cons, if_pos c]
        simp [vn]
      have no : ready t done r = false → ∀ H2, Same H' H2 → Z H2 := by
        intro c H2 s7
        refine hZ _ s7 ?_
        show vn _ = vn _
        rw [take_more hz2, List.filter_append, List.map_append, List.filter_cons, if_neg (by rw [c]; decide)]
        simp
      refine ⟨T', _, rfl, SqT.of upd_same, rfl, _, _, rfl, _, _, rfl, rfl, rfl, ?_⟩
      refine ⟨_, rfl, _, rfl, dl, _, rfl, .inl (s56.seq hdl), rfl, flat_nats _, _, rfl, ?_⟩
      simp only [if_true, inV_nats]
      by_cases c : done.contains r = true
      · refine if_false_of (by rw [c]; rfl) ?_
        refine if_false_of rfl ?_
        exact no (by rw [ready, c]; rfl) _ s6
      · have c : done.contains r = false := by simpa using c
        refine if_true_of (by rw [c]; rfl) ?_
        refine ⟨_, rfl, _, rfl, _, rfl, x, dl, t, r, done, rfl, hTx.same s56, hrows r (List.mem_of_getElem? hr), s56.seq hdl, fun H2 s7 => ⟨_, rfl, ?_⟩⟩
        by_cases c2 : ((Vapcmb.from_ t r).all fun x => done.contains x) = true
        · refine if_true_of c2 ?_
          refine ⟨_, rfl, yes (by rw [ready, c, c2]; rfl) H2 (s6.trans s7)⟩
        · have c2 : ((Vapcmb.from_ t r).all fun x => done.contains x) = false := by simpa using c2
          refine if_false_of c2 ?_
          exact no (by rw [ready, c, c2]; rfl) H2 (s6.trans s7)
    · intro H' s5 hD'
      refine k H' D s5 hD ?_
      rw [hD']
      show some (HO.lst (vn _)) = _
      rw [vn_len, List.take_of_length_le (by rw [List.length_zipIdx]; omega)]
      rfl
end SPW
end
section
set_option Elab.async false
set_option linter.all false
set_option maxRecDepth 100000
set_option maxHeartbeats 4000000
namespace SPW
open PySem PySem.Spec PyProof.Rows L2
open SP (ci co TOk rowsOf JOk tv now frs via gm picks)
open Vapcma (Form Text_ formulas count)
open Vapcmb (from_ held ready Job inSet table leastOrder orderBy)
variable {P : Program} {w : World} {K : PySem.W.Frag} {mg : Str → Option Value} {base : Heap}
theorem pow_le {n : Nat} (h : n ≤ 8) : 2 ^ n ≤ 256 := Nat.pow_le_pow_right (by decide) h
theorem rep_n (c n : Nat) : (List.replicate n [V.int (c : Int)]).flatten = vn (List.replicate n c) := by
  induction n with
  | zero => rfl
  | succ n ih => rw [List.replicate_succ, List.flatten_cons, ih]; rfl
/-- the list of the least, with the sets below m not yet worked out -/
def bestAt (t : Text_) (j : Job) (m : Nat) : List Nat := List.replicate m 99 ++ (table t j).drop m
theorem bestAt_len {t : Text_} {j : Job} {m : Nat} (h : m ≤ 2 ^ j.rows.length) : (bestAt t j m).length = 2 ^ j.rows.length := by
  rw [bestAt, List.length_append, List.length_replicate, List.length_drop, SP.table_len]
  omega
theorem tv_at {t : Text_} {j : Job} {m : Nat} (h : m < 2 ^ j.rows.length) : (table t j)[m]? = some (tv t j m) := by
  unfold tv
  rw [List.getD_eq_getElem?_getD, SP.get_of_lt (show m < (table t j).length by rw [SP.table_len]; exact h)]
  rfl
theorem min_nat (a b : Nat) : (if (b : Int) < (a : Int) then (b : Int) else (a : Int)) = ((Nat.min a b : Nat) : Int) := by
  have : Nat.min a b = if a ≤ b then a else b := rfl
  rw [this]
  split <;> split <;> omega
theorem max_nat (a b : Nat) : (if (b : Int) > (a : Int) then (b : Int) else (a : Int)) = ((Nat.max a b : Nat) : Int) := by
  have : Nat.max a b = if a ≤ b then b else a := rfl
  rw [this]
  split <;> split <;> omega
theorem inSet_rows {t : Text_} {l : List Nat} {j : Job} (hj : JobOf t l j) (m : Nat) : ∀ k ∈ inSet j.rows m, k ∈ j.rows := fun k hk => SP.inSet_sub hk
def bst (t : Text_) (j : Job) (m cur : Nat) : List Nat := List.replicate m 99 ++ cur :: (table t j).drop (m + 1)
theorem bst_start (t : Text_) (j : Job) (m : Nat) : bestAt t j (m + 1) = bst t j m 99 := by
  rw [bestAt, bst, List.replicate_succ', List.append_assoc]
  rfl
theorem table_cons {t : Text_} {j : Job} {m : Nat} (h : m < 2 ^ j.rows.length) : (table t j).drop m = tv t j m :: (table t j).drop (m + 1) := by
  have h1 := tv_at (t := t) h
  have hlt := (List.getElem?_eq_some_iff.mp h1).1
  rw [List.drop_eq_getElem_cons hlt]
  congr 1
  rw [List.getElem?_eq_getElem hlt] at h1
  exact Option.some.inj h1
theorem bst_end {t : Text_} {j : Job} {m : Nat} (h : m < 2 ^ j.rows.length) : bst t j m (tv t j m) = bestAt t j m := by
  rw [bestAt, bst, table_cons h]
theorem bst_len {t : Text_} {j : Job} {m : Nat} (c : Nat) (h : m < 2 ^ j.rows.length) : (bst t j m c).length = 2 ^ j.rows.length := by
  rw [bst, List.length_append, List.length_replicate, List.length_cons, List.length_drop, SP.table_len]
  omega
theorem bst_get (t : Text_) (j : Job) (m c : Nat) : (bst t j m c)[m]? = some c := by
  rw [bst, List.getElem?_append_right (by simp)]
  simp
theorem bst_hi {t : Text_} {j : Job} {m k : Nat} (c : Nat) (h1 : m < k) (h2 : k < 2 ^ j.rows.length) : (bst t j m c)[k]? = some (tv t j k) := by
  rw [bst, List.getElem?_append_right (by simp; omega), List.length_replicate, show k - m = (k - (m + 1)) + 1 by omega, List.getElem?_cons_succ, List.getElem?_drop, show m + 1 + (k - (m + 1)) = k by omega]
  exact tv_at h2
theorem bst_set (t : Text_) (j : Job) (m c d : Nat) : (bst t j m c).set m d = bst t j m d := by
  rw [bst, List.set_append_right _ _ (by simp), List.length_replicate, Nat.sub_self]
  rfl
theorem vn_set (l : List Nat) (i d : Nat) : (vn l).set i (V.int (d : Int)) = vn (l.set i d) := by simp only [vn, List.map_set]
theorem gm_take {A : Type} (f : A → Nat) (a : Nat) {l : List A} {n : Nat} {x : A} (h : l[n]? = some x) : gm f a (l.take (n + 1)) = Nat.min (gm f a (l.take n)) (f x) := by
  unfold gm
  rw [take_more h, List.foldl_append]
  rfl
/-- least_peaks(text, rows, asked) -/
def sp_least_peaks (K : PySem.W.Frag) : Sp := fun vs H Q _ => ∃ (x rl al : Addr) (t : Text_) (l : List Nat) (j : Job), vs = [.ref x, .ref rl, .ref al] ∧ TextAt K H x t ∧ JobOf t l j ∧ j.rows.length ≤ 8 ∧ SqL K H rl (vn (rowsOf t l)) ∧ SqL K H al (vn ((rowsOf t l).filter fun k => l.contains k)) ∧
  ∀ H' p, Same H H' → H p = none → H' p = some (.lst (vn (table t j))) → Q (.ref p) H'
abbrev N_least_peaks : List Str := ["text", "rows", "asked", "full", "best", "mask", "done", "many", "k"]
theorem sc_least_peaks : FnScope N_least_peaks ["text", "rows", "asked"] (defScope s_least_peaks) := ⟨rfl, rfl, rfl, by decide +kernel, rfl, by decide +kernel, by decide +kernel⟩
theorem g_least_peaks (T : Tx K mg) : GFn P w K mg base CX0 4 "least_peaks" ["text", "rows", "asked"] (sp_least_peaks K) := by
  have g_done_rows : GFn P w K mg base CX0 1 "done_rows" ["rows", "mask"] (sp_done_rows K) := g_done_rows T
  have g_places : GFn P w K mg base CX0 3 "places" ["text", "rows", "asked", "done"] (sp_places K) := g_places T
  have g_free : GFn P w K mg base CX0 3 "free" ["text", "rows", "done"] (sp_free K) := g_free T
  refine gfn0 (f_least_peaks T) (t_least_peaks T) sc_least_peaks (fun _ _ _ _ _ _ us hl => match us, hl with | [_, _, _], _ => rfl) (fun vs H Q E h => ?_) (fun f cdv A outer s H vs Q E hr h => ⟨_, (pss_cons (ps_set (i := 3) sc_least_peaks.nd rfl (Or.inl rfl) (pe_op op_sub (pe_op op_shl pe_int1 (pe_callB (call_lenK K) (by rfl) (t_len T) PySem.boot_len (pa_cons (pv 1) pa_nil1))) pe_int1))
  (pss_cons (ps_set (i := 4) sc_least_peaks.nd rfl (Or.inl rfl) (pe_op op_cat (pe_op op_rep (pe_lst (pa_cons (pe_ci1 (t_NO_WAY T)) pa_nil1)) (pv 3)) (pe_lst (pa_cons pe_int1 pa_nil1))))
  (pss_cons (ps_for PassesOwn.never rfl (pi_range3 rfl (t_range T) (pa_cons (pe_op op_sub (pv 3) pe_int1) (pa_cons (pe_un un_neg pe_int1) (pa_cons (pe_un un_neg pe_int1) pa_nil1)))) (pg_name (i := 5) sc_least_peaks.nd rfl (Or.inl rfl))
  (pss_cons (ps_set (i := 6) sc_least_peaks.nd rfl (Or.inl rfl) (pe_fn g_done_rows (hr.mono (by omega)) pass0 (pa_cons (pv 1) (pa_cons (pv 5) pa_nil1))))
  (pss_cons (ps_set (i := 7) sc_least_peaks.nd rfl (Or.inl rfl) (pe_fn g_places (hr.mono (by omega)) pass0 (pa_cons (pv 0) (pa_cons (pv 1) (pa_cons (pv 2) (pa_cons (pv 6) pa_nil1))))))
  (pss_one (ps_for PassesOwn.never rfl (pi_listK K (pe_fn g_free (hr.mono (by omega)) pass0 (pa_cons (pv 0) (pa_cons (pv 1) (pa_cons (pv 6) pa_nil1))))) (pg_name (i := 8) sc_least_peaks.nd rfl (Or.inl rfl))
  (pss_one (ps_asg (pe_callB (call_min2 rfl) (by rfl) (t_min T) (by decide +kernel) (pa_cons (pe_ix (ix_listK K) (pv 4) (pv 5) (fun _ _ => rfl)) (pa_cons (pe_callB (call_max2 rfl) (by rfl) (t_max T) (by decide +kernel) (pa_cons (pv 7) (pa_cons (pe_ix (ix_listK K) (pv 4) (pe_op op_or (pv 5) (pe_op op_shl pe_int1 (pv 8))) (fun _ _ => rfl)) pa_nil1))) pa_nil1))) (pg_sub (pv 4) (pv 5) set_list))))))))
  (pss_one (ps_ret (pv 4)))))), ?_⟩)
  · obtain ⟨x, rl, al, t, l, j, rfl, _⟩ := h
    rfl
  · obtain ⟨x, rl, al, t, l, j, rfl, hTx, hj, h8, hrl, hal, k⟩ := h
    have ok : TOk t := by obtain ⟨_, _, _, _, _, _, h⟩ := hTx; exact h.ok
    have hJ := hj.ok ok
    have hrw : rowsOf t l = j.rows := hj.rows.symm
    have hp2 := pow_le h8
    have hpos := Nat.two_pow_pos j.rows.length
    have hfull : (1 : Int) * 2 ^ ((((vn (rowsOf t l)).length : Nat) : Int).toNat) - 1 = ((2 ^ j.rows.length - 1 : Nat) : Int) := by
      rw [vn_len, hrw, Int.toNat_natCast, Int.one_mul]
      have : ((2 ^ j.rows.length : Nat) : Int) = (2 : Int) ^ j.rows.length := by simp
      omega
    refine ⟨_, rfl, rl, _, rfl, .inl hrl, _, _, rfl, rfl, ⟨by omega, by rw [vn_len, hrw]; omega, by decide⟩, _, _, rfl, rfl, ?_⟩
    dsimp only
    rw [hfull]
    generalize hfn : 2 ^ j.rows.length - 1 = full at *
    have hf1 : full + 1 = 2 ^ j.rows.length := by omega
    refine ⟨small_size (by simp), fun z hz => ?_⟩
    have sz : Same H (upd H z (.lst [.int 99])) := Same.new hz
    refine ⟨_, rfl, z, (full : Int), _, rfl, rfl, upd_same, by omega, by omega, small_size (by simp; omega), fun p hp => ?_⟩
    rw [Int.toNat_natCast, show (V.int 99) = V.int ((99 : Nat) : Int) from rfl, rep_n]
    have s1 : Same H (upd (upd H z (.lst [.int ((99 : Nat) : Int)])) p (.lst (vn (List.replicate full 99)))) := sz.trans (Same.new hp)
    have hp1 : upd (upd H z (.lst [.int ((99 : Nat) : Int)])) p (.lst (vn (List.replicate full 99))) p = _ := upd_same
    generalize upd (upd H z (.lst [.int ((99 : Nat) : Int)])) p (.lst (vn (List.replicate full 99))) = H1 at s1 hp1 ⊢
    refine ⟨small_size (by simp), fun q hq => ?_⟩
    have s2 : Same H1 (upd H1 q (.lst [.int 0])) := Same.new hq
    refine ⟨p, q, vn (List.replicate full 99), [.int 0], rfl, rfl, s2 _ _ hp1, upd_same, small_size (by rw [vn_len, List.length_replicate]; simp; omega), fun bl hbl => ?_⟩
    have s3 : Same H (upd (upd H1 q (.lst [.int 0])) bl (.lst (vn (List.replicate full 99) ++ [.int 0]))) := (s1.trans s2).trans (Same.new hbl)
    have hbl0 : H bl = none := (s1.trans s2).free hbl
    have e0 : vn (List.replicate full 99) ++ [V.int 0] = vn (bestAt t j full) := by
      rw [show (V.int 0) = V.int ((0 : Nat) : Int) from rfl, vn_snoc, bestAt]
      have h1 := table_cons (t := t) (j := j) (m := full) (by omega)
      have h2 : tv t j full = 0 := by rw [SP.tv_step t j (by omega), if_pos hf1]
      have h3 : (table t j).drop (full + 1) = [] := List.drop_eq_nil_of_le (by rw [SP.table_len]; omega)
      rw [h1, h2, h3]
    rw [e0] at s3 ⊢
    have hb3 : upd (upd H1 q (.lst [.int 0])) bl (.lst (vn (bestAt t j full))) bl = _ := upd_same
    generalize upd (upd H1 q (.lst [.int 0])) bl (.lst (vn (bestAt t j full))) = H3 at s3 hb3 ⊢
    refine ⟨_, rfl, _, _, rfl, rfl, _, rfl, _, rfl, _, _, _, _, rfl, RgC.neg (by omega) (by omega) (by omega) (by omega), ?_⟩
    rw [show ((full : Int) - 1 - -1).toNat = full by omega]
    have hrl3 : SqL K H3 rl (vn j.rows) := by rw [← hrw]; exact s3.seq hrl
    have hrows := rowsOf_row (t := t) (l := l)
    rw [hrw] at hrows
    refine for_rangeC (fun i σ' H' => ∃ (v5 v6 v7 v8 : Option V), σ' = [some (.ref x), some (.ref rl), some (.ref al), some (.int (full : Int)), some (.ref bl), v5, v6, v7, v8] ∧ Same H H' ∧ H' bl = some (.lst (vn (bestAt t j (full - i)))))
      ⟨none, none, none, none, rfl, s3, hb3⟩ ?_ ?_
    · rintro i σ' H' hi ⟨v5, v6, v7, v8, rfl, s4, hb4⟩
      have em : (full : Int) - 1 + (i : Int) * -1 = ((full - 1 - i : Nat) : Int) := by omega
      rw [em]
      have hmi : full - i = (full - 1 - i) + 1 := by omega
      have hmi2 : full - (i + 1) = full - 1 - i := by omega
      rw [hmi, bst_start] at hb4
      rw [hmi2]
      have hm : full - 1 - i < full := by omega
      generalize full - 1 - i = m at *
      have hm2 : m < 2 ^ j.rows.length := by omega
      have hm3 : m + 1 ≠ 2 ^ j.rows.length := by omega
      have sH := s4
      refine ⟨_, rfl, _, rfl, rl, j.rows, m, rfl, (by rw [← hrw]; exact s4.seq hrl), h8, by omega, fun H5 dl s5 fdl hdl => ?_⟩
      have s45 := s4.trans s5
      refine ⟨_, rfl, _, rfl, _, rfl, _, rfl, x, rl, al, dl, t, rowsOf t l, _, inSet j.rows m, rfl, hTx.same s45, rowsOf_row, fun k hk => (hrows k (inSet_rows hj m k hk)).ge, by rw [hrw]; omega, by have := SP.inSet_len j.rows m; omega, s45.seq hrl, s45.seq hal, SqL.of hdl, fun H6 s6 => ?_⟩
      rw [hj.held (inSet_rows hj m)]
      have enow : (held t j (inSet j.rows m)).length + 1 = now t j m := rfl
      rw [enow]
      have s456 := s45.trans s6
      refine ⟨_, rfl, _, rfl, _, rfl, x, rl, dl, t, j.rows, inSet j.rows m, rfl, hTx.same s456, hrows, h8, (by rw [← hrw]; exact s456.seq hrl), SqL.of (s6 _ _ hdl), fun H7 kl s7 fkl hkl => ⟨kl, rfl, ⟨_, SqL.of hkl⟩, ?_⟩⟩
      have efree : freeOf t j.rows (inSet j.rows m) = frs t j m := rfl
      rw [efree] at hkl
      have hb7 := s7 _ _ (s6 _ _ (s5 _ _ hb4))
      have hkb : kl ≠ bl := fun e => by rw [e, s6 _ _ (s5 _ _ hb4)] at fkl; cases fkl
      refine for_list (K := K) (a := kl) (xs := vn ((frs t j m).map fun x => x.2)) (fun n σ' H' => ∃ (v8 : Option V), σ' = [some (.ref x), some (.ref rl), some (.ref al), some (.int (full : Int)), some (.ref bl), some (.int (m : Int)), some (.ref dl), some (.int ((now t j m : Nat) : Int)), v8] ∧ Same H H' ∧
          H' kl = some (.lst (vn ((frs t j m).map fun x => x.2))) ∧ H' bl = some (.lst (vn (bst t j m (gm (via t j m) 99 ((frs t j m).take n))))))
        ⟨v8, rfl, s456.trans s7, hkl, hb7⟩ (fun n σ' H' _ ⟨_, _, _, h, _⟩ => SqL.of h) ?_ ?_
      · rintro n xv σ' H' hx ⟨v8, rfl, s8, hkl8, hb8⟩
        obtain ⟨kk, hk, rfl⟩ := vn_inv hx
        rw [List.getElem?_map] at hk
        cases hy : (frs t j m)[n]? with
        | none => rw [hy] at hk; cases hk
        | some y =>
          rw [hy] at hk
          have hk : y.2 = kk := Option.some.inj hk
          subst hk
          obtain ⟨y1, y2, y3⟩ := SP.frs_spec hJ (List.mem_of_getElem? hy)
          obtain ⟨z1, _⟩ := SP.bits_add h8 hm2 y2 y3
          have hpk := Nat.two_pow_pos y.2
          refine ⟨_, rfl, _, rfl, bl, _, (m : Int), _, rfl, rfl, SqL.of hb8, vn_at (bst_get t j m _), ?_⟩
          refine ⟨_, rfl, _, rfl, _, rfl, _, rfl, _, _, rfl, rfl, ⟨by omega, by omega, by decide⟩, _, _, rfl, rfl, bl, _, ((m + 2 ^ y.2 : Nat) : Int), _, rfl, congrArg V.int (bit_or (by omega) (by omega) y3), SqL.of hb8, vn_at (bst_hi _ (by omega) z1), ?_⟩
          refine ⟨_, _, rfl, _, _, rfl, ?_⟩
          rw [max_nat, min_nat]
          refine ⟨_, rfl, _, rfl, bl, _, _, m, rfl, rfl, hb8, ixN_nat (by rw [vn_len, bst_len _ hm2]; exact hm2), ?_⟩
          refine ⟨_, rfl, s8.mut hbl0, ?_, ?_⟩
          · rw [upd_ne hkb]; exact hkl8
          · rw [upd_same, vn_set, bst_set, gm_take _ _ hy]
            rfl
      · rintro σ' H' ⟨v8, rfl, s8, hkl8, hb8⟩
        rw [vn_len, List.length_map, List.take_length, ← SP.tv_99 hJ h8 hm2 hm3, bst_end hm2] at hb8
        exact ⟨_, _, _, _, rfl, s8, hb8⟩
    · rintro σ' H' ⟨v5, v6, v7, v8, rfl, s4, hb4⟩
      rw [Nat.sub_self] at hb4
      refine ⟨_, rfl, k H' bl s4 hbl0 ?_⟩
      rw [hb4, bestAt]
      simp
end SPW
end
section
set_option Elab.async false
set_option linter.all false
set_option maxRecDepth 100000
set_option maxHeartbeats 4000000
namespace SPW
open PySem PySem.Spec PyProof.Rows L2
open SP (ci co TOk rowsOf JOk tv now frs via gm picks Stp)
open Vapcma (Form Text_ formulas count)
open Vapcmb (from_ held ready Job inSet table leastOrder orderBy leastPeak)
variable {P : Program} {w : World} {K : PySem.W.Frag} {mg : Str → Option Value} {base : Heap}
/-- next_place(text, rows, best, mask) -/
def sp_next_place (K : PySem.W.Frag) : Sp := fun vs H Q _ => ∃ (x rl bl : Addr) (t : Text_) (j : Job) (m : Nat) (y : Nat × Nat) (rest : List (Nat × Nat)), vs = [.ref x, .ref rl, .ref bl, .int (m : Int)] ∧ TextAt K H x t ∧ JOk t j ∧ (∀ k ∈ j.rows, RowN t k) ∧ j.rows.length ≤ 8 ∧ SqL K H rl (vn j.rows) ∧ SqL K H bl (vn (table t j)) ∧
  m < 2 ^ j.rows.length ∧ picks t j m = y :: rest ∧ ∀ H', Same H H' → Q (.int (y.2 : Int)) H'
abbrev N_next_place : List Str := ["text", "rows", "best", "mask", "ways", "k"]
theorem sc_next_place : FnScope N_next_place ["text", "rows", "best", "mask"] (defScope s_next_place) := ⟨rfl, rfl, rfl, by decide +kernel, rfl, by decide +kernel, by decide +kernel⟩
theorem g_next_place (T : Tx K mg) : GFn P w K mg base CX0 4 "next_place" ["text", "rows", "best", "mask"] (sp_next_place K) := by
  have g_done_rows : GFn P w K mg base CX0 1 "done_rows" ["rows", "mask"] (sp_done_rows K) := g_done_rows T
  have g_free : GFn P w K mg base CX0 3 "free" ["text", "rows", "done"] (sp_free K) := g_free T
  refine gfn0 (f_next_place T) (t_next_place T) sc_next_place (fun _ _ _ _ _ _ us hl => match us, hl with | [_, _, _, _], _ => rfl) (fun vs H Q E h => ?_) (fun f cdv A outer s H vs Q E hr h => ⟨_, (pss_cons (ps_set (i := 4) sc_next_place.nd rfl (Or.inl rfl) (pe_fn g_free (hr.mono (by omega)) pass0 (pa_cons (pv 0) (pa_cons (pv 1) (pa_cons (pe_fn g_done_rows (hr.mono (by omega)) pass0 (pa_cons (pv 1) (pa_cons (pv 3) pa_nil1))) pa_nil1)))))
  (pss_one (ps_ret (pe_ix (ix_listK K) (pe_lc (own := [("k", 5)]) (g := gName 5) rfl sc_next_place.nd (pi_listK K (pv 4)) (blkOk_by (own := [("k", 5)]) (N := N_next_place) (sc := defScope s_next_place) (by decide +kernel)) (fun _ _ _ _ _ => (pg_name (i := 5) sc_next_place.nd rfl (Or.inl rfl))) (fun _ _ _ _ _ => (pts_one (pt_cmpR op_le (pe_ix (ix_listK K) (pv 2) (pe_op op_or (pv 3) (pe_op op_shl pe_int1 (pv 5))) (fun _ _ => rfl)) (pe_ix (ix_listK K) (pv 2) pe_int1 (fun _ _ => rfl)) (nomark _)))) (fun _ _ _ _ _ => (pv 5))) pe_int1 (fun _ _ => rfl))))), ?_⟩)
  · obtain ⟨x, rl, bl, t, j, m, y, rest, rfl, _⟩ := h
    rfl
  · obtain ⟨x, rl, bl, t, j, m, y, rest, rfl, hTx, hJ, hrows, h8, hrl, hbl, hm, hpk, k⟩ := h
    have hp2 := pow_le h8
    have hpos := Nat.two_pow_pos j.rows.length
    refine ⟨_, rfl, _, rfl, _, rfl, _, rfl, rl, j.rows, m, rfl, hrl, h8, by omega, fun H1 dl s1 fdl hdl => ?_⟩
    refine ⟨x, rl, dl, t, j.rows, inSet j.rows m, rfl, hTx.same s1, hrows, h8, s1.seq hrl, SqL.of hdl, fun H2 kl s2 fkl hkl => ?_⟩
    have efree : freeOf t j.rows (inSet j.rows m) = frs t j m := rfl
    rw [efree] at hkl
    have s12 := s1.trans s2
    refine ⟨_, rfl, kl, rfl, ⟨_, SqL.of hkl⟩, fun D hD => ?_⟩
    let pe : Nat × Nat → Bool := fun x => decide (tv t j (m + 2 ^ x.2) ≤ tv t j 0)
    let res : Nat → List V := fun i => vn ((((frs t j m).take i).filter pe).map fun x => x.2)
    have hfl : (frs t j m).length ≤ 8 := by
      have := List.length_filter_le (fun x : Nat × Nat => ready t (inSet j.rows m) x.1) j.rows.zipIdx
      rw [List.length_zipIdx] at this
      exact Nat.le_trans this h8
    refine lcl (Q := fun v H' => ∃ (p : Addr) (xs : List V) (i : Int) (u : V), v = .ref p ∧ V.int 0 = .int i ∧ SqL K H' p xs ∧ atI xs i = some u ∧ Q u H') hD (SqL.of hkl) res rfl (by rw [vn_len, List.length_map]; omega) ?_ ?_
    · intro i xv H' hx s5 Y Z hY hZ
      obtain ⟨kk, hk, rfl⟩ := vn_inv hx
      rw [List.getElem?_map] at hk
      cases hy : (frs t j m)[i]? with
      | none => rw [hy] at hk; cases hk
      | some z =>
        rw [hy] at hk
        have hk : z.2 = kk := Option.some.inj hk
        subst hk
        obtain ⟨y1, y2, y3⟩ := SP.frs_spec hJ (List.mem_of_getElem? hy)
        obtain ⟨z1, _⟩ := SP.bits_add h8 hm y2 y3
        have hb5 := (s12.trans s5).seq hbl
        refine ⟨rfl, _, rfl, _, rfl, _, rfl, _, _, rfl, rfl, ⟨by omega, by omega, by decide⟩, _, _, rfl, rfl, bl, _, ((m + 2 ^ z.2 : Nat) : Int), _, rfl, congrArg V.int (bit_or (by omega) (by omega) y3), hb5, vn_at (tv_at z1), ?_⟩
        refine ⟨_, rfl, bl, _, ((0 : Nat) : Int), _, rfl, rfl, hb5, vn_at (tv_at hpos), _, _, rfl, rfl, _, rfl, ?_⟩
        by_cases c : tv t j (m + 2 ^ z.2) ≤ tv t j 0
        · refine if_true_of (decide_eq_true (by omega)) ?_
          refine ⟨_, rfl, hY _ _ (Same.refl _) ?_⟩
          show vn _ = vn _ ++ _
          rw [take_more hy, List.filter_append, List.map_append, List.filter_cons, if_pos (decide_eq_true c)]
          simp [vn]
        · refine if_false_of (decide_eq_false (by omega)) (hZ _ (Same.refl _) ?_)
          show vn _ = vn _
          rw [take_more hy, List.filter_append, List.map_append, List.filter_cons, if_neg (by rw [show pe z = false from decide_eq_false c]; decide)]
          simp
    · intro H' s5 hD'
      have e : res (vn ((frs t j m).map fun x => x.2)).length = vn ((y :: rest).map fun x => x.2) := by
        show vn _ = _
        rw [vn_len, List.length_map, List.take_length, ← hpk]
        rfl
      rw [e] at hD'
      exact ⟨D, _, ((0 : Nat) : Int), _, rfl, rfl, SqL.of hD', vn_at (by simp), k H' (s12.trans s5)⟩
/-- first_order(text, rows, best) -/
def sp_first_order (K : PySem.W.Frag) : Sp := fun vs H Q _ => ∃ (x rl bl : Addr) (t : Text_) (j : Job), vs = [.ref x, .ref rl, .ref bl] ∧ TextAt K H x t ∧ JOk t j ∧ (∀ k ∈ j.rows, RowN t k) ∧ j.rows.length ≤ 8 ∧ SqL K H rl (vn j.rows) ∧ SqL K H bl (vn (table t j)) ∧
  ∀ H' p, Same H H' → H p = none → (leastOrder t j).length = j.rows.length → H' p = some (.lst (vn (leastOrder t j))) → Q (.ref p) H'
abbrev N_first_order : List Str := ["text", "rows", "best", "out", "mask", "turn", "k"]
theorem sc_first_order : FnScope N_first_order ["text", "rows", "best"] (defScope s_first_order) := ⟨rfl, rfl, rfl, by decide +kernel, rfl, by decide +kernel, by decide +kernel⟩
theorem g_first_order (T : Tx K mg) : GFn P w K mg base CX0 5 "first_order" ["text", "rows", "best"] (sp_first_order K) := by
  have g_next_place : GFn P w K mg base CX0 4 "next_place" ["text", "rows", "best", "mask"] (sp_next_place K) := g_next_place T
  refine gfn0 (f_first_order T) (t_first_order T) sc_first_order (fun _ _ _ _ _ _ us hl => match us, hl with | [_, _, _], _ => rfl) (fun vs H Q E h => ?_) (fun f cdv A outer s H vs Q E hr h => ⟨_, (pss_cons (ps_set (i := 3) sc_first_order.nd rfl (Or.inl rfl) (pe_lst pa_nil1))
  (pss_cons (ps_set (i := 4) sc_first_order.nd rfl (Or.inl rfl) pe_int1)
  (pss_cons (ps_for PassesOwn.never rfl (pi_range1 rfl (t_range T) (pa_cons (pe_callB (call_lenK K) (by rfl) (t_len T) PySem.boot_len (pa_cons (pv 1) pa_nil1)) pa_nil1)) (pg_name (i := 5) sc_first_order.nd rfl (Or.inl rfl))
  (pss_cons (ps_set (i := 6) sc_first_order.nd rfl (Or.inl rfl) (pe_fn g_next_place (hr.mono (by omega)) pass0 (pa_cons (pv 0) (pa_cons (pv 1) (pa_cons (pv 2) (pa_cons (pv 4) pa_nil1))))))
  (pss_cons (ps_expr (pe_bmK K PySem.F.plainAttrs_list PySem.F.slot_list_append PySem.F.type_list_append mt_append (pv 3) (pa_cons (pe_ix (ix_listK K) (pv 1) (pv 6) (fun _ _ => rfl)) pa_nil1)))
  (pss_one (ps_set (i := 4) sc_first_order.nd rfl (Or.inl rfl) (pe_op op_or (pv 4) (pe_op op_shl pe_int1 (pv 6))))))))
  (pss_one (ps_ret (pv 3)))))), ?_⟩)
  · obtain ⟨x, rl, bl, t, j, rfl, _⟩ := h
    rfl
  · obtain ⟨x, rl, bl, t, j, rfl, hTx, hJ, hrows, h8, hrl, hbl, k⟩ := h
    have hp2 := pow_le h8
    refine ⟨small_size (by simp), fun o ho => ?_⟩
    have s1 : Same H (upd H o (.lst [])) := Same.new ho
    refine ⟨_, rfl, rl, _, rfl, .inl (s1.seq hrl), _, rfl, by rw [vn_len]; omega, by rw [vn_len]; omega, ?_⟩
    rw [vn_len, Int.toNat_natCast]
    refine for_range (fun i σ' H' => ∃ (m : Nat) (done : List Nat) (v5 v6 : Option V), σ' = [some (.ref x), some (.ref rl), some (.ref bl), some (.ref o), some (.int (m : Int)), v5, v6] ∧ Same H H' ∧ H' o = some (.lst (vn done)) ∧ Stp t j m done ∧ done.length = i ∧ tv t j m ≤ tv t j 0 ∧
        orderBy t j (table t j) ((table t j).getD 0 0) (j.rows.length - i) m done = leastOrder t j)
      ⟨0, [], none, none, rfl, s1, upd_same, Stp.start t j, rfl, Nat.le_refl _, rfl⟩ ?_ ?_
    · rintro i σ' H' hi ⟨m, done, v5, v6, rfl, s2, ho2, hst, hdl, htv, hob⟩
      obtain ⟨y, rest, h1, h2, h3, h4⟩ := SP.order_step hJ h8 hst (by omega) htv (j.rows.length - (i + 1))
      obtain ⟨y1, y2, y3⟩ := SP.frs_spec hJ h2
      rw [show j.rows.length - i = j.rows.length - (i + 1) + 1 by omega, h4] at hob
      refine ⟨_, rfl, _, rfl, _, rfl, _, rfl, x, rl, bl, t, j, m, y, rest, rfl, hTx.same s2, hJ, hrows, h8, s2.seq hrl, s2.seq hbl, hst.lt, h1, fun H3 s3 => ?_⟩
      have ho3 := s3 _ _ ho2
      refine ⟨_, rfl, .inl ⟨rfl, _, SqL.of ho3⟩, _, rfl, _, rfl, rl, _, (y.2 : Int), _, rfl, rfl, (s2.trans s3).seq hrl, vn_at y1, o, _, _, rfl, rfl, ho3, small_lt (by rw [vn_len]; omega), ?_⟩
      refine ⟨_, rfl, _, rfl, _, _, rfl, rfl, ⟨by omega, by omega, by decide⟩, _, _, rfl, rfl, ?_⟩
      have hlt := hst.lt
      refine ⟨m + 2 ^ y.2, done ++ [y.1], some (.int (0 + (i : Int))), some (.int (y.2 : Int)), ?_, (s2.trans s3).mut ho, by rw [upd_same, vn_snoc], hst.next hJ h8 h2, by simp; omega, h3, hob⟩
      have e := bit_or (m := m) (k := y.2) (by omega) (by omega) y3
      dsimp only
      rw [e]
      rfl
    · rintro σ' H' ⟨m, done, v5, v6, rfl, s2, ho2, hst, hdl, htv, hob⟩
      rw [Nat.sub_self] at hob
      have hob : done = leastOrder t j := hob
      exact ⟨_, rfl, k H' o s2 ho (by rw [← hob, hdl]) (by rw [← hob]; exact ho2)⟩
/-- what's answered -/
def leastAns (t : Text_) (j : Job) : List Int := if 8 < j.rows.length then [-7] else (leastPeak t j : Int) :: (j.rows.length : Int) :: (leastOrder t j).map fun n : Nat => (n : Int)
/-- least_answer(text, wished) -/
def sp_least_answer (K : PySem.W.Frag) : Sp := fun vs H Q _ => ∃ (x wl : Addr) (t : Text_) (l : List Nat) (j : Job), vs = [.ref x, .ref wl] ∧ TextAt K H x t ∧ SqL K H wl (vn l) ∧ (∀ z ∈ l, z < count t) ∧ JobOf t l j ∧
  ∀ H' p, Same H H' → H p = none → (j.rows.length ≤ 8 → (leastOrder t j).length = j.rows.length) → H' p = some (.lst (vis (leastAns t j))) → Q (.ref p) H'
abbrev N_least_answer : List Str := ["text", "wished", "rows", "asked", "row", "best"]
theorem sc_least_answer : FnScope N_least_answer ["text", "wished"] (defScope s_least_answer) := ⟨rfl, rfl, rfl, by decide +kernel, rfl, by decide +kernel, by decide +kernel⟩
theorem g_least_answer (T : Tx K mg) : GFn P w K mg base CX0 6 "least_answer" ["text", "wished"] (sp_least_answer K) := by
  have g_needed : GFn P w K mg base CX0 2 "needed" ["text", "numbers"] (sp_needed K) := g_needed T
  have g_least_peaks : GFn P w K mg base CX0 4 "least_peaks" ["text", "rows", "asked"] (sp_least_peaks K) := g_least_peaks T
  have g_first_order : GFn P w K mg base CX0 5 "first_order" ["text", "rows", "best"] (sp_first_order K) := g_first_order T
  refine gfn0 (f_least_answer T) (t_least_answer T) sc_least_answer (fun _ _ _ _ _ _ us hl => match us, hl with | [_, _], _ => rfl) (fun vs H Q E h => ?_) (fun f cdv A outer s H vs Q E hr h => ⟨_, (pss_cons (ps_set (i := 2) sc_least_answer.nd rfl (Or.inl rfl) (pe_fn g_needed (hr.mono (by omega)) pass0 (pa_cons (pv 0) (pa_cons (pv 1) pa_nil1))))
  (pss_cons (ps_if (pt_cmpR op_gt (pe_callB (call_lenK K) (by rfl) (t_len T) PySem.boot_len (pa_cons (pv 2) pa_nil1)) (pe_ci1 (t_MOST_ROWS_places T)) (nomark _)) (pss_one (ps_ret (pe_lst (pa_cons (pe_un un_neg pe_int1) pa_nil1))))
  pss_nil)
  (pss_cons (ps_setLc (i := 3) (own := [("row", 4)]) (g := gName 4) rfl sc_least_answer.nd rfl rfl (sw_true rfl rfl rfl (by decide +kernel)) (pi_listK K (pv 2)) (blkOk_by (own := [("row", 4)]) (N := N_least_answer) (sc := defScope s_least_answer) (by decide +kernel)) (fun _ _ _ _ _ => (pg_name (i := 4) sc_least_answer.nd rfl (Or.inl rfl))) (fun _ _ _ _ _ => (pts_one (pt_cmpR (op_inK K) (pv 4) (pv 1) (by rfl)))) (fun _ _ _ _ _ => (pv 4)))
  (pss_cons (ps_set (i := 5) sc_least_answer.nd rfl (Or.inl rfl) (pe_fn g_least_peaks (hr.mono (by omega)) pass0 (pa_cons (pv 0) (pa_cons (pv 2) (pa_cons (pv 3) pa_nil1)))))
  (pss_one (ps_ret (pe_op op_cat (pe_lst (pa_cons (pe_ix (ix_listK K) (pv 5) pe_int1 (fun _ _ => rfl)) (pa_cons (pe_callB (call_lenK K) (by rfl) (t_len T) PySem.boot_len (pa_cons (pv 2) pa_nil1)) pa_nil1))) (pe_fn g_first_order (hr.mono (by omega)) pass0 (pa_cons (pv 0) (pa_cons (pv 2) (pa_cons (pv 5) pa_nil1))))))))))), ?_⟩)
  · obtain ⟨x, wl, t, l, j, rfl, _⟩ := h
    rfl
  · obtain ⟨x, wl, t, l, j, rfl, hTx, hwl, hlt, hj, k⟩ := h
    have ok : TOk t := by obtain ⟨_, _, _, _, _, _, h⟩ := hTx; exact h.ok
    have hJ := hj.ok ok
    have hrw : rowsOf t l = j.rows := hj.rows.symm
    refine ⟨_, rfl, _, rfl, x, wl, t, l, rfl, hTx, hwl, hlt, fun H1 rl s1 frl hrl => ?_⟩
    have hrl24 : (rowsOf t l).length ≤ 24 := Nat.le_trans (SP.rowsOf_len l) ok.nr
    refine ⟨_, rfl, rl, _, rfl, .inl (SqL.of hrl), _, _, rfl, rfl, _, rfl, ?_⟩
    by_cases c : 8 < j.rows.length
    · refine if_true_of (decide_eq_true (by rw [vn_len, hrw]; omega)) ?_
      refine ⟨_, rfl, small_size (by simp), fun q hq => ?_⟩
      refine k _ q (s1.trans (Same.new hq)) (s1.free hq) (fun h => by omega) ?_
      rw [upd_same, leastAns, if_pos c]
      rfl
    · refine if_false_of (decide_eq_false (by rw [vn_len, hrw]; omega)) ?_
      have h8 : j.rows.length ≤ 8 := by omega
      refine ⟨_, rfl, rl, rfl, ⟨_, SqL.of hrl⟩, fun D hD => ?_⟩
      let res : Nat → List V := fun i => vn (((rowsOf t l).take i).filter fun k => l.contains k)
      refine lcl (Q := fun v H' => gName 3 v _ H' _) hD (SqL.of hrl) res rfl (by rw [vn_len]; omega) ?_ ?_
      · intro n xv H' hx s5 Y Z hY hZ
        obtain ⟨m, hm, rfl⟩ := vn_inv hx
        refine ⟨rfl, _, rfl, _, rfl, wl, _, rfl, .inl ((s1.trans s5).seq hwl), rfl, flat_nats _, _, rfl, ?_⟩
        simp only [Bool.false_eq_true, if_false, inV_nats]
        by_cases c : l.contains m = true
        · refine if_true_of c ?_
          refine ⟨_, rfl, hY _ _ (Same.refl _) ?_⟩
          show vn _ = vn _ ++ _
          rw [take_more hm, List.filter_append, List.filter_cons, if_pos c]
          simp [vn]
        · have c : l.contains m = false := by simpa using c
          refine if_false_of c (hZ _ (Same.refl _) ?_)
          show vn _ = vn _
          rw [take_more hm, List.filter_append, List.filter_cons, if_neg (by rw [c]; decide)]
          simp
      · intro H3 s3 hD3
        have e : res (vn (rowsOf t l)).length = vn ((rowsOf t l).filter fun k => l.contains k) := by
          show vn _ = _
          rw [vn_len, List.take_length]
        rw [e] at hD3
        have s13 := s1.trans s3
        have hrl3 := s3 _ _ hrl
        refine ⟨_, rfl, _, rfl, _, rfl, x, rl, D, t, l, j, rfl, hTx.same s13, hj, h8, SqL.of hrl3, SqL.of hD3, fun H4 bl s4 fbl hbl => ?_⟩
        have hrl4 := s4 _ _ hrl3
        have hrows := rowsOf_row (t := t) (l := l)
        rw [hrw] at hrows
        have hpos := Nat.two_pow_pos j.rows.length
        have s14 := s13.trans s4
        refine ⟨_, rfl, bl, _, ((0 : Nat) : Int), _, rfl, rfl, SqL.of hbl, vn_at (tv_at hpos), _, rfl, rl, _, rfl, .inl (SqL.of hrl4), small_size (by simp), fun q hq => ?_⟩
        have s5 : Same H4 (upd H4 q (.lst [.int ((tv t j 0 : Nat) : Int), .int (((vn (rowsOf t l)).length : Nat) : Int)])) := Same.new hq
        have hq5 : upd H4 q (.lst [.int ((tv t j 0 : Nat) : Int), .int (((vn (rowsOf t l)).length : Nat) : Int)]) q = _ := upd_same
        generalize upd H4 q (.lst [.int ((tv t j 0 : Nat) : Int), .int (((vn (rowsOf t l)).length : Nat) : Int)]) = H5 at s5 hq5 ⊢
        refine ⟨_, rfl, _, rfl, _, rfl, x, rl, bl, t, j, rfl, hTx.same (s14.trans s5), hJ, hrows, h8, SqL.of (by rw [← hrw]; exact s5 _ _ hrl4), SqL.of (s5 _ _ hbl), fun H6 o s6 fo hlen ho => ?_⟩
        refine ⟨q, o, _, _, rfl, rfl, s6 _ _ hq5, ho, small_size (by rw [vn_len (leastOrder t j), hlen]; simp; omega), fun r hr => ?_⟩
        have s16 := (s14.trans s5).trans s6
        refine k _ r (s16.trans (Same.new hr)) (s16.free hr) (fun _ => hlen) ?_
        have htab : leastPeak t j = tv t j 0 := by
          unfold leastPeak tv
          rw [List.getD_eq_getElem?_getD, List.getD_eq_getElem?_getD, SP.get_of_lt (show 0 < (Vapcmb.table t j).length by rw [SP.table_len]; exact hpos)]
          rfl
        rw [upd_same, leastAns, if_neg c, htab, vn_len, hrw, vn_vis]
        rfl
end SPW
end
section
set_option autoImplicit false
set_option linter.all false
namespace SP
open Vapcma (Form size vars normal detach Axiom Row Text_ formulas needsBy needs count)
open Vapcmb (Draft addTo firstDraft merged pruned firstAsGeneral neededRows targetItems shorten)
structure DOk (t : Text_) (n : Nat) (d : Draft) : Prop where
  tl : d.to.length = t.axioms.length + n
  fl : d.fs.length = t.axioms.length + d.rows.length
  tb : ∀ k, some k ∈ d.to → k < d.fs.length
  fine : ∀ G, some G ∈ d.fs → Fine G
  rw : ∀ (k : Nat) (r : Row), d.rows[k]? = some r → r.i < t.axioms.length + k ∧ r.j < t.axioms.length + k
  rn : d.rows.length ≤ n
  nm : ∀ r ∈ d.rows, r.name.length ≤ 16
def dTo (t : Text_) (k : Nat) : Draft := (t.rows.take k).foldl addTo (firstDraft t)
theorem dTo_step {t : Text_} {k : Nat} {r : Row} (h : t.rows[k]? = some r) : dTo t (k + 1) = addTo (dTo t k) r := by
  rw [dTo, take_snoc h, List.foldl_append]
  rfl
theorem dTo_all (t : Text_) : (dTo t t.rows.length).rows = (merged t).rows := by rw [dTo, List.take_length]; rfl
theorem first_ok {t : Text_} (ok : TOk t) : DOk t 0 (firstDraft t) := by
  refine ⟨by simp [firstDraft], by simp [firstDraft], fun k hk => ?_, fun G hG => ?_, fun k r h => by simp [firstDraft] at h, by simp [firstDraft], fun r h => by simp [firstDraft] at h⟩
  · simp only [firstDraft, List.mem_map, List.mem_range, Option.some.injEq] at hk
    obtain ⟨a, ha, rfl⟩ := hk
    simpa [firstDraft] using ha
  · simp only [firstDraft, List.mem_map] at hG
    obtain ⟨a, ha, e⟩ := hG
    obtain ⟨h1, h2⟩ := ok.ax a ha
    rw [h1] at e
    cases e
    exact fine_normal h1 (by omega)
/-- what a row's turn makes -/
inductive Turn (d : Draft) (r : Row) : Draft → Prop where
  | drop : (∀ i j, (d.to[r.i]?).getD none = some i → (d.to[r.j]?).getD none = some j → det ((d.fs[i]?).getD none) ((d.fs[j]?).getD none) = none) → Turn d r { d with to := d.to ++ [none] }
  | old {i j k : Nat} {h : Form} : (d.to[r.i]?).getD none = some i → (d.to[r.j]?).getD none = some j → det ((d.fs[i]?).getD none) ((d.fs[j]?).getD none) = some h → firstAsGeneral d.fs h = some k → Turn d r { d with to := d.to ++ [some k] }
  | new {i j : Nat} {h : Form} : (d.to[r.i]?).getD none = some i → (d.to[r.j]?).getD none = some j → det ((d.fs[i]?).getD none) ((d.fs[j]?).getD none) = some h → firstAsGeneral d.fs h = none → Turn d r ⟨d.to ++ [some d.fs.length], d.rows ++ [⟨r.name, i, j⟩], d.fs ++ [some h]⟩
theorem turn (d : Draft) (r : Row) : Turn d r (addTo d r) := by
  unfold addTo
  cases e1 : (d.to[r.i]?).getD none with
  | none => exact .drop fun i j h1 h2 => by rw [e1] at h1; cases h1
  | some i =>
    cases e2 : (d.to[r.j]?).getD none with
    | none => exact .drop fun i j h1 h2 => by rw [e2] at h2; cases h2
    | some j =>
      show Turn d r (match det ((d.fs[i]?).getD none) ((d.fs[j]?).getD none) with
        | none => { d with to := d.to ++ [none] }
        | some h => match firstAsGeneral d.fs h with
          | some k => { d with to := d.to ++ [some k] }
          | none => ⟨d.to ++ [some d.fs.length], d.rows ++ [⟨r.name, i, j⟩], d.fs ++ [some h]⟩)
      cases e3 : det ((d.fs[i]?).getD none) ((d.fs[j]?).getD none) with
      | none =>
        exact .drop fun i' j' h1 h2 => by
          rw [e1] at h1
          rw [e2] at h2
          cases h1
          cases h2
          exact e3
      | some h =>
        show Turn d r (match firstAsGeneral d.fs h with
          | some k => { d with to := d.to ++ [some k] }
          | none => ⟨d.to ++ [some d.fs.length], d.rows ++ [⟨r.name, i, j⟩], d.fs ++ [some h]⟩)
        cases e4 : firstAsGeneral d.fs h with
        | some k => exact .old e1 e2 e3 e4
        | none => exact .new e1 e2 e3 e4
theorem getD_mem {l : List (Option Nat)} {i k : Nat} (h : (l[i]?).getD none = some k) : some k ∈ l := by
  cases e : l[i]? with
  | none => rw [e] at h; cases h
  | some y => rw [e] at h; have : y = some k := h; exact List.mem_of_getElem? (this ▸ e)
theorem firstAs_lt' {fs : List (Option Form)} {F : Form} {k : Nat} (h : firstAsGeneral fs F = some k) : k < fs.length := by
  unfold firstAsGeneral at h
  rw [List.findIdx?_eq_some_iff_getElem] at h
  exact h.1
theorem turn_ok {t : Text_} {n : Nat} {d d' : Draft} {r : Row} (h : DOk t n d) (hn : r.name.length ≤ 16) (s : Turn d r d') : DOk t (n + 1) d' := by
  cases s with
  | drop _ =>
    refine ⟨by simp [h.tl]; omega, h.fl, fun k hk => ?_, h.fine, h.rw, by have := h.rn; show d.rows.length ≤ n + 1; omega, h.nm⟩
    rcases List.mem_append.mp hk with z | z
    · exact h.tb k z
    · simp at z
  | old h1 h2 h3 h4 =>
    refine ⟨by simp [h.tl]; omega, h.fl, fun k hk => ?_, h.fine, h.rw, by have := h.rn; show d.rows.length ≤ n + 1; omega, h.nm⟩
    rcases List.mem_append.mp hk with z | z
    · exact h.tb k z
    · have := Option.some.inj (List.mem_singleton.mp z)
      rw [this]
      exact firstAs_lt' h4
  | new h1 h2 h3 h4 =>
    have b1 := h.tb _ (getD_mem h1)
    have b2 := h.tb _ (getD_mem h2)
    have hfl := h.fl
    refine ⟨by simp [h.tl]; omega, by simp [hfl]; omega, fun k hk => ?_, fun G hG => ?_, fun k r2 hr => ?_, by have := h.rn; simp; omega, fun r2 hr => ?_⟩
    · rcases List.mem_append.mp hk with z | z
      · have := h.tb k z
        simp
        omega
      · have : k = d.fs.length := by simpa using z
        simp
        omega
    · rcases List.mem_append.mp hG with z | z
      · exact h.fine G z
      · have := Option.some.inj (List.mem_singleton.mp z)
        rw [this]
        exact det_fine h3
    · rw [List.getElem?_append] at hr
      split at hr
      · exact h.rw k r2 hr
      · rename_i hk
        have hk2 : k - d.rows.length = 0 := by
          rcases Nat.eq_zero_or_pos (k - d.rows.length) with z | z
          · exact z
          · rw [List.getElem?_eq_none (by simp; omega)] at hr
            cases hr
        rw [hk2] at hr
        have hr := (Option.some.inj hr).symm
        subst hr
        refine ⟨?_, ?_⟩
        · dsimp only
          omega
        · dsimp only
          omega
    · rcases List.mem_append.mp hr with z | z
      · exact h.nm r2 z
      · have := List.mem_singleton.mp z
        rw [this]
        exact hn
theorem dTo_ok {t : Text_} (ok : TOk t) : ∀ k, k ≤ t.rows.length → DOk t k (dTo t k)
  | 0, _ => by
    have : dTo t 0 = firstDraft t := by rw [dTo, List.take_zero]; rfl
    rw [this]
    exact first_ok ok
  | k + 1, h => by
    have hr := get_of_lt (show k < t.rows.length by omega)
    rw [dTo_step hr]
    exact turn_ok (dTo_ok ok k (by omega)) (ok.nmr _ (List.mem_of_getElem? hr)) (turn _ _)
theorem merged_ok {t : Text_} (ok : TOk t) : TOk (merged t) := by
  have h := dTo_ok ok _ (Nat.le_refl _)
  have e := dTo_all t
  refine ⟨ok.ax, ok.go, ok.na, ?_, ok.ng, ?_, ok.nma, ?_⟩
  · rw [← e]; have := h.rn; have := ok.nr; omega
  · rw [← e]; exact h.rw
  · rw [← e]; exact h.nm
/-! ### pruned -/
def toOf (t : Text_) (l : List Nat) (k : Nat) : Nat := if k < t.axioms.length then k else t.axioms.length + (rowsOf t l).findIdx fun m => m == k
theorem pruned_rows {t : Text_} {l is : List Nat} (h : ∀ k, k ∈ l ↔ k ∈ is) : (pruned t is).rows = (rowsOf t l).filterMap fun k => (t.rows[k - t.axioms.length]?).map fun r => ⟨r.name, toOf t l r.i, toOf t l r.j⟩ := by
  have e := neededRows_eq t l is h
  unfold toOf
  rw [e]
  rfl
/-- the rows kept, one by one -/
def keptRow (t : Text_) (l : List Nat) (k : Nat) : Row := match t.rows[k - t.axioms.length]? with
  | some r => ⟨r.name, toOf t l r.i, toOf t l r.j⟩
  | none => ⟨[], 0, 0⟩
theorem kept_rows (t : Text_) (l : List Nat) : ((rowsOf t l).filterMap fun k => (t.rows[k - t.axioms.length]?).map fun r => (⟨r.name, toOf t l r.i, toOf t l r.j⟩ : Row)) = (rowsOf t l).map (keptRow t l) := by
  have gen : ∀ ks : List Nat, (∀ k ∈ ks, ∃ r, t.rows[k - t.axioms.length]? = some r) → (ks.filterMap fun k => (t.rows[k - t.axioms.length]?).map fun r => (⟨r.name, toOf t l r.i, toOf t l r.j⟩ : Row)) = ks.map (keptRow t l) := by
    intro ks
    induction ks with
    | nil => intro _; rfl
    | cons k ks ih =>
      intro h
      obtain ⟨r, hr⟩ := h k (by simp)
      rw [List.filterMap_cons, hr, List.map_cons, ← ih fun k2 h2 => h k2 (by simp [h2])]
      show _ :: _ = keptRow t l k :: _
      rw [keptRow, hr]
  refine gen _ fun k hk => ?_
  obtain ⟨i, r, e, h1, _⟩ := rowsOf_mem hk
  exact ⟨r, by rw [e, show t.axioms.length + i - t.axioms.length = i by omega]; exact h1⟩
theorem findIdx_at {l : List Nat} (hs : l.Pairwise (· < ·)) {m k : Nat} (h : l[m]? = some k) : (l.findIdx fun x => x == k) = m := by
  have hlt := (List.getElem?_eq_some_iff.mp h).1
  have hk := (List.getElem?_eq_some_iff.mp h).2
  have hN : l.Nodup := hs.imp fun h => Nat.ne_of_lt h
  have hmem : k ∈ l := List.mem_of_getElem? h
  have h1 := findIdx_lt hmem
  have h2 := List.findIdx_getElem (w := h1)
  simp only [beq_iff_eq] at h2
  exact (List.getElem?_inj h1 hN).mp (by rw [List.getElem?_eq_getElem h1, h, h2])
/-- what the i-th kept row is worked out from -/
theorem kept_from {t : Text_} (ok : TOk t) {l : List Nat} {i k : Nat} (h : (rowsOf t l)[i]? = some k) : ∃ r q, t.rows[q]? = some r ∧ k = t.axioms.length + q ∧ keptRow t l k = ⟨r.name, toOf t l r.i, toOf t l r.j⟩ ∧
    ∀ x, x = r.i ∨ x = r.j → (x < t.axioms.length ∧ toOf t l x = x) ∨ ∃ m, m < i ∧ (rowsOf t l)[m]? = some x ∧ t.axioms.length ≤ x ∧ toOf t l x = t.axioms.length + m := by
  obtain ⟨q, r, e, h1, h2, h3⟩ := rowsOf_mem (List.mem_of_getElem? h)
  refine ⟨r, q, h1, e, ?_, fun x hx => ?_⟩
  · rw [keptRow, e, show t.axioms.length + q - t.axioms.length = q by omega, h1]
  · by_cases c : x < t.axioms.length
    · exact .inl ⟨c, by rw [toOf, if_pos c]⟩
    · right
      have hj := (rowsOf_ok ok l []).cl k (List.mem_of_getElem? h) x (by rw [e, from_mem h1]; exact ⟨hx, by omega⟩)
      obtain ⟨m, hm, em⟩ := List.mem_iff_getElem.mp hj.1
      have em2 : (rowsOf t l)[m]? = some x := by rw [get_of_lt hm]; exact congrArg some em
      refine ⟨m, ?_, em2, by omega, by rw [toOf, if_neg c, findIdx_at (rowsOf_sorted t l) em2]⟩
      have hi := (List.getElem?_eq_some_iff.mp h).1
      have hk := (List.getElem?_eq_some_iff.mp h).2
      refine Classical.byContradiction fun z => ?_
      have hs := rowsOf_sorted t l
      rw [List.pairwise_iff_getElem] at hs
      rcases Nat.lt_or_ge i m with y | y
      · have h9 : (rowsOf t l)[i] < (rowsOf t l)[m] := hs i m hi hm y
        have e9 : (rowsOf t l)[m] = x := em
        omega
      · have : m = i := by omega
        subst this
        have e9 : (rowsOf t l)[m] = x := em
        have hj2 := hj.2
        omega
theorem pruned_ok {t : Text_} (ok : TOk t) {l is : List Nat} (h : ∀ k, k ∈ l ↔ k ∈ is) : TOk (pruned t is) ∧ (pruned t is).rows = (rowsOf t l).map (keptRow t l) := by
  have e : (pruned t is).rows = (rowsOf t l).map (keptRow t l) := (pruned_rows h).trans (kept_rows t l)
  refine ⟨⟨ok.ax, ok.go, ok.na, ?_, ok.ng, fun k r hr => ?_, ok.nma, fun r hr => ?_⟩, e⟩
  · rw [e, List.length_map]
    exact Nat.le_trans (rowsOf_len l) ok.nr
  · rw [e, List.getElem?_map] at hr
    cases hk : (rowsOf t l)[k]? with
    | none => rw [hk] at hr; cases hr
    | some y =>
      rw [hk] at hr
      obtain ⟨r0, q, h1, h2, h3, h4⟩ := kept_from ok hk
      have hr : keptRow t l y = r := Option.some.inj hr
      rw [h3] at hr
      subst hr
      have fin : ∀ x, x = r0.i ∨ x = r0.j → toOf t l x < t.axioms.length + k := by
        intro x hx
        rcases h4 x hx with ⟨z1, z2⟩ | ⟨m, z1, z2, z3, z4⟩
        · omega
        · omega
      exact ⟨fin _ (.inl rfl), fin _ (.inr rfl)⟩
  · rw [e, List.mem_map] at hr
    obtain ⟨y, hy, e2⟩ := hr
    obtain ⟨k, hk, e3⟩ := List.mem_iff_getElem.mp hy
    obtain ⟨r0, q, h1, h2, h3, h4⟩ := kept_from ok (i := k) (k := y) (by rw [get_of_lt hk]; exact congrArg some e3)
    rw [h3] at e2
    rw [← e2]
    exact ok.nmr r0 (List.mem_of_getElem? h1)
theorem shorten_ok {t : Text_} (ok : TOk t) : TOk (shorten t) := (pruned_ok (merged_ok ok) (l := targetItems (merged t)) fun k => Iff.rfl).1
end SP
end
section
set_option Elab.async false
set_option linter.all false
set_option maxRecDepth 100000
set_option maxHeartbeats 4000000
namespace SPW
open PySem PySem.Spec PyProof.Rows L2
open SP (ci co ni TOk Fine det rowsOf DOk dTo Turn)
open Vapcma (Form Text_ formulas count nameAt)
open Vapcmb (Draft firstAsGeneral merged)
variable {P : Program} {w : World} {K : PySem.W.Frag} {mg : Str → Option Value} {base : Heap}
/-- what an old item has become -/
def bI (x : Option Nat) : Int := match x with
  | none => -1
  | some k => (k : Int)
theorem bI_none {x : Option Nat} : bI x = -1 ↔ x = none := by
  cases x with
  | none => simp [bI]
  | some k => simp [bI]
/-- detached_of(formulas, first, second) -/
def sp_detached_of (K : PySem.W.Frag) : Sp := fun vs H Q _ => ∃ (fl : Addr) (as : List Addr) (fs : List (Option Form)) (x y : Option Nat), vs = [.ref fl, .int (bI x), .int (bI y)] ∧ SqL K H fl (vr as) ∧ TupsAt K H as (fs.map co) ∧ (∀ k, x = some k → k < fs.length) ∧ (∀ k, y = some k → k < fs.length) ∧ (∀ G, some G ∈ fs → Fine G) ∧
  ∀ H' p, Same H H' → SqT K H' p (vis (co (x.bind fun i => y.bind fun j => det ((fs[i]?).getD none) ((fs[j]?).getD none)))) → Q (.ref p) H'
abbrev N_detached_of : List Str := ["formulas", "first", "second"]
theorem sc_detached_of : FnScope N_detached_of ["formulas", "first", "second"] (defScope s_detached_of) := ⟨rfl, rfl, rfl, by decide +kernel, rfl, by decide +kernel, by decide +kernel⟩
theorem g_detached_of (T : Tx K mg) : GFn P w K mg base CX0 9 "detached_of" ["formulas", "first", "second"] (sp_detached_of K) := by
  have g_detached : GFn P w K mg base CX0 8 "detached" ["f", "g"] (sp_detached K) := g_detached T
  refine gfn0 (f_detached_of T) (t_detached_of T) sc_detached_of (fun _ _ _ _ _ _ us hl => match us, hl with | [_, _, _], _ => rfl) (fun vs H Q E h => ?_) (fun f cdv A outer s H vs Q E hr h => ⟨_, (pss_cons (ps_if (PW.pt (pw_or (pt_cmpR op_eq (pv 1) (pe_ci1 (t_NOTHING T)) (nomark _)) (pw_or1 (pt_cmpR op_eq (pv 2) (pe_ci1 (t_NOTHING T)) (nomark _))))) (pss_one (ps_ret (pe_ca1 (t_NO_FORMULA T))))
  pss_nil)
  (pss_one (ps_ret (pe_fn g_detached (hr.mono (by omega)) pass0 (pa_cons (pe_ix (ix_listK K) (pv 0) (pv 1) (fun _ _ => rfl)) (pa_cons (pe_ix (ix_listK K) (pv 0) (pv 2) (fun _ _ => rfl)) pa_nil1)))))), ?_⟩)
  · obtain ⟨fl, as, fs, x, y, rfl, _⟩ := h
    rfl
  · obtain ⟨fl, as, fs, x, y, rfl, hfl, hfs, bx, by_, fine, k⟩ := h
    refine ⟨_, rfl, rfl, _, rfl, ?_⟩
    rw [int_dec]
    cases x with
    | none =>
      refine if_true_of (decide_eq_true rfl) ?_
      refine if_true_of rfl ?_
      exact k H _ (Same.refl H) (u_NO_FORMULA T H)
    | some i =>
      refine if_false_of (decide_eq_false (by simp [bI])) ?_
      refine ⟨_, rfl, rfl, _, rfl, ?_⟩
      rw [int_dec]
      cases y with
      | none =>
        refine if_true_of (decide_eq_true rfl) ?_
        exact k H _ (Same.refl H) (u_NO_FORMULA T H)
      | some j =>
        refine if_false_of (decide_eq_false (by simp [bI])) ?_
        obtain ⟨p1, hp1, hq1⟩ := FsAt.at_ hfs (bx i rfl)
        obtain ⟨p2, hp2, hq2⟩ := FsAt.at_ hfs (by_ j rfl)
        have fine2 : ∀ (j : Nat) (F : Form), (fs[j]?.getD none) = some F → Fine F := by
          intro j F e
          refine fine F ?_
          cases q : fs[j]? with
          | none => rw [q] at e; cases e
          | some y => rw [q] at e; have : y = some F := e; exact List.mem_of_getElem? (this ▸ q)
        refine ⟨_, rfl, _, rfl, fl, _, (i : Int), .ref p1, rfl, rfl, hfl, hp1, ?_⟩
        refine ⟨_, rfl, _, rfl, fl, _, (j : Int), .ref p2, rfl, rfl, hfl, hp2, ?_⟩
        exact ⟨p1, p2, _, _, rfl, hq1, hq2, fine2 i, fine2 j, k⟩
theorem vis_at' {l : List Int} {j : Nat} {i : Int} (h : l[j]? = some i) : atI (vis l) (j : Int) = some (V.int i) := vis_at h
/-- the lists that are made longer -/
structure DrAt (K : PySem.W.Frag) (H : Hp) (nl fl pl bl : Addr) (t : Text_) (d : Draft) : Prop where
  nm : ∃ ns, H nl = some (.lst (vr ns)) ∧ TupsAt K H ns ((t.axioms.map (fun a => a.name) ++ d.rows.map fun r => r.name).map ni)
  fl : ∃ fs, H fl = some (.lst (vr fs)) ∧ TupsAt K H fs (d.fs.map co)
  pl : ∃ ps, H pl = some (.lst (vr ps)) ∧ TupsAt K H ps (d.rows.map pr)
  bl : H bl = some (.lst (vis (d.to.map bI)))
theorem DrAt.same {H H' : Hp} {nl fl pl bl : Addr} {t : Text_} {d : Draft} (h : DrAt K H nl fl pl bl t d) (s : Same H H') : DrAt K H' nl fl pl bl t d := by
  obtain ⟨⟨a, a1, a2⟩, ⟨b, b1, b2⟩, ⟨c, c1, c2⟩, e⟩ := h
  exact ⟨⟨a, s _ _ a1, a2.same s⟩, ⟨b, s _ _ b1, b2.same s⟩, ⟨c, s _ _ c1, c2.same s⟩, s _ _ e⟩
theorem cut_take {L : List V} {n : Nat} (h : n ≤ L.length) : cutV L none (some (n : Int)) = L.take n := by
  unfold cutV
  rw [HT.sIx_none, HT.sIx_nat, List.drop_zero, Nat.sub_zero, Nat.min_eq_left h]
theorem vr_take (as : List Addr) (n : Nat) : (vr as).take n = vr (as.take n) := by simp [vr]
/-- x[:n], n at most its length -/
theorem sl_take {H : Hp} {a : Addr} {as : List Addr} {n : Nat} {Q : VK} (h : SqL K H a (vr as)) (hn : n ≤ as.length) (k : ∀ p, H p = none → Q (.ref p) (upd H p (.lst (vr (as.take n))))) : rSlL K (.ref a) none (some (n : Int)) H Q := by
  refine ⟨a, _, rfl, h, fun p hp => ?_⟩
  rw [cut_take (by rw [vr_len]; exact hn), vr_take]
  exact k p hp
theorem rg_vis (n : Nat) : rgV 0 (n : Int) = vis (((List.range n).map some).map bI) := by
  unfold rgV vis
  rw [show ((n : Int) - 0).toNat = n by omega, List.map_map, List.map_map]
  refine List.map_congr_left fun i _ => ?_
  show V.int (0 + (i : Int)) = V.int (i : Int)
  rw [Int.zero_add]
/-- text.formulas[:text.axioms] -/
theorem TextIn.axs {H : Hp} {x dx nm pa gl fo st : Addr} {t : Text_} (h : TextIn K H x dx nm pa gl fo st t) : ∃ as, SqL K H fo (vr as) ∧ t.axioms.length ≤ as.length ∧ TupsAt K H (as.take t.axioms.length) (t.axioms.map fun a => ci a.f) := by
  obtain ⟨as, h1, h2⟩ := h.fo.ex
  have hl := h2.len
  rw [List.length_map, SP.formulas_len] at hl
  refine ⟨as, h1, by rw [hl]; show _ ≤ t.axioms.length + _; omega, ?_⟩
  have h3 := h2.take t.axioms.length
  have e : ((formulas t).map co).take t.axioms.length = t.axioms.map fun a => ci a.f := by
    refine List.ext_getElem? fun i => ?_
    rw [List.getElem?_take, List.getElem?_map, List.getElem?_map]
    by_cases c : i < t.axioms.length
    · rw [if_pos c, SP.get_of_lt c, formulas_ax h.ok (SP.get_of_lt c)]
      rfl
    · rw [if_neg c, List.getElem?_eq_none (by omega)]
      rfl
  rw [e] at h3
  exact h3
theorem TextIn.nms {H : Hp} {x dx nm pa gl fo st : Addr} {t : Text_} (h : TextIn K H x dx nm pa gl fo st t) : ∃ ns, SqL K H nm (vr ns) ∧ t.axioms.length ≤ ns.length ∧ TupsAt K H (ns.take t.axioms.length) ((t.axioms.map fun a => a.name).map ni) ∧ TupsAt K H ns ((nms t).map ni) := by
  obtain ⟨ns, h1, h2⟩ := h.parts.nm
  have hl := h2.len
  rw [List.length_map, nms_len] at hl
  refine ⟨ns, h1, by rw [hl]; show _ ≤ t.axioms.length + _; omega, ?_, h2⟩
  have h3 := h2.take t.axioms.length
  have e : ((SPW.nms t).map ni).take t.axioms.length = (t.axioms.map fun a => a.name).map ni := by
    rw [SPW.nms, List.map_append, List.take_left' (by simp)]
  rw [e] at h3
  exact h3
end SPW
end
section
set_option Elab.async false
set_option linter.all false
set_option maxRecDepth 100000
set_option maxHeartbeats 4000000
namespace SPW
open PySem PySem.Spec PyProof.Rows L2
open SP (ci co ni TOk Fine det rowsOf DOk dTo Turn)
open Vapcma (Form Text_ formulas count nameAt)
open Vapcmb (Draft firstAsGeneral merged)
variable {P : Program} {w : World} {K : PySem.W.Frag} {mg : Str → Option Value} {base : Heap}
/-- four lists, apart -/
structure Four (nl fl pl bl : Addr) : Prop where
  nf : nl ≠ fl
  np : nl ≠ pl
  nb : nl ≠ bl
  fp : fl ≠ pl
  fb : fl ≠ bl
  pb : pl ≠ bl
section
variable {H : Hp} {nl fl pl bl : Addr} {t : Text_} {d : Draft}
theorem DrAt.addB (h : DrAt K H nl fl pl bl t d) (x : Four nl fl pl bl) (v : Option Nat) : DrAt K (upd H bl (.lst (vis (d.to.map bI) ++ [.int (bI v)]))) nl fl pl bl t { d with to := d.to ++ [v] } := by
  obtain ⟨⟨a, a1, a2⟩, ⟨b, b1, b2⟩, ⟨c, c1, c2⟩, e⟩ := h
  have m : Mut H [bl] := Mut.one (.inl ⟨_, e⟩)
  have k : But [bl] H (upd H bl (.lst (vis (d.to.map bI) ++ [.int (bI v)]))) := But.upd (But.refl H) (by simp)
  refine ⟨⟨a, k _ _ (by simpa using x.nb) a1, k.tups m a2⟩, ⟨b, k _ _ (by simpa using x.fb) b1, k.tups m b2⟩, ⟨c, k _ _ (by simpa using x.pb) c1, k.tups m c2⟩, ?_⟩
  rw [upd_same, vis_snoc, List.map_append]
  rfl
end
/-- merged(text) -/
def sp_merged (K : PySem.W.Frag) : Sp := fun vs H Q _ => ∃ (x : Addr) (t : Text_), vs = [.ref x] ∧ TextAt K H x t ∧ ∀ H' p, Same H H' → TextAt K H' p (merged t) → Q (.ref p) H'
abbrev N_merged : List Str := ["text", "names", "formulas", "pairs", "became", "at", "first", "second", "pair", "formula", "item"]
theorem sc_merged : FnScope N_merged ["text"] (defScope s_merged) := ⟨rfl, rfl, rfl, by decide +kernel, rfl, by decide +kernel, by decide +kernel⟩
theorem g_merged (T : Tx K mg) : GFn P w K mg base CX0 11 "merged" ["text"] (sp_merged K) := by
  have g_detached_of : GFn P w K mg base CX0 9 "detached_of" ["formulas", "first", "second"] (sp_detached_of K) := g_detached_of T
  have g_first_general : GFn P w K mg base CX0 3 "first_general" ["formulas", "f"] (sp_first_general K) := g_first_general T
  have g_ProofText_init : GMk P w K mg base CX0 9 "ProofText" (He.ga K "ProofText") ["self", "names", "axiom_formulas", "pairs", "goals"] (sp_ProofText_init K) := g_ProofText_init T
  refine gfn0 (f_merged T) (t_merged T) sc_merged (fun _ _ _ _ _ _ us hl => match us, hl with | [_], _ => rfl) (fun vs H Q E h => ?_) (fun f cdv A outer s H vs Q E hr h => ⟨_, (pss_cons (ps_set (i := 1) sc_merged.nd rfl (Or.inl rfl) (pe_slice (sl_listK K) (pe_fldK K (pv 0)) po_none1 (po_some (pe_fldK K (pv 0)))))
  (pss_cons (ps_set (i := 2) sc_merged.nd rfl (Or.inl rfl) (pe_slice (sl_listK K) (pe_fldK K (pv 0)) po_none1 (po_some (pe_fldK K (pv 0)))))
  (pss_cons (ps_set (i := 3) sc_merged.nd rfl (Or.inl rfl) (pe_lst pa_nil1))
  (pss_cons (ps_set (i := 4) sc_merged.nd rfl (Or.inl rfl) (pe_listRg (by rfl) (by rfl) (t_list T) (prg_1 (by rfl) (t_range T) (pe_fldK K (pv 0)))))
  (pss_cons (ps_for PassesOwn.never rfl (pi_enumK K (by rfl) (t_enumerate T) (pa_cons (pe_fldK K (pv 0)) pa_nil1)) (pg_tupK K (n := 2) rfl (pgs_cons (pg_name (i := 5) sc_merged.nd rfl (Or.inl rfl)) (pgs_cons (pg_tupK K (n := 2) rfl (pgs_cons (pg_name (i := 6) sc_merged.nd rfl (Or.inl rfl)) (pgs_cons (pg_name (i := 7) sc_merged.nd rfl (Or.inl rfl)) pgs_nil))) pgs_nil)))
  (pss_cons (ps_set (i := 8) sc_merged.nd rfl (Or.inl rfl) (pe_tup (pa_cons (pe_ix (ix_listK K) (pv 4) (pv 6) (fun _ _ => rfl)) (pa_cons (pe_ix (ix_listK K) (pv 4) (pv 7) (fun _ _ => rfl)) pa_nil1))))
  (pss_cons (ps_set (i := 9) sc_merged.nd rfl (Or.inl rfl) (pe_fn g_detached_of (hr.mono (by omega)) pass0 (pa_cons (pv 2) (pa_cons (pe_ix (ix_tupK K) (pv 8) pe_int1 (fun _ _ => rfl)) (pa_cons (pe_ix (ix_tupK K) (pv 8) pe_int1 (fun _ _ => rfl)) pa_nil1)))))
  (pss_cons (ps_if (pt_cmpR (op_eqDK K hr.units) (pv 9) (pe_ca1 (t_NO_FORMULA T)) (nomark _)) (pss_cons (ps_expr (pe_bmK K PySem.F.plainAttrs_list PySem.F.slot_list_append PySem.F.type_list_append mt_append (pv 4) (pa_cons (pe_ci1 (t_NOTHING T)) pa_nil1)))
  (pss_one ps_continue))
  pss_nil)
  (pss_cons (ps_set (i := 10) sc_merged.nd rfl (Or.inl rfl) (pe_fn g_first_general (hr.mono (by omega)) pass0 (pa_cons (pv 2) (pa_cons (pv 9) pa_nil1))))
  (pss_cons (ps_if (pt_cmpR op_eq (pv 10) (pe_un un_neg pe_int1) (nomark _)) (pss_cons (ps_set (i := 10) sc_merged.nd rfl (Or.inl rfl) (pe_callB (call_lenK K) (by rfl) (t_len T) PySem.boot_len (pa_cons (pv 2) pa_nil1)))
  (pss_cons (ps_expr (pe_bmK K PySem.F.plainAttrs_list PySem.F.slot_list_append PySem.F.type_list_append mt_append (pv 1) (pa_cons (pe_ix (ix_listK K) (pe_fldK K (pv 0)) (pe_op op_add (pe_fldK K (pv 0)) (pv 5)) (fun _ _ => rfl)) pa_nil1)))
  (pss_cons (ps_expr (pe_bmK K PySem.F.plainAttrs_list PySem.F.slot_list_append PySem.F.type_list_append mt_append (pv 2) (pa_cons (pv 9) pa_nil1)))
  (pss_one (ps_expr (pe_bmK K PySem.F.plainAttrs_list PySem.F.slot_list_append PySem.F.type_list_append mt_append (pv 3) (pa_cons (pv 8) pa_nil1)))))))
  pss_nil)
  (pss_one (ps_expr (pe_bmK K PySem.F.plainAttrs_list PySem.F.slot_list_append PySem.F.type_list_append mt_append (pv 4) (pa_cons (pv 10) pa_nil1))))))))))
  (pss_one (ps_ret (pe_mk g_ProofText_init (hr.mono (by omega)) pass0 (pa_cons (pv 1) (pa_cons (pe_slice (sl_listK K) (pe_fldK K (pv 0)) po_none1 (po_some (pe_fldK K (pv 0)))) (pa_cons (pv 3) (pa_cons (pe_fldK K (pv 0)) pa_nil1)))))))))))), ?_⟩)
  · obtain ⟨x, t, rfl, _⟩ := h
    rfl
  · obtain ⟨x, t, rfl, ⟨dx, nm, pa, gl, fo, st, hT⟩, k⟩ := h
    have ok := hT.ok
    have c1 := ok.na
    have c2 := ok.nr
    have cP := c_ProofText T
    have nN := n_ProofText_names T
    have nA := n_ProofText_axioms T
    have nF := n_ProofText_formulas T
    have nP := n_ProofText_pairs T
    have nG := n_ProofText_goals T
    obtain ⟨ns, hn1, hn2, hn3, hn4⟩ := hT.nms
    refine ⟨_, rfl, x, _, dx, _, _, rfl, hT.at_, cP, nN, lk_names _ _ _ _ _ _, _, rfl, x, _, dx, _, _, rfl, hT.at_, cP, nA, lk_axioms _ _ _ _ _ _, _, rfl, ?_⟩
    refine sl_take hn1 hn2 fun nl hnl => ?_
    have s1 : Same H (upd H nl (.lst (vr (ns.take t.axioms.length)))) := Same.new hnl
    have hnl1 : upd H nl (.lst (vr (ns.take t.axioms.length))) nl = _ := upd_same
    generalize upd H nl (.lst (vr (ns.take t.axioms.length))) = H1 at s1 hnl1 ⊢
    have hT1 := hT.same s1
    obtain ⟨as, ha1, ha2, ha3⟩ := hT1.axs
    refine ⟨_, rfl, x, _, dx, _, _, rfl, hT1.at_, cP, nF, lk_formulas _ _ _ _ _ _, _, rfl, x, _, dx, _, _, rfl, hT1.at_, cP, nA, lk_axioms _ _ _ _ _ _, _, rfl, ?_⟩
    refine sl_take ha1 ha2 fun fl hfl => ?_
    have s2 : Same H1 (upd H1 fl (.lst (vr (as.take t.axioms.length)))) := Same.new hfl
    have hfl2 : upd H1 fl (.lst (vr (as.take t.axioms.length))) fl = _ := upd_same
    have xnf : nl ≠ fl := ne_of_none hnl1 hfl
    generalize upd H1 fl (.lst (vr (as.take t.axioms.length))) = H2 at s2 hfl2 ⊢
    refine ⟨small_size (by simp), fun pl hpl => ?_⟩
    have s3 : Same H2 (upd H2 pl (.lst [])) := Same.new hpl
    have hpl3 : upd H2 pl (.lst []) pl = _ := upd_same
    have xnp : nl ≠ pl := ne_of_none (s2 _ _ hnl1) hpl
    have xfp : fl ≠ pl := ne_of_none hfl2 hpl
    generalize upd H2 pl (.lst []) = H3 at s3 hpl3 ⊢
    have s123 := (s1.trans s2).trans s3
    have hT3 := hT.same s123
    refine ⟨_, rfl, x, _, dx, _, _, rfl, hT3.at_, cP, nA, lk_axioms _ _ _ _ _ _, _, rfl, RgOk.of_le (by omega) (by omega) (by omega) (by omega), fun bl hbl => ?_⟩
    rw [rg_vis]
    have s4 : Same H3 (upd H3 bl (.lst (vis (((List.range t.axioms.length).map some).map bI)))) := Same.new hbl
    have hbl4 : upd H3 bl (.lst (vis (((List.range t.axioms.length).map some).map bI))) bl = _ := upd_same
    have xnb : nl ≠ bl := ne_of_none (s3 _ _ (s2 _ _ hnl1)) hbl
    have xfb : fl ≠ bl := ne_of_none (s3 _ _ hfl2) hbl
    have xpb : pl ≠ bl := ne_of_none hpl3 hbl
    have s14 := s123.trans s4
    have hnl0 : H nl = none := hnl
    have hfl0 : H fl = none := s1.free hfl
    have hpl0 : H pl = none := (s1.trans s2).free hpl
    have hbl0 : H bl = none := s123.free hbl
    have four : Four nl fl pl bl := ⟨xnf, xnp, xnb, xfp, xfb, xpb⟩
    generalize upd H3 bl (.lst (vis (((List.range t.axioms.length).map some).map bI))) = H4 at s4 hbl4 s14 ⊢
    have hD0 : DrAt K H4 nl fl pl bl t (dTo t 0) := by
      have e0 : dTo t 0 = Vapcmb.firstDraft t := by rw [dTo, List.take_zero]; rfl
      rw [e0]
      refine ⟨⟨_, s4 _ _ (s3 _ _ (s2 _ _ hnl1)), ?_⟩, ⟨_, s4 _ _ (s3 _ _ hfl2), ?_⟩, ⟨[], s4 _ _ hpl3, .nil⟩, hbl4⟩
      · simp only [Vapcmb.firstDraft, List.map_nil, List.append_nil]
        exact hn3.same s14
      · simp only [Vapcmb.firstDraft, List.map_map]
        have e1 : t.axioms.map (co ∘ fun a => some (Vapcma.normal a.f)) = t.axioms.map fun a => ci a.f := List.map_congr_left fun a ha => by
          show ci (Vapcma.normal a.f) = ci a.f
          rw [(ok.ax a ha).1]
        rw [e1]
        exact ha3.same ((s2.trans s3).trans s4)
    obtain ⟨ps, hps1, hps2⟩ := hT.parts.pa
    have hpl := hps2.len
    rw [List.length_map] at hpl
    have hT4 := hT.same s14
    refine ⟨_, rfl, x, _, dx, _, _, rfl, hT4.at_, cP, nP, lk_pairs _ _ _ _ _ _, pa, _, rfl, s14.seq hps1, ?_⟩
    refine for_enum (K := K) (a := pa) (xs := vr ps) (fun i σ' H' => ∃ (v5 v6 v7 v8 v9 v10 : Option V), σ' = [some (.ref x), some (.ref nl), some (.ref fl), some (.ref pl), some (.ref bl), v5, v6, v7, v8, v9, v10] ∧ Same H H' ∧ DrAt K H' nl fl pl bl t (dTo t i))
      ⟨none, none, none, none, none, none, rfl, s14, hD0⟩ (fun i σ' H' _ ⟨_, _, _, _, _, _, _, s, _⟩ => s.seq hps1) ?_ ?_
    · rintro i xv T' σ' H' hx ⟨v5, v6, v7, v8, v9, v10, rfl, s5, hD⟩ hT'
      obtain ⟨c, hc, rfl⟩ := vr_inv hx
      have hir : i < t.rows.length := by have := (List.getElem?_eq_some_iff.mp hc).1; omega
      have sT : Same H' (upd H' T' (.tup [.int (i : Int), .ref c])) := Same.new hT'
      have hTt : upd H' T' (.tup [.int (i : Int), .ref c]) T' = _ := upd_same
      have s6 := s5.trans sT
      have hD6 := hD.same sT
      generalize upd H' T' (.tup [.int (i : Int), .ref c]) = H6 at s6 hD6 hTt ⊢
      obtain ⟨l, hl, hcl⟩ := (hps2.same s6).get hc
      rw [List.getElem?_map, List.getElem?_eq_getElem hir] at hl
      have hl := Option.some.inj hl
      subst hl
      have hrow : t.rows[i]? = some t.rows[i] := List.getElem?_eq_getElem hir
      generalize t.rows[i] = r at hrow hcl
      have hdok := SP.dTo_ok ok i (by omega)
      have hturn := SP.turn (dTo t i) r
      rw [← SP.dTo_step hrow] at hturn
      have hrw := ok.rw i r hrow
      have htl := hdok.tl
      refine ⟨T', _, rfl, SqT.of hTt, rfl, _, _, rfl, _, _, rfl, ⟨c, _, rfl, hcl, rfl, _, _, rfl, _, _, rfl, rfl, rfl, ?_⟩⟩
      -- pair
      obtain ⟨g1, hg1⟩ : ∃ g, (dTo t i).to[r.i]? = some g := ⟨_, List.getElem?_eq_getElem (by omega)⟩
      obtain ⟨g2, hg2⟩ : ∃ g, (dTo t i).to[r.j]? = some g := ⟨_, List.getElem?_eq_getElem (by omega)⟩
      have e1 : ((dTo t i).to.map bI)[r.i]? = some (bI g1) := by rw [List.getElem?_map, hg1]; rfl
      have e2 : ((dTo t i).to.map bI)[r.j]? = some (bI g2) := by rw [List.getElem?_map, hg2]; rfl
      refine ⟨_, rfl, _, rfl, bl, _, (r.i : Int), _, rfl, rfl, SqL.of hD6.bl, vis_at e1, ?_⟩
      refine ⟨_, rfl, _, rfl, bl, _, (r.j : Int), _, rfl, rfl, SqL.of hD6.bl, vis_at e2, ?_⟩
      refine ⟨small_size (by simp), fun pt hpt => ?_⟩
      have s7 : Same H6 (upd H6 pt (.tup [.int (bI g1), .int (bI g2)])) := Same.new hpt
      have hpt7 : upd H6 pt (.tup [.int (bI g1), .int (bI g2)]) pt = _ := upd_same
      have hD7 := hD6.same s7
      have s67 := s6.trans s7
      generalize upd H6 pt (.tup [.int (bI g1), .int (bI g2)]) = H7 at s7 hpt7 hD7 s67 ⊢
      obtain ⟨fs, hf1, hf2⟩ := hD7.fl
      refine ⟨_, rfl, _, rfl, pt, _, 0, _, rfl, rfl, SqT.of hpt7, atI_nat (j := 0) rfl, ?_⟩
      refine ⟨_, rfl, pt, _, 1, _, rfl, rfl, SqT.of hpt7, atI_nat (j := 1) rfl, ?_⟩
      have fsl := hf2.len
      rw [List.length_map] at fsl
      refine ⟨fl, fs, (dTo t i).fs, g1, g2, rfl, SqL.of hf1, hf2, fun k hk => hdok.tb k (by rw [← hk]; exact List.mem_of_getElem? hg1), fun k hk => hdok.tb k (by rw [← hk]; exact List.mem_of_getElem? hg2), hdok.fine, fun H8 p8 s8 hp8 => ?_⟩
      have hD8 := hD7.same s8
      have s68 := s67.trans s8
      refine ⟨_, rfl, _, _, dp_tup hp8, dp_tup (l := []) (u_NO_FORMULA T _), dI_shaped _, dI_shaped _, _, rfl, ?_⟩
      rw [eqv_dI]
      have eg1 : ((dTo t i).to[r.i]?).getD none = g1 := by rw [hg1]; rfl
      have eg2 : ((dTo t i).to[r.j]?).getD none = g2 := by rw [hg2]; rfl
      have hbl8 := hD8.bl
      have htol : ((dTo t i).to.map bI).length ≤ 40 := by rw [List.length_map]; omega
      -- no formula
      have hnone : (g1.bind fun i_1 => g2.bind fun j => det (((dTo t i).fs[i_1]?).getD none) (((dTo t i).fs[j]?).getD none)) = none → dTo t (i + 1) = { dTo t i with to := (dTo t i).to ++ [none] } := by
        intro hz
        revert hturn
        generalize dTo t (i + 1) = d'
        intro hturn
        cases hturn with
        | drop _ => rfl
        | old h1 h2 h3 h4 => rw [eg1] at h1; rw [eg2] at h2; subst h1; subst h2; simp only [Option.bind_some] at hz; rw [h3] at hz; cases hz
        | new h1 h2 h3 h4 => rw [eg1] at h1; rw [eg2] at h2; subst h1; subst h2; simp only [Option.bind_some] at hz; rw [h3] at hz; cases hz
      cases hres : (g1.bind fun i_1 => g2.bind fun j => det (((dTo t i).fs[i_1]?).getD none) (((dTo t i).fs[j]?).getD none)) with
      | none =>
        refine if_true_of (decide_eq_true rfl) ?_
        refine ⟨_, rfl, .inl ⟨rfl, _, SqL.of hbl8⟩, bl, _, _, rfl, rfl, hbl8, small_lt (by rw [vis_len]; omega), ?_⟩
        refine ⟨_, _, _, _, _, _, rfl, s68.mut hbl0, ?_⟩
        rw [hnone hres]
        exact hD8.addB four none
      | some hh =>
        rw [hres] at hp8
        refine if_false_of (decide_eq_false (SP.ci_ne hh)) ?_
        have hx : ∃ i1 j1, g1 = some i1 ∧ g2 = some j1 ∧ det (((dTo t i).fs[i1]?).getD none) (((dTo t i).fs[j1]?).getD none) = some hh := by
          cases g1 with
          | none => cases hres
          | some i1 =>
            cases g2 with
            | none => cases hres
            | some j1 => exact ⟨i1, j1, rfl, rfl, hres⟩
        obtain ⟨i1, j1, z1, z2, hdet⟩ := hx
        subst z1 z2
        have hFs : FsAt K H8 fl (dTo t i).fs := by
          obtain ⟨fs8, q1, q2⟩ := hD8.fl
          have hfl := hdok.fl
          have hrn := hdok.rn
          exact ⟨⟨fs8, SqL.of q1, q2⟩, fun G hG => by have := (hdok.fine G hG).1; have := SP.ci_le G; omega, by omega⟩
        refine ⟨_, rfl, _, rfl, fl, p8, (dTo t i).fs, hh, rfl, hFs, hp8, fun H9 s9 => ?_⟩
        have hD9 := hD8.same s9
        have s69 := s68.trans s9
        have hp9 := s9.tup hp8
        have hbl9 := hD9.bl
        have hpt9 := s9 _ _ (s8 _ _ hpt7)
        refine ⟨_, rfl, _, rfl, rfl, _, rfl, ?_⟩
        rw [int_dec]
        cases hfa : firstAsGeneral (dTo t i).fs hh with
        | some kk =>
          have hg : genI (dTo t i).fs hh = (kk : Int) := by simp only [genI, hfa]
          rw [hg]
          refine if_false_of (decide_eq_false (by omega)) ?_
          refine ⟨_, rfl, .inl ⟨rfl, _, SqL.of hbl9⟩, _, rfl, bl, _, _, rfl, rfl, hbl9, small_lt (by rw [vis_len]; omega), ?_⟩
          refine ⟨_, _, _, _, _, _, rfl, s69.mut hbl0, ?_⟩
          have e : dTo t (i + 1) = { dTo t i with to := (dTo t i).to ++ [some kk] } := by
            revert hturn
            generalize dTo t (i + 1) = d'
            intro hturn
            cases hturn with
            | drop z => rw [z i1 j1 eg1 eg2] at hdet; cases hdet
            | old h1 h2 h3 h4 =>
              rw [eg1] at h1; cases h1; rw [eg2] at h2; cases h2
              rw [hdet] at h3; cases h3
              rw [hfa] at h4; cases h4
              rfl
            | new h1 h2 h3 h4 =>
              rw [eg1] at h1; cases h1; rw [eg2] at h2; cases h2
              rw [hdet] at h3; cases h3
              rw [hfa] at h4; cases h4
          rw [e]
          exact hD9.addB four (some kk)
        | none =>
          have hg : genI (dTo t i).fs hh = -1 := by simp only [genI, hfa]
          rw [hg]
          refine if_true_of (decide_eq_true rfl) ?_
          have e : dTo t (i + 1) = ⟨(dTo t i).to ++ [some (dTo t i).fs.length], (dTo t i).rows ++ [⟨r.name, i1, j1⟩], (dTo t i).fs ++ [some hh]⟩ := by
            revert hturn
            generalize dTo t (i + 1) = d'
            intro hturn
            cases hturn with
            | drop z => rw [z i1 j1 eg1 eg2] at hdet; cases hdet
            | old h1 h2 h3 h4 =>
              rw [eg1] at h1; cases h1; rw [eg2] at h2; cases h2
              rw [hdet] at h3; cases h3
              rw [hfa] at h4; cases h4
            | new h1 h2 h3 h4 =>
              rw [eg1] at h1; cases h1; rw [eg2] at h2; cases h2
              rw [hdet] at h3; cases h3
              rfl
          obtain ⟨fs9, q1, q2⟩ := hD9.fl
          have q3 := q2.len
          rw [List.length_map] at q3
          have hdfl := hdok.fl
          have hdrn := hdok.rn
          refine ⟨_, rfl, fl, _, rfl, .inl (SqL.of q1), ?_⟩
          -- names.append
          obtain ⟨ns9, m1, m2⟩ := hD9.nm
          have m3 := m2.len
          simp only [List.length_map, List.length_append] at m3
          have hT9 := hT.same s69
          obtain ⟨nsT, t1, _, _, t4⟩ := hT9.nms
          have hlk : t.axioms.length + i < count t := by show _ < t.axioms.length + t.rows.length; omega
          obtain ⟨na, hna, hnat⟩ := t4.get' (i := t.axioms.length + i) (l := ni (nameAt t (t.axioms.length + i))) (by rw [List.getElem?_map, nms_at hlk]; rfl)
          have hnmr : nameAt t (t.axioms.length + i) = r.name := by
            unfold Vapcma.nameAt
            rw [List.getElem?_append_right (by simp)]
            simp [hrow]
          rw [hnmr] at hnat
          refine ⟨_, rfl, .inl ⟨rfl, _, SqL.of m1⟩, _, rfl, x, _, dx, _, _, rfl, hT9.at_, cP, nN, lk_names _ _ _ _ _ _, _, rfl, x, _, dx, _, _, rfl, hT9.at_, cP, nA, lk_axioms _ _ _ _ _ _, _, rfl, _, _, rfl, rfl, nm, _, ((t.axioms.length + i : Nat) : Int), .ref na, rfl, rfl, t1, atI_nat (vr_get hna), nl, _, _, rfl, rfl, m1, small_lt (by rw [vr_len]; omega), ?_⟩
          rw [vr_snoc]
          have mA : Mut H9 [nl] := Mut.one (.inl ⟨_, m1⟩)
          have bA : But [nl] H9 (upd H9 nl (.lst (vr (ns9 ++ [na])))) := But.upd (But.refl _) (by simp)
          have sA := s69.mut (o := .lst (vr (ns9 ++ [na]))) hnl0
          have nA1 : upd H9 nl (.lst (vr (ns9 ++ [na]))) nl = _ := upd_same
          have nA2 := TupsAt.snoc (bA.tup mA hnat) (bA.tups mA m2)
          have fA1 := bA _ _ (by simpa using Ne.symm four.nf) q1
          have fA2 := bA.tups mA q2
          obtain ⟨ps9, u1, u2⟩ := hD9.pl
          have u3 := u2.len
          rw [List.length_map] at u3
          have pA1 := bA _ _ (by simpa using Ne.symm four.np) u1
          have pA2 := bA.tups mA u2
          have bbA := bA _ _ (by simpa using Ne.symm four.nb) hbl9
          have hpA := bA.tup mA hp9
          have htA := bA.tup mA (SqT.of (K := K) hpt9)
          generalize upd H9 nl (.lst (vr (ns9 ++ [na]))) = HA at *
          -- formulas.append
          refine ⟨_, rfl, .inl ⟨rfl, _, SqL.of fA1⟩, _, rfl, fl, _, _, rfl, rfl, fA1, small_lt (by rw [vr_len]; omega), ?_⟩
          rw [vr_snoc]
          have mB : Mut HA [fl] := Mut.one (.inl ⟨_, fA1⟩)
          have bB : But [fl] HA (upd HA fl (.lst (vr (fs9 ++ [p8])))) := But.upd (But.refl _) (by simp)
          have sB := sA.mut (o := .lst (vr (fs9 ++ [p8]))) hfl0
          have fB1 : upd HA fl (.lst (vr (fs9 ++ [p8]))) fl = _ := upd_same
          have fB2 := TupsAt.snoc (bB.tup mB hpA) (bB.tups mB fA2)
          have nB1 := bB _ _ (by simpa using four.nf) nA1
          have nB2 := bB.tups mB nA2
          have pB1 := bB _ _ (by simpa using Ne.symm four.fp) pA1
          have pB2 := bB.tups mB pA2
          have bbB := bB _ _ (by simpa using Ne.symm four.fb) bbA
          have htB := bB.tup mB htA
          generalize upd HA fl (.lst (vr (fs9 ++ [p8]))) = HB at *
          -- pairs.append
          refine ⟨_, rfl, .inl ⟨rfl, _, SqL.of pB1⟩, _, rfl, pl, _, _, rfl, rfl, pB1, small_lt (by rw [vr_len]; omega), ?_⟩
          rw [vr_snoc]
          have mC : Mut HB [pl] := Mut.one (.inl ⟨_, pB1⟩)
          have bC : But [pl] HB (upd HB pl (.lst (vr (ps9 ++ [pt])))) := But.upd (But.refl _) (by simp)
          have sC := sB.mut (o := .lst (vr (ps9 ++ [pt]))) hpl0
          have pC1 : upd HB pl (.lst (vr (ps9 ++ [pt]))) pl = _ := upd_same
          have pC2 := TupsAt.snoc (l := [bI (some i1), bI (some j1)]) (bC.tup mC htB) (bC.tups mC pB2)
          have nC1 := bC _ _ (by simpa using four.np) nB1
          have nC2 := bC.tups mC nB2
          have fC1 := bC _ _ (by simpa using four.fp) fB1
          have fC2 := bC.tups mC fB2
          have bbC := bC _ _ (by simpa using Ne.symm four.pb) bbB
          generalize upd HB pl (.lst (vr (ps9 ++ [pt]))) = HC at *
          refine ⟨_, rfl, .inl ⟨rfl, _, SqL.of bbC⟩, _, rfl, bl, _, _, rfl, rfl, bbC, small_lt (by rw [vis_len]; omega), ?_⟩
          refine ⟨_, _, _, _, _, _, rfl, sC.mut hbl0, ?_⟩
          rw [e]
          have hDC : DrAt K HC nl fl pl bl t ⟨(dTo t i).to, (dTo t i).rows ++ [⟨r.name, i1, j1⟩], (dTo t i).fs ++ [some hh]⟩ := by
            refine ⟨⟨_, nC1, ?_⟩, ⟨_, fC1, ?_⟩, ⟨_, pC1, ?_⟩, bbC⟩
            · simp only [List.map_append, List.map_cons, List.map_nil] at nC2 ⊢
              rw [← List.append_assoc]
              exact nC2
            · rw [List.map_append]
              exact fC2
            · rw [List.map_append]
              exact pC2
          have hfin := hDC.addB four (some (dTo t i).fs.length)
          have el : ((vr fs9).length : Int) = bI (some (dTo t i).fs.length) := by
            rw [vr_len, q3]
            rfl
          rw [el]
          exact hfin
    · rintro σ' H' ⟨v5, v6, v7, v8, v9, v10, rfl, s5, hD⟩
      rw [vr_len, hpl] at hD
      have hT5 := hT.same s5
      obtain ⟨as5, a1, a2, a3⟩ := hT5.axs
      refine ⟨_, rfl, _, rfl, x, _, dx, _, _, rfl, hT5.at_, cP, nF, lk_formulas _ _ _ _ _ _, _, rfl, x, _, dx, _, _, rfl, hT5.at_, cP, nA, lk_axioms _ _ _ _ _ _, _, rfl, ?_⟩
      refine sl_take a1 a2 fun af haf => ?_
      have s6 : Same H' (upd H' af (.lst (vr (as5.take t.axioms.length)))) := Same.new haf
      have haf6 : upd H' af (.lst (vr (as5.take t.axioms.length))) af = _ := upd_same
      generalize upd H' af (.lst (vr (as5.take t.axioms.length))) = H6 at s6 haf6 ⊢
      have hT6 := hT5.same s6
      have s56 := s5.trans s6
      refine ⟨_, rfl, _, rfl, x, _, dx, _, _, rfl, hT6.at_, cP, nG, lk_goals _ _ _ _ _ _, ?_⟩
      intro xo dxo hxo hdxo hne
      have s7 : Same H6 (upd (upd H6 dxo (.own xo)) xo (.ins (He.ga K "ProofText") dxo [])) := (Same.new hdxo).mut hxo
      have hD7 := (hD.same s6).same s7
      obtain ⟨ns7, n1, n2⟩ := hD7.nm
      obtain ⟨ps7, p1, p2⟩ := hD7.pl
      rw [SP.dTo_all] at n2 p2
      have s17 := s56.trans s7
      refine ⟨xo, dxo, nl, af, pl, gl, merged t, as5.take t.axioms.length, rfl, upd_same, SP.merged_ok ok, ⟨⟨ns7, SqL.of n1, n2⟩, ⟨ps7, SqL.of p1, p2⟩, (hT.same s17).parts.gl⟩, SqL.of (s7 _ _ haf6), a3.same (s6.trans s7), fun H8 b8 ⟨fo8, st8, hI8, _, _⟩ => ⟨rfl, ?_⟩⟩
      exact k H8 xo (But.cutS b8 s17 ((s56).free hxo)).same ⟨dxo, nl, pl, gl, fo8, st8, hI8⟩
end SPW
end
section
set_option Elab.async false
set_option linter.all false
set_option maxRecDepth 100000
set_option maxHeartbeats 4000000
namespace SPW
open PySem PySem.Spec PyProof.Rows L2
open SP (ci co ni TOk Fine det rowsOf keptRow toOf)
open Vapcma (Form Text_ formulas count nameAt)
open Vapcmb (merged pruned shorten targetItems)
variable {P : Program} {w : World} {K : PySem.W.Frag} {mg : Str → Option Value} {base : Heap}
/-- where the items have gone, with so many rows kept -/
structure GoneTo (t : Text_) (l : List Nat) (i : Nat) (kvs : List (Key × V)) : Prop where
  ax : ∀ k : Nat, k < t.axioms.length → valV kvs (Sum.inl (k : Int)) = some (.int (k : Int))
  rw : ∀ m y : Nat, m < i → (rowsOf t l)[m]? = some y → valV kvs (Sum.inl (y : Int)) = some (.int ((t.axioms.length + m : Nat) : Int))
  ln : kvs.length ≤ t.axioms.length + i
theorem putK_len' (c : List (Key × V)) (k : Key) (x : V) : (putK c k x).length ≤ c.length + 1 := by
  unfold putK
  split
  · simp
  · simp
theorem GoneTo.next {t : Text_} {l : List Nat} {i k : Nat} {kvs : List (Key × V)} (h : GoneTo t l i kvs) (hk : (rowsOf t l)[i]? = some k) (hka : t.axioms.length ≤ k) : GoneTo t l (i + 1) (putK kvs (Sum.inl (k : Int)) (.int ((t.axioms.length + i : Nat) : Int))) := by
  refine ⟨fun k2 h2 => ?_, fun m y hm hy => ?_, ?_⟩
  · rw [valV_put, if_neg (fun z => by have := Sum.inl.inj z; omega)]
    exact h.ax k2 h2
  · rw [valV_put]
    by_cases e : m = i
    · subst e
      rw [hk] at hy
      cases hy
      rw [if_pos rfl]
    · have hne : y ≠ k := fun z => by
        subst z
        exact e ((List.getElem?_inj (List.getElem?_eq_some_iff.mp hy).1 (SP.rowsOf_nodup t l)).mp (by rw [hy, hk]))
      rw [if_neg (fun z => by have := Sum.inl.inj z; omega)]
      exact h.rw m y (by omega) hy
  · have := putK_len' kvs (Sum.inl (k : Int)) (.int ((t.axioms.length + i : Nat) : Int))
    have := h.ln
    omega
/-- kept(text, rows) -/
def sp_kept (K : PySem.W.Frag) : Sp := fun vs H Q _ => ∃ (x rl : Addr) (t : Text_) (l is : List Nat), vs = [.ref x, .ref rl] ∧ TextAt K H x t ∧ SqL K H rl (vn (rowsOf t l)) ∧ (∀ k, k ∈ l ↔ k ∈ is) ∧ ∀ H' p, Same H H' → TextAt K H' p (pruned t is) → Q (.ref p) H'
abbrev N_kept : List Str := ["text", "rows", "names", "pairs", "became", "item", "row", "first", "second"]
theorem sc_kept : FnScope N_kept ["text", "rows"] (defScope s_kept) := ⟨rfl, rfl, rfl, by decide +kernel, rfl, by decide +kernel, by decide +kernel⟩
theorem g_kept (T : Tx K mg) : GFn P w K mg base CX0 11 "kept" ["text", "rows"] (sp_kept K) := by
  have g_pair_of : GFn P w K mg base CX0 1 "pair_of" ["text", "row"] (sp_pair_of K) := g_pair_of T
  have g_ProofText_init : GMk P w K mg base CX0 9 "ProofText" (He.ga K "ProofText") ["self", "names", "axiom_formulas", "pairs", "goals"] (sp_ProofText_init K) := g_ProofText_init T
  refine gfn0 (f_kept T) (t_kept T) sc_kept (fun _ _ _ _ _ _ us hl => match us, hl with | [_, _], _ => rfl) (fun vs H Q E h => ?_) (fun f cdv A outer s H vs Q E hr h => ⟨_, (pss_cons (ps_set (i := 2) sc_kept.nd rfl (Or.inl rfl) (pe_slice (sl_listK K) (pe_fldK K (pv 0)) po_none1 (po_some (pe_fldK K (pv 0)))))
  (pss_cons (ps_set (i := 3) sc_kept.nd rfl (Or.inl rfl) (pe_lst pa_nil1))
  (pss_cons (ps_set (i := 4) sc_kept.nd rfl (Or.inl rfl) pe_dnewK)
  (pss_cons (ps_for PassesOwn.never rfl (pi_range1 rfl (t_range T) (pa_cons (pe_fldK K (pv 0)) pa_nil1)) (pg_name (i := 5) sc_kept.nd rfl (Or.inl rfl))
  (pss_one (ps_dput (hu_of hr) (pv 4) (pv 5) (pv 5) rfl)))
  (pss_cons (ps_for PassesOwn.never rfl (pi_listK K (pv 1)) (pg_name (i := 6) sc_kept.nd rfl (Or.inl rfl))
  (pss_cons (ps_asg (pe_fn g_pair_of (hr.mono (by omega)) pass0 (pa_cons (pv 0) (pa_cons (pv 6) pa_nil1))) (pg_tupK K (n := 2) rfl (pgs_cons (pg_name (i := 7) sc_kept.nd rfl (Or.inl rfl)) (pgs_cons (pg_name (i := 8) sc_kept.nd rfl (Or.inl rfl)) pgs_nil))))
  (pss_cons (ps_dput (hu_of hr) (pv 4) (pv 6) (pe_callB (call_lenK K) (by rfl) (t_len T) PySem.boot_len (pa_cons (pv 2) pa_nil1)) rfl)
  (pss_cons (ps_expr (pe_bmK K PySem.F.plainAttrs_list PySem.F.slot_list_append PySem.F.type_list_append mt_append (pv 2) (pa_cons (pe_ix (ix_listK K) (pe_fldK K (pv 0)) (pv 6) (fun _ _ => rfl)) pa_nil1)))
  (pss_one (ps_expr (pe_bmK K PySem.F.plainAttrs_list PySem.F.slot_list_append PySem.F.type_list_append mt_append (pv 3) (pa_cons (pe_tup (pa_cons (pe_dget (hu_of hr) (pv 4) (pv 7) (fun _ _ => rfl)) (pa_cons (pe_dget (hu_of hr) (pv 4) (pv 8) (fun _ _ => rfl)) pa_nil1))) pa_nil1))))))))
  (pss_one (ps_ret (pe_mk g_ProofText_init (hr.mono (by omega)) pass0 (pa_cons (pv 2) (pa_cons (pe_slice (sl_listK K) (pe_fldK K (pv 0)) po_none1 (po_some (pe_fldK K (pv 0)))) (pa_cons (pv 3) (pa_cons (pe_fldK K (pv 0)) pa_nil1)))))))))))), ?_⟩)
  · obtain ⟨x, rl, t, l, is, rfl, _⟩ := h
    rfl
  · obtain ⟨x, rl, t, l, is, rfl, ⟨dx, nm, pa, gl, fo, st, hT⟩, hrl, his, k⟩ := h
    have ok := hT.ok
    have c1 := ok.na
    have c2 := ok.nr
    have c3 : (rowsOf t l).length ≤ 24 := Nat.le_trans (SP.rowsOf_len l) c2
    have cP := c_ProofText T
    have nN := n_ProofText_names T
    have nA := n_ProofText_axioms T
    have nF := n_ProofText_formulas T
    have nP := n_ProofText_pairs T
    have nG := n_ProofText_goals T
    obtain ⟨ns, hn1, hn2, hn3, hn4⟩ := hT.nms
    refine ⟨_, rfl, x, _, dx, _, _, rfl, hT.at_, cP, nN, lk_names _ _ _ _ _ _, _, rfl, x, _, dx, _, _, rfl, hT.at_, cP, nA, lk_axioms _ _ _ _ _ _, _, rfl, ?_⟩
    refine sl_take hn1 hn2 fun nl hnl => ?_
    have s1 : Same H (upd H nl (.lst (vr (ns.take t.axioms.length)))) := Same.new hnl
    have hnl1 : upd H nl (.lst (vr (ns.take t.axioms.length))) nl = _ := upd_same
    generalize upd H nl (.lst (vr (ns.take t.axioms.length))) = H1 at s1 hnl1 ⊢
    refine ⟨small_size (by simp), fun pl hpl => ?_⟩
    have s2 : Same H1 (upd H1 pl (.lst [])) := Same.new hpl
    have hpl2 : upd H1 pl (.lst []) pl = _ := upd_same
    have xnp : nl ≠ pl := ne_of_none hnl1 hpl
    generalize upd H1 pl (.lst []) = H2 at s2 hpl2 ⊢
    intro bd hbd
    have s3 : Same H2 (upd H2 bd (.dK [])) := Same.new hbd
    have hbd3 : upd H2 bd (.dK []) bd = _ := upd_same
    have xnb : nl ≠ bd := ne_of_none (s2 _ _ hnl1) hbd
    have xpb : pl ≠ bd := ne_of_none hpl2 hbd
    have s13 := (s1.trans s2).trans s3
    have hnl3 := s3 _ _ (s2 _ _ hnl1)
    have hpl3 := s3 _ _ hpl2
    have hnl0 : H nl = none := hnl
    have hpl0 : H pl = none := s1.free hpl
    have hbd0 : H bd = none := (s1.trans s2).free hbd
    generalize upd H2 bd (.dK []) = H3 at s3 hbd3 s13 hnl3 hpl3 ⊢
    have hT3 := hT.same s13
    have hn33 := hn3.same s13
    refine ⟨_, rfl, x, _, dx, _, _, rfl, hT3.at_, cP, nA, lk_axioms _ _ _ _ _ _, _, rfl, by omega, by omega, ?_⟩
    rw [Int.toNat_natCast]
    refine for_range (fun i σ' H' => ∃ (v5 : Option V) (kvs : List (Key × V)), σ' = [some (.ref x), some (.ref rl), some (.ref nl), some (.ref pl), some (.ref bd), v5, none, none, none] ∧ Same H H' ∧ H' nl = some (.lst (vr (ns.take t.axioms.length))) ∧ H' pl = some (.lst (vr [])) ∧ H' bd = some (.dK kvs) ∧
        kvs.length ≤ i ∧ ∀ k : Nat, k < i → valV kvs (Sum.inl (k : Int)) = some (.int (k : Int)))
      ⟨none, [], rfl, s13, hnl3, hpl3, hbd3, Nat.le_refl _, fun k h => absurd h (Nat.not_lt_zero _)⟩ ?_ ?_
    · rintro i σ' H' hi ⟨v5, kvs, rfl, s4, hn4, hp4, hb4, hkl, hkv⟩
      have ei : (0 : Int) + (i : Int) = (i : Int) := by omega
      rw [ei]
      refine ⟨_, rfl, _, rfl, _, rfl, bd, _, rfl, .inl ⟨_, Sum.inl (i : Int), hb4, rfl, small_lt (by omega), rfl⟩, ?_⟩
      refine ⟨_, _, rfl, s4.mut hbd0, by rw [upd_ne xnb]; exact hn4, by rw [upd_ne xpb]; exact hp4, upd_same, ?_, fun k hk => ?_⟩
      · have := putK_len' kvs (Sum.inl (i : Int)) (.int (i : Int))
        omega
      · rw [valV_put]
        by_cases e : k = i
        · subst e
          rw [if_pos rfl]
        · rw [if_neg (fun z => by have := Sum.inl.inj z; omega)]
          exact hkv k (by omega)
    rintro σ' H' ⟨v5, kvs, rfl, s4, hn4, hp4, hb4, hkl, hkv⟩
    have hg0 : GoneTo t l 0 kvs := ⟨hkv, fun m y h => absurd h (Nat.not_lt_zero _), hkl⟩
    refine ⟨_, rfl, rl, rfl, ⟨_, s4.seq hrl⟩, ?_⟩
    refine for_list (K := K) (a := rl) (xs := vn (rowsOf t l)) (fun i σ' H' => ∃ (v6 v7 v8 : Option V) (kvs : List (Key × V)) (na pb : List Addr), σ' = [some (.ref x), some (.ref rl), some (.ref nl), some (.ref pl), some (.ref bd), v5, v6, v7, v8] ∧ Same H H' ∧
        H' nl = some (.lst (vr na)) ∧ TupsAt K H' na ((t.axioms.map (fun a => a.name) ++ ((rowsOf t l).take i).map fun y => (keptRow t l y).name).map ni) ∧
        H' pl = some (.lst (vr pb)) ∧ TupsAt K H' pb (((rowsOf t l).take i).map fun y => pr (keptRow t l y)) ∧ H' bd = some (.dK kvs) ∧ GoneTo t l i kvs)
      ⟨none, none, none, kvs, _, [], rfl, s4, hn4, by simpa using hn3.same s4, hp4, .nil, hb4, hg0⟩ (fun i σ' H' _ ⟨_, _, _, _, _, _, _, s, _⟩ => s.seq hrl) ?_ ?_
    · rintro i xv σ' H' hx ⟨v6, v7, v8, kvs, na, pb, rfl, s5, hn5, hna5, hp5, hpb5, hb5, hg⟩
      obtain ⟨y, hy, rfl⟩ := vn_inv hx
      have hi24 := (List.getElem?_eq_some_iff.mp hy).1
      obtain ⟨r, q, hr, ey, hkr, hfrom⟩ := SP.kept_from ok hy
      have hT5 := hT.same s5
      have hq := (List.getElem?_eq_some_iff.mp hr).1
      refine ⟨_, rfl, _, rfl, x, t, q, r, by subst ey; rfl, ⟨dx, nm, pa, gl, fo, st, hT5⟩, hr, fun p hp => ?_⟩
      refine ⟨p, _, rfl, hp, rfl, _, _, rfl, _, _, rfl, rfl, ?_⟩
      have nal := hna5.len
      simp only [List.length_map, List.length_append, List.length_take] at nal
      have pbl := hpb5.len
      simp only [List.length_map, List.length_take] at pbl
      have hgl := hg.ln
      refine ⟨_, rfl, nl, _, rfl, .inl (SqL.of hn5), _, rfl, _, rfl, bd, _, rfl, .inl ⟨_, Sum.inl (y : Int), hb5, rfl, small_lt (by omega), rfl⟩, ?_⟩
      have el : V.int (((vr na).length : Nat) : Int) = V.int ((t.axioms.length + i : Nat) : Int) := by
        rw [vr_len]
        congr 2
        omega
      rw [el]
      have hg2 := hg.next hy (by omega)
      have s6 := s5.mut (o := .dK (putK kvs (Sum.inl (y : Int)) (.int ((t.axioms.length + i : Nat) : Int)))) hbd0
      have mA : Mut H' [bd] := Mut.one (.inr ⟨_, hb5⟩)
      have bA : But [bd] H' (upd H' bd (.dK (putK kvs (Sum.inl (y : Int)) (.int ((t.axioms.length + i : Nat) : Int))))) := But.upd (But.refl _) (by simp)
      have n6 := bA _ _ (by simpa using xnb) hn5
      have na6 := bA.tups mA hna5
      have p6 := bA _ _ (by simpa using xpb) hp5
      have pb6 := bA.tups mA hpb5
      have b6 : upd H' bd (.dK (putK kvs (Sum.inl (y : Int)) (.int ((t.axioms.length + i : Nat) : Int)))) bd = _ := upd_same
      generalize upd H' bd (.dK (putK kvs (Sum.inl (y : Int)) (.int ((t.axioms.length + i : Nat) : Int)))) = H6 at s6 n6 na6 p6 pb6 b6 ⊢
      -- names.append(text.names[row])
      have hT6 := hT.same s6
      obtain ⟨nsT, t1, _, _, t4⟩ := hT6.nms
      have hlk : y < count t := by show y < t.axioms.length + t.rows.length; omega
      obtain ⟨ad, hna, hnat⟩ := t4.get' (i := y) (l := ni (nameAt t y)) (by rw [List.getElem?_map, nms_at hlk]; rfl)
      have hnmr : nameAt t y = (keptRow t l y).name := by
        rw [hkr]
        unfold Vapcma.nameAt
        rw [ey, List.getElem?_append_right (by simp)]
        simp [hr]
      rw [hnmr] at hnat
      refine ⟨_, rfl, .inl ⟨rfl, _, SqL.of n6⟩, _, rfl, x, _, dx, _, _, rfl, hT6.at_, cP, nN, lk_names _ _ _ _ _ _, _, rfl, nm, _, (y : Int), .ref ad, rfl, rfl, t1, atI_nat (vr_get hna), nl, _, _, rfl, rfl, n6, small_lt (by rw [vr_len]; omega), ?_⟩
      rw [vr_snoc]
      have mB : Mut H6 [nl] := Mut.one (.inl ⟨_, n6⟩)
      have bB : But [nl] H6 (upd H6 nl (.lst (vr (na ++ [ad])))) := But.upd (But.refl _) (by simp)
      have s7 := s6.mut (o := .lst (vr (na ++ [ad]))) hnl0
      have n7 : upd H6 nl (.lst (vr (na ++ [ad]))) nl = _ := upd_same
      have na7 := TupsAt.snoc (bB.tup mB hnat) (bB.tups mB na6)
      have p7 := bB _ _ (by simpa using Ne.symm xnp) p6
      have pb7 := bB.tups mB pb6
      have b7 := bB _ _ (by simpa using Ne.symm xnb) b6
      generalize upd H6 nl (.lst (vr (na ++ [ad]))) = H7 at s7 n7 na7 p7 pb7 b7 ⊢
      -- pairs.append
      have val : ∀ z, z = r.i ∨ z = r.j → valV (putK kvs (Sum.inl (y : Int)) (.int ((t.axioms.length + i : Nat) : Int))) (Sum.inl (z : Int)) = some (.int ((toOf t l z : Nat) : Int)) := by
        intro z hz
        rcases hfrom z hz with ⟨z1, z2⟩ | ⟨m, z1, z2, z3, z4⟩
        · rw [z2]
          exact hg2.ax z z1
        · rw [z4]
          exact hg2.rw m z (by omega) z2
      refine ⟨_, rfl, .inl ⟨rfl, _, SqL.of p7⟩, ?_⟩
      refine ⟨_, rfl, _, rfl, bd, .int ((toOf t l r.i : Nat) : Int), rfl, by rw [← val r.i (.inl rfl)]; exact DGet.k (k := Sum.inl (r.i : Int)) b7, ?_⟩
      refine ⟨_, rfl, _, rfl, bd, .int ((toOf t l r.j : Nat) : Int), rfl, by rw [← val r.j (.inr rfl)]; exact DGet.k (k := Sum.inl (r.j : Int)) b7, small_size (by simp), fun pt hpt => ?_⟩
      have s8 : Same H7 (upd H7 pt (.tup [.int ((toOf t l r.i : Nat) : Int), .int ((toOf t l r.j : Nat) : Int)])) := Same.new hpt
      have hpt8 : upd H7 pt (.tup [.int ((toOf t l r.i : Nat) : Int), .int ((toOf t l r.j : Nat) : Int)]) pt = _ := upd_same
      generalize upd H7 pt (.tup [.int ((toOf t l r.i : Nat) : Int), .int ((toOf t l r.j : Nat) : Int)]) = H8 at s8 hpt8 ⊢
      have p8 := s8 _ _ p7
      refine ⟨pl, _, _, rfl, rfl, p8, small_lt (by rw [vr_len]; omega), ?_⟩
      rw [vr_snoc]
      have mC : Mut H8 [pl] := Mut.one (.inl ⟨_, p8⟩)
      have bC : But [pl] H8 (upd H8 pl (.lst (vr (pb ++ [pt])))) := But.upd (But.refl _) (by simp)
      refine ⟨_, _, _, _, na ++ [ad], pb ++ [pt], rfl, (s7.trans s8).mut hpl0, bC _ _ (by simpa using xnp) (s8 _ _ n7), ?_, upd_same, ?_, bC _ _ (by simpa using Ne.symm xpb) (s8 _ _ b7), hg2⟩
      · rw [take_more hy, List.map_append (f := fun y => (keptRow t l y).name), ← List.append_assoc, List.map_append]
        exact bC.tups mC (TupsAt.same s8 na7)
      · rw [take_more hy, List.map_append]
        refine TupsAt.snoc (bC.tup mC ?_) (bC.tups mC (TupsAt.same s8 pb7))
        have e9 : pr (keptRow t l y) = [((toOf t l r.i : Nat) : Int), ((toOf t l r.j : Nat) : Int)] := by rw [hkr]; rfl
        show SqT K H8 pt (vis (pr (keptRow t l y)))
        rw [e9]
        exact SqT.of hpt8
    · rintro σ' H' ⟨v6, v7, v8, kvs, na, pb, rfl, s5, hn5, hna5, hp5, hpb5, hb5, hg⟩
      rw [vn_len, List.take_length] at hna5 hpb5
      obtain ⟨pok, prw⟩ := SP.pruned_ok ok his
      have hT5 := hT.same s5
      obtain ⟨as5, a1, a2, a3⟩ := hT5.axs
      refine ⟨_, rfl, _, rfl, x, _, dx, _, _, rfl, hT5.at_, cP, nF, lk_formulas _ _ _ _ _ _, _, rfl, x, _, dx, _, _, rfl, hT5.at_, cP, nA, lk_axioms _ _ _ _ _ _, _, rfl, ?_⟩
      refine sl_take a1 a2 fun af haf => ?_
      have s6 : Same H' (upd H' af (.lst (vr (as5.take t.axioms.length)))) := Same.new haf
      have haf6 : upd H' af (.lst (vr (as5.take t.axioms.length))) af = _ := upd_same
      generalize upd H' af (.lst (vr (as5.take t.axioms.length))) = H6 at s6 haf6 ⊢
      have hT6 := hT5.same s6
      have s56 := s5.trans s6
      refine ⟨_, rfl, _, rfl, x, _, dx, _, _, rfl, hT6.at_, cP, nG, lk_goals _ _ _ _ _ _, ?_⟩
      intro xo dxo hxo hdxo hne
      have s7 : Same H6 (upd (upd H6 dxo (.own xo)) xo (.ins (He.ga K "ProofText") dxo [])) := (Same.new hdxo).mut hxo
      have s67 := s6.trans s7
      have s17 := s56.trans s7
      refine ⟨xo, dxo, nl, af, pl, gl, pruned t is, as5.take t.axioms.length, rfl, upd_same, pok, ⟨⟨na, SqL.of (s67 _ _ hn5), ?_⟩, ⟨pb, SqL.of (s67 _ _ hp5), ?_⟩, (hT.same s17).parts.gl⟩, SqL.of (s7 _ _ haf6), a3.same s67, fun H8 b8 ⟨fo8, st8, hI8, _, _⟩ => ⟨rfl, ?_⟩⟩
      · have e : nms (pruned t is) = t.axioms.map (fun a => a.name) ++ (rowsOf t l).map fun y => (keptRow t l y).name := by
          show t.axioms.map (fun a => a.name) ++ (pruned t is).rows.map _ = _
          rw [prw, List.map_map]
          rfl
        rw [e]
        exact TupsAt.same s67 hna5
      · rw [prw, List.map_map]
        exact TupsAt.same s67 hpb5
      · exact k H8 xo (But.cutS b8 s17 (s56.free hxo)).same ⟨dxo, nl, pl, gl, fo8, st8, hI8⟩
/-- shortened(text) -/
def sp_shortened (K : PySem.W.Frag) : Sp := fun vs H Q _ => ∃ (x : Addr) (t : Text_), vs = [.ref x] ∧ TextAt K H x t ∧ ∀ H' p, Same H H' → TextAt K H' p (shorten t) → Q (.ref p) H'
abbrev N_shortened : List Str := ["text", "short"]
theorem sc_shortened : FnScope N_shortened ["text"] (defScope s_shortened) := ⟨rfl, rfl, rfl, by decide +kernel, rfl, by decide +kernel, by decide +kernel⟩
theorem g_shortened (T : Tx K mg) : GFn P w K mg base CX0 12 "shortened" ["text"] (sp_shortened K) := by
  have g_merged : GFn P w K mg base CX0 11 "merged" ["text"] (sp_merged K) := g_merged T
  have g_kept : GFn P w K mg base CX0 11 "kept" ["text", "rows"] (sp_kept K) := g_kept T
  have g_needed : GFn P w K mg base CX0 2 "needed" ["text", "numbers"] (sp_needed K) := g_needed T
  have g_targets : GFn P w K mg base CX0 4 "targets" ["text"] (sp_targets K) := g_targets T
  refine gfn0 (f_shortened T) (t_shortened T) sc_shortened (fun _ _ _ _ _ _ us hl => match us, hl with | [_], _ => rfl) (fun vs H Q E h => ?_) (fun f cdv A outer s H vs Q E hr h => ⟨_, (pss_cons (ps_set (i := 1) sc_shortened.nd rfl (Or.inl rfl) (pe_fn g_merged (hr.mono (by omega)) pass0 (pa_cons (pv 0) pa_nil1)))
  (pss_one (ps_ret (pe_fn g_kept (hr.mono (by omega)) pass0 (pa_cons (pv 1) (pa_cons (pe_fn g_needed (hr.mono (by omega)) pass0 (pa_cons (pv 1) (pa_cons (pe_fn g_targets (hr.mono (by omega)) pass0 (pa_cons (pv 1) pa_nil1)) pa_nil1))) pa_nil1)))))), ?_⟩)
  · obtain ⟨x, t, rfl, _⟩ := h
    rfl
  · obtain ⟨x, t, rfl, hT, k⟩ := h
    refine ⟨_, rfl, x, t, rfl, hT, fun H1 p s1 hp => ?_⟩
    refine ⟨_, rfl, _, rfl, _, rfl, p, merged t, rfl, hp, fun H2 q s2 fq hq => ?_⟩
    refine ⟨p, q, merged t, targetItems (merged t), rfl, hp.same s2, SqL.of hq, fun z hz => targetItems_lt hz, fun H3 r s3 fr hr => ?_⟩
    exact ⟨p, r, merged t, targetItems (merged t), targetItems (merged t), rfl, (hp.same s2).same s3, SqL.of hr, fun k => Iff.rfl, fun H4 u s4 hu => k H4 u (((s1.trans s2).trans s3).trans s4) hu⟩
end SPW
end
section
set_option Elab.async false
set_option linter.all false
set_option maxRecDepth 100000
set_option maxHeartbeats 4000000
namespace SPW
/-! ### an own exception over Exception whose __init__ is walked as a def -/
section
open PySem PySem.Spec PySem.W PySem.Calls PyProof.Rows PySem.HandSPX
open Builtin Builtin.ObjectAttr
abbrev tlE : List Value := [.type "Exception", .type "BaseException", .type "object"]
theorem mroE_has {K : W.Frag} {C : Addr} {cd : ClassData} {bm : List Value} (hcd : W.clsIn K C = some cd) (hm : cd.mro = .ref C :: bm) (ht : W.excTail tlE bm = true) (X : String) (hb : tlE.contains (.type X) = true) : W.mroIn K C (.type X) = some true := by
  unfold W.mroIn
  rw [hcd, Option.bind_some, hm, if_neg (show ¬ (List.isEmpty (Value.ref C :: bm) = true) from Bool.false_ne_true)]
  congr 1
  rw [List.contains_cons, W.excTail_contains X bm ht, hb, Bool.or_true]
variable {prog : Program} {w : World} {A : Around} {R : Result → Shared → Prop} {hp : Heap} {g : Array GenState} {d : Drawn} {t : Nat} {os : OsState}
theorem osaE {K : W.Frag} {name : Str} {tk : Tok} {v : Value} {x C : Addr} {ox : Obj} {od : Option Obj} {cd : ClassData} {bm : List Value}
    (X : K.In hp) (I : W.InstAt hp x ox C od) (hcd : W.clsIn K C = some cd) (hm : cd.mro = .ref C :: bm) (ht : W.excTail tlE bm = true) (ha : W.findIn K (.ref C) name = some none)
    (hq : wpAny (model prog w) A.in1 (storeInOwnDict (.ref x) (.ref C) (.str name tk) name v false)
      (fun fin s' => match fin with | .done f => R (.ok f) s' | .again c' => c'.quiet = true ∧ codeAny (model prog w) A c' R s') (fun e s' => R (.error e) s') ⟨hp, g, d, t, os⟩) :
    codeAny (model prog w) A (.call (.builtin "object.__setattr__") ⟨[.ref x, .str name tk, v], []⟩) R ⟨hp, g, d, t, os⟩ := by
  have SF := F.store_object
  have sub : W.Looks (model prog w) hp (isInstance (.ref x) (.type "object")) true := I.type.andThen (W.looks_mroIn X (mroE_has hcd hm ht "object" (by decide +kernel)))
  refine codeAny_call_builtin SF.slot.plain SF.entry (@W.check_slot (model prog w) _ _ ⟨hp, g, d, t, os⟩ "object.__setattr__" "object" "__setattr__" (.ref x) [.str name tk, v] [] _ SF.kind SF.split sub (SF.args (.ref x) (.str name tk) v) ?_)
  have hmr : W.Looks (model prog w) hp (mroOf (.ref C)) cd.mro := (W.looks_clsIn X hcd).andThen .now
  have L3 : W.Looks (model prog w) hp (storeTaker? none) none := .now
  have hpass : refuseLoop (.ref x) "__setattr__" cd.mro = pure () := by
    rw [hm, refuseLoop_ref]
    exact W.excTail_pass _ (F.store_Exception.passes _) bm ht
  rw [W.osa_eq, refuse_eq]
  refine wpAny_bind (wpAny_bind (I.type.at (wpAny_bind (hmr.at ?_))))
  rw [hpass]
  refine wpAny_pure (wpAny_bind (I.type.at (wpAny_bind ((W.looks_findIn X ha).at (wpAny_bind (L3.at ?_))))))
  exact hq
theorem osaE_new {K : W.Frag} {name : Str} {tk : Tok} {v : Value} {x C : Addr} {fv : Array Value} {cd : ClassData} {bm : List Value}
    (X : K.In hp) (hx : hp.get? x = some { cls := .ref C, data := .fields fv }) (hcd : W.clsIn K C = some cd) (hm : cd.mro = .ref C :: bm) (ht : W.excTail tlE bm = true) (hh : cd.hasDict = true) (ha : W.findIn K (.ref C) name = some none)
    (hq : ∀ h' tk' dx, (∀ b o, b ≠ x → hp.get? b = some o → h'.get? b = some o) → hp.objs.size ≤ dx → dx ≠ x → h'.get? x = some { cls := .ref C, dict := some dx, data := .fields fv } →
      h'.Ns1 dx (fun y => if y = name then some v else none) → R (.ok (.ret .none)) ⟨h', g, d, tk', os⟩) :
    codeAny (model prog w) A (.call (.builtin "object.__setattr__") ⟨[.ref x, .str name tk, v], []⟩) R ⟨hp, g, d, t, os⟩ := by
  have I : W.InstAt hp x { cls := .ref C, data := .fields fv } C none := ⟨hx, rfl, rfl, trivial⟩
  have hxs : x ≠ hp.objs.size := Nat.ne_of_lt (Heap.lt_size hx)
  refine osaE X I hcd hm ht ha ?_
  have hcls : W.Looks (model prog w) hp (classData C) cd := W.looks_clsIn X hcd
  obtain ⟨nm, bs, mro, ns, qn, hd, sn, sb, ab, col, del⟩ := cd
  dsimp only at hh
  subst hh
  unfold storeInOwnDict ownDictForStores
  repeat (first | with_reducible refine HandSPX.store_in_new ?_ ?_ | with_reducible refine wpAny_loadPart_at hx ?_ | with_reducible refine hcls.at ?_ | wp_step)
  · exact ⟨_, #[], _, (Heap.get?_update_ne _ _ _ _ hxs.symm).trans (Heap.get?_push_at rfl rfl), rfl, fun e he => absurd he (by simp), fun _ => rfl⟩
  · intro h' tk' hn' hs
    have hx₁ : (hp.push { cls := .type "dict", data := .dict #[] }).get? x = some { cls := .ref C, data := .fields fv } := Heap.get?_push_of_some _ hx
    refine hq h' tk' hp.objs.size (fun b o hb ho => ?_) (Nat.le_refl _) hxs.symm ?_ hn'
    · exact (hs.2 b (Nat.ne_of_lt (Heap.lt_size ho))).trans ((Heap.get?_update_ne _ _ _ _ hb).trans (Heap.get?_push_of_some _ ho))
    · exact (hs.2 x hxs).trans (Heap.get?_update_self _ hx₁ rfl)
theorem osaE_old {K : W.Frag} {name : Str} {tk : Tok} {v : Value} {x C dx : Addr} {fv : Array Value} {cd : ClassData} {bm : List Value} {m0 : Str → Option Value} {nl : List Str}
    (X : K.In hp) (hx : hp.get? x = some { cls := .ref C, dict := some dx, data := .fields fv }) (hns : hp.Ns1 dx m0) (hw : Within m0 nl) (hz : nl.length ≤ 1000) (hcd : W.clsIn K C = some cd) (hm : cd.mro = .ref C :: bm) (ht : W.excTail tlE bm = true) (hh : cd.hasDict = true)
    (ha : W.findIn K (.ref C) name = some none)
    (hq : ∀ h' tk', (∀ b o, b ≠ dx → hp.get? b = some o → h'.get? b = some o) → h'.Ns1 dx (fun y => if y = name then some v else m0 y) → R (.ok (.ret .none)) ⟨h', g, d, tk', os⟩) :
    codeAny (model prog w) A (.call (.builtin "object.__setattr__") ⟨[.ref x, .str name tk, v], []⟩) R ⟨hp, g, d, t, os⟩ := by
  obtain ⟨oD, esD, epD, hoD, hdD, _⟩ := hns.count hw
  have I : W.InstAt hp x { cls := .ref C, dict := some dx, data := .fields fv } C (some oD) := ⟨hx, rfl, rfl, hoD⟩
  refine osaE X I hcd hm ht ha ?_
  have hcls : W.Looks (model prog w) hp (classData C) cd := W.looks_clsIn X hcd
  obtain ⟨nm, bs, mro, ns, qn, hd, sn, sb, ab, col, del⟩ := cd
  dsimp only at hh
  subst hh
  unfold storeInOwnDict ownDictForStores
  repeat (first | with_reducible refine PySem.ESX.store_in_old hns hw hz ?_ | with_reducible refine wpAny_loadPart_at hx ?_ | with_reducible refine hcls.at ?_ | wp_step)
  intro h' tk' hn' hs
  exact hq h' tk' (fun b o hb ho => (hs.2 b hb).trans ho) hn'
theorem typ_EX : typeOf (.type "Exception") = pure (.type "type") := by kernel_rfl
end
end SPW
end
section
set_option Elab.async false
set_option linter.all false
set_option maxRecDepth 100000
set_option maxHeartbeats 4000000
namespace SPW
open PySem PySem.Spec PyProof.Rows L2
/-- what the written part says of the error's class -/
structure FcC (K : PySem.W.Frag) (C : Addr) : Prop where
  cls : ∃ nm q N bs bm sn sub ab col dd k0 k1 k2 k3 k5, K.lookup C = some (excClassObj nm q C N bs bm true sn sub ab col dd k0 k1 k2 k3 k5 "Exception.__new__") ∧ PySem.W.excTail tlE bm = true
  sa : PySem.W.findIn K (.ref C) "__setattr__" = some (some (.builtin "object.__setattr__"))
  exC : PySem.W.subIn K (.ref C) (.type "BaseException") = some true
  tyC : PySem.W.typeIn K (.ref C) = some (.type "type")
  kC : PySem.W.keepIn K (.ref C) = true
theorem fcC_of {K : PySem.W.Frag} {C : Addr} (q : PySem.W.excInitIn K C tlE "Exception.__new__" = true) (hd : PySem.W.hasDictIn K C = true) :
    ∃ nm q N bs bm sn sub ab col dd k0 k1 k2 k3 k5, K.lookup C = some (excClassObj nm q C N bs bm true sn sub ab col dd k0 k1 k2 k3 k5 "Exception.__new__") ∧ PySem.W.excTail tlE bm = true := by
  unfold PySem.W.hasDictIn at hd
  rw [Option.any_eq_true] at hd
  obtain ⟨cd2, hc2, hd2⟩ := hd
  unfold PySem.W.excInitIn at q
  split at q
  · rename_i dd cd sl ho
    split at q
    · rename_i C' bm k0 k1 k2 k3 n k5 hm hs
      simp only [Bool.and_eq_true, beq_iff_eq, Bool.not_eq_true'] at q
      obtain ⟨⟨⟨rfl, rfl⟩, hdel⟩, ht⟩ := q
      have e : cd2 = cd := by
        unfold PySem.W.clsIn at hc2
        rw [ho] at hc2
        exact (Option.some.inj hc2).symm
      subst e
      obtain ⟨nm, bs, mro, ns, qn, hd, sn, sub, ab, col, del⟩ := cd2
      dsimp only at hm hdel hd2
      subst hm hdel hd2
      have hsl : sl = #[k0, k1, k2, k3, some (.builtin "Exception.__new__"), k5] := by
        obtain ⟨l⟩ := sl
        simp only at hs
        rw [hs]
      subst hsl
      exact ⟨nm, qn, ns, bs, bm, sn, sub, ab, col, dd, k0, k1, k2, k3, k5, ho, ht⟩
    · cases q
  · cases q
section
variable {X : Cx} {pins : List (Addr × Obj)} {σ : L2.St} {H : Hp} {s : Shared} {a C dx : Addr} {f : Str} {y : V} {u : Value} {fs : List (Str × V)} {Q : Unit → Shared → Prop} {E : Value → Shared → Prop} {A : Around}
/-- self.f = y, the first one -/
theorem fst_new (T : FcC X.K C) (I : Inv X pins σ H s) (e : H a = some (exo a C none)) (hno : PySem.W.findIn X.K (.ref C) f = some none) (ry : RelV y u)
    (h : ∀ dx s', H dx = none → dx ≠ a → Inv X pins σ (upd (upd H dx (exd dx [(f, y)])) a (exo a C (some dx))) s' → Q () s') : wpAny (model X.prog X.w) A (setAttr (.ref a) f u) Q E s := by
  obtain ⟨nm, q, N, bs, bm, sn, sub, ab, col, dd, k0, k1, k2, k3, k5, hC, hbm⟩ := T.cls
  have hcl : PySem.W.clsIn X.K C = some { name := nm, bases := bs, mro := .ref C :: bm, ns := N, qualname := q, hasDict := true, slotNames := sn, subclasses := sub, abstract := ab, collection := col, hasDel := false } := by unfold PySem.W.clsIn; rw [hC] <;> rfl
  obtain ⟨t1, ho⟩ := exo_at I.hok e
  obtain ⟨hp, g, d, t, os⟩ := s
  refine PySem.W.set_plain I.kIn (ox := { cls := .ref C, dict := none, data := .fields #[.ref t1, .none, .none, .none, .bool false, .none] }) (od := none) ⟨ho, rfl, rfl, trivial⟩ T.sa ?_
  refine osaE_new I.kIn ho hcl rfl hbm rfl hno (fun h' tk' dx k dn dne hx hn => ?_)
  have hnd : H dx = none := I.hok.fresh dn
  have nd : ∀ {b : Addr} {o : Obj}, hp.get? b = some o → b ≠ dx := fun {b o} q => Nat.ne_of_lt (Nat.lt_of_lt_of_le (Heap.lt_size q) dn)
  have na : ∀ {b : Addr}, H b = none → b ≠ a := fun {b} n z => by
    rw [z, e] at n
    cases n
  have Un1 : Un X.fs [] H (upd (upd H dx (exd dx [(f, y)])) a (exo a C (some dx))) hp h' := {
    keep := fun b o q n _ _ => k b o (na n) q
    slot := fun b o q n _ _ => ⟨o.slots, k b o (na n) q⟩
    free := fun b o q n _ => by rw [upd_ne (na n), upd_ne (nd q)]; exact n
    there := fun b o q _ => by
      by_cases hb : b = a
      · exact ⟨_, by rw [hb]; exact hx⟩
      · exact ⟨o, k b o hb q⟩
    tups := fun b xs q => by rw [upd_ne (at_ne e q exo_tup), upd_ne (ne_of_none q hnd)]; exact q
    frzs := fun b o v q => by rw [upd_ne (at_ne e q exo_frz), upd_ne (ne_of_none q hnd)]; exact q
    tbls := fun b ps q => ⟨#[], by rw [upd_ne (at_ne e q exo_tbl), upd_ne (ne_of_none q hnd), q]; simp⟩ }
  refine h dx _ hnd dne (I.un (t' := tk') Un1 fun b o q => ?_)
  by_cases hb : b = a
  · subst hb
    rw [upd_same] at q
    cases q
    exact exo_ok hx
  · rw [upd_ne hb] at q
    by_cases hd : b = dx
    · subst hd
      rw [upd_same] at q
      cases q
      exact exd_ok hn (relO_put (fs := []) ry fun g => True.intro)
    · rw [upd_ne hd] at q
      exact (I.hok b o q).stay (fun c v hc z => k c v (by
          rcases hc with hc | hc
          · rw [hc]
            exact hb
          · exact at_ne e hc exo_own) z)
        (fun c hc => by rw [upd_ne (at_ne e hc exo_own), upd_ne (ne_of_none hc hnd)]; exact hc) (fun c xs hc => by rw [upd_ne (at_ne e hc exo_tup), upd_ne (ne_of_none hc hnd)]; exact hc)
/-- self.f = y, a further one -/
theorem fst_old (T : FcC X.K C) (I : Inv X pins σ H s) (e : H a = some (exo a C (some dx))) (ed : H dx = some (exd dx fs)) (hl : fs.length ≤ 900) (hno : PySem.W.findIn X.K (.ref C) f = some none) (ry : RelV y u)
    (h : ∀ s', Inv X pins σ (upd H dx (exd dx ((f, y) :: fs))) s' → Q () s') : wpAny (model X.prog X.w) A (setAttr (.ref a) f u) Q E s := by
  obtain ⟨nm, q, N, bs, bm, sn, sub, ab, col, dd, k0, k1, k2, k3, k5, hC, hbm⟩ := T.cls
  have hcl : PySem.W.clsIn X.K C = some { name := nm, bases := bs, mro := .ref C :: bm, ns := N, qualname := q, hasDict := true, slotNames := sn, subclasses := sub, abstract := ab, collection := col, hasDel := false } := by unfold PySem.W.clsIn; rw [hC] <;> rfl
  obtain ⟨t1, ho⟩ := exo_at I.hok e
  obtain ⟨mA, hns, rel⟩ := exd_at I.hok ed
  have hw := within_of rel
  obtain ⟨hp, g, d, t, os⟩ := s
  obtain ⟨oD, _, _, hoD, _, _⟩ := hns.count hw
  refine PySem.W.set_plain I.kIn (ox := { cls := .ref C, dict := some dx, data := .fields #[.ref t1, .none, .none, .none, .bool false, .none] }) (od := some oD) ⟨ho, rfl, rfl, hoD⟩ T.sa ?_
  refine osaE_old I.kIn ho hns hw (by rw [List.length_map]; omega) hcl rfl hbm rfl hno (fun h' tk' k hn => ?_)
  have hd : ∃ o, h'.get? dx = some o := by
    obtain ⟨o, _, _, e', _⟩ := hn
    exact ⟨o, e'⟩
  exact h _ (I.write (t' := tk') (x := dx) (e := dx) (o := exd dx ((f, y) :: fs)) (by rw [ed]; exact True.intro) (.inl rfl) k hd (exd_ok hn (relO_put ry rel)))
/-- Exception.__init__(self, ..): nothing of it is told -/
theorem finit_ok {us : List Value} {Q : Value → Shared → Prop} (T : FcC X.K C) (I : Inv X pins σ H s) (e : H a = some (exo a C none)) (hl : us.length ≤ sizeLine) (h : ∀ s', Inv X pins σ H s' → Q .none s') :
    wpAny (model X.prog X.w) A (call (.builtin "Exception.__init__") (.ref a :: us)) Q E s := by
  obtain ⟨nm, q, N, bs, bm, sn, sub, ab, col, dd, k0, k1, k2, k3, k5, hC, hbm⟩ := T.cls
  obtain ⟨t1, ho⟩ := exo_at I.hok e
  obtain ⟨hp, g, d, t, os⟩ := s
  refine wpAny_call (PySem.HandSPX.init_base PySem.F.excBase_Exception (fun Y => PySem.W.excTail_contains Y bm hbm) (I.kIn _ _ hC) ho hl fun h' t2 k hx => ?_)
  have J := I.write (t' := t) (x := a) (e := a) (o := exo a C none) (by rw [e]; exact True.intro) (.inl rfl) k ⟨_, hx⟩ (exo_ok hx)
  have eu : upd H a (exo a C none) = H := by
    funext b
    by_cases hb : b = a
    · rw [hb, upd_same, e]
    · rw [upd_ne hb]
  rw [eu] at J
  exact h _ J
end
/-- Exception.__init__(self, ..) -/
def tExI (K : PySem.W.Frag) (ta : TA) : TE := fun σ H Q => ta σ H fun vs H1 => ∃ (a C : Addr) (ws : List V), vs = .ref a :: ws ∧ ws.length ≤ 1000 ∧ FcC K C ∧ H1 a = some (exo a C none) ∧ Q .non H1
/-- self.f = e -/
def tFst (K : PySem.W.Frag) (f : Str) (to te : TE) : TS := fun D σ H => te σ H fun y H1 => to σ H1 fun x H2 => ∃ a C : Addr, x = .ref a ∧ FcC K C ∧ PySem.W.findIn K (.ref C) f = some none ∧
  ((H2 a = some (exo a C none) ∧ ∀ dx, H2 dx = none → dx ≠ a → D.nx σ (upd (upd H2 dx (exd dx [(f, y)])) a (exo a C (some dx)))) ∨
    ∃ (dx : Addr) (fs : List (Str × V)), H2 a = some (exo a C (some dx)) ∧ H2 dx = some (exd dx fs) ∧ fs.length ≤ 900 ∧ D.nx σ (upd H2 dx (exd dx ((f, y) :: fs))))
section
variable {X : Cx} {o e : Expr} {es : List Expr} {to te : TE} {ta : TA} {f : Str} {p p' p1 p2 pos : Pos}
theorem vE (K : PySem.W.Frag) : PySem.W.findCls K (.type "Exception") (.type "type") "__init__" = some (.val (.builtin "Exception.__init__")) := by kernel_rfl
theorem pe_exinit (K : PySem.W.Frag) {pl : Sem Bool} (hg : Gl X "Exception") (hm : X.mg "Exception" = none) (ha : PA X (e :: es) ta)
    (hc : eval (.Call (.Attribute (.Name "Exception" p1) "__init__" p2) (e :: es) [] pos) X.env = (do
      let ov ← eval (.Name "Exception" p1) X.env
      standAt p2.atName
      let (f, first) ← holding [ov] (getMethod ov "__init__" pl)
      callWith pos f first (backTo pos (starEach (e :: es) X.env)) (backToKw pos (keywordEach [] X.env))) := by rfl)
    (he : starEach (e :: es) X.env = (false, eval e X.env) :: starEach es X.env := by rfl) (hpl : (backTo pos (starEach es X.env)).any (·.1) = false := by rfl) (hK : X.K = K := by rfl) :
    PE X (.Call (.Attribute (.Name "Exception" p1) "__init__" p2) (e :: es) [] pos) (tExI K ta) := by
  subst hK
  refine ⟨fun pins s σ H Q I h => ?_⟩
  refine PySem.W.methodCall_KW (ld_blt I hg hm PyProof.Rows.Boot.«Exception» ?_ (by decide) (by decide)) hc
  obtain ⟨m, fr⟩ := I.fr
  refine PySem.W.method_type fr I.ok.mod.kin typ_EX (by decide +kernel) (vE X.K) (by decide +kernel) ?_
  show wpAny _ _ (callWith pos (Value.builtin "Exception.__init__") [] (backTo pos (starEach (e :: es) X.env)) []) _ _ _
  refine PyProof.Rows.callWith_method1 (thn (ha.run pos pins _ σ H _ (I.tok _) h) fun us s1 ⟨vs, H1, I1, r1, a, C, ws, ev, hl, T, ea, q⟩ => ?_) he hpl
  subst ev
  cases r1 with
  | @cons _ u0 _ ur ra rw' =>
    obtain rfl : u0 = Value.ref a := ra
    have hlen : ur.length ≤ sizeLine := by
      rw [← Paired.length rw', sizeLine_eq]
      omega
    exact finit_ok T I1 ea hlen fun s' J => ⟨.non, H1, J, rfl, q⟩
theorem ps_fst (K : PySem.W.Frag) (ho : PE X o to) (he : PE X e te) (hs : swapsWith e (some (.Attribute o f p')) pos.line X.env = pure false := by rfl) (hK : X.K = K := by rfl) : PS X (.Assign [.Attribute o f p'] e pos) (tFst K f to te) := by
  subst hK
  refine ⟨fun pins s σ H D I h => ?_⟩
  refine plainObj_wpAny_Assign_Attribute (thn (he.run pins s σ H _ I h) fun v s1 ⟨y, H1, I1, r1, q1⟩ => thn (ho.run pins s1 σ H1 _ I1 q1) fun u s2 ⟨x, H2, I2, r2, a, C, ex, T, hno, q⟩ => ?_) hs
  subst ex
  obtain rfl : u = Value.ref a := r2
  rcases q with ⟨ea, q⟩ | ⟨dx, fs, ea, ed, hl, q⟩
  · exact fst_new T I2 ea hno r1 fun dx s' n ne J => ⟨σ, _, J, q dx n ne⟩
  · exact fst_old T I2 ea ed hl hno r1 fun s' J => ⟨σ, _, J, q⟩
theorem pmk_fc {CX : CXT} {x : Str} {C fI : Addr} {k : Nat} {fd : FuncData} {ps : List Str} {sp : Sp} {ds : List Value} {dvs : List V} (T : FcC X.K C) (iC : PySem.W.findIn X.K (.ref C) "__init__" = some (some (.ref fI))) (tI : PySem.W.typeIn X.K (.ref fI) = some (.type "function"))
    (F1 : FnOk X.prog X.w X.K X.mg X.base CX k fI fd ps sp) (hr : Room (k + 1) X.A) (hb : Binds X.K fd ps ds) (hd : Vals dvs ds) (hx : Passes CX X (fun _ _ _ => False)) (hg : Gl X x) (hm : X.mg x = some (.ref C)) (ha : PA X (e :: es) ta)
    (hdb : (x == ("__debug__" : Str)) = false := by decide) (he : starEach (e :: es) X.env = (false, eval e X.env) :: starEach es X.env := by rfl) (hpl : (backTo pos (starEach es X.env)).any (·.1) = false := by rfl) :
    PMk X (.Call (.Name x p) (e :: es) [] pos) (tMkO C sp dvs ta) := by
  intro pins s σ H Q I h
  obtain ⟨nm, q, N, bs, bm, sn, sub, ab, col, dd, k0, k1, k2, k3, k5, hC, hbm⟩ := T.cls
  refine wpAny_Call_Name_kw (ld_glob I hg hm ?_ hdb)
  refine PySem.W.callWith_K (h₀ := X.base) I.ok.mod.kin T.kC (thn (ha.run pos pins s σ H _ I h) fun us s1 ⟨vs, H1, I1, r1, hz, q1⟩ => ⟨I1.kIn, ?_⟩) he hpl
  show wpAny _ _ (call (.ref C) us) _ _ _
  obtain ⟨hp, g, dr, tk, os⟩ := s1
  have hsz : hp.objs.size ≤ hp.objs.size + 1 := Nat.le_succ _
  have hn : H1 (hp.objs.size + 1) = none := I1.hok.fresh hsz
  have hq := q1 (hp.objs.size + 1) hn
  have kk : ∀ b o, hp.get? b = some o → ((hp.push (PySem.W.kdv_tup us)).push (PySem.HandSPX.excO C hp.objs.size)).get? b = some o := fun b o e => Heap.get?_push_of_some _ (Heap.get?_push_of_some _ e)
  have hget : ((hp.push (PySem.W.kdv_tup us)).push (PySem.HandSPX.excO C hp.objs.size)).get? (hp.objs.size + 1) = some (PySem.HandSPX.excO C hp.objs.size) := by heap_get
  have I2 : Inv X pins σ (upd H1 (hp.objs.size + 1) (exo (hp.objs.size + 1) C none)) ⟨(hp.push (PySem.W.kdv_tup us)).push (PySem.HandSPX.excO C hp.objs.size), g, dr, tk, os⟩ :=
    I1.laid (t' := tk) (a := hp.objs.size + 1) (o := exo (hp.objs.size + 1) C none) (h' := (hp.push (PySem.W.kdv_tup us)).push (PySem.HandSPX.excO C hp.objs.size)) kk hsz (exo_ok hget)
  have r2 : Vals (V.ref (hp.objs.size + 1) :: (vs ++ dvs)) (Value.ref (hp.objs.size + 1) :: (us ++ ds)) := .cons rfl (r1.append hd)
  have hl : (Value.ref (hp.objs.size + 1) :: us ++ ds).length = ps.length := by
    have e := r2.length
    rw [F1.len _ _ _ _ hq] at e
    exact e.symm
  have hus : us.length ≤ sizeLine := by
    rw [← Paired.length r1, sizeLine_eq]
    omega
  refine wpAny_call (PySem.HandSPX.call_own PySem.F.excBase_Exception (fun Y => PySem.W.excTail_contains Y bm hbm) (I1.kIn _ _ hC) (PySem.W.looks_findIn I1.kIn iC) (fun self => PySem.W.bind_fn I1.kIn self tI) hus
    (codeAny_mono (F1.run _ X.stack _ _ ⟨Value.ref (hp.objs.size + 1) :: us, []⟩ (Value.ref (hp.objs.size + 1) :: (us ++ ds)) _ _ (fun _ _ _ => False) (hr.make C us []) (I2.env0.make C us []) (hb _ (Value.ref (hp.objs.size + 1) :: us) I2.kIn hl) r2 hq) fun r s' hq' => ?_))
  cases r with
  | error er => exact hx pins σ _ _ er s' I2 hq'
  | ok fl =>
    cases fl with
    | ret u =>
      obtain ⟨v, H2, os2, bare2, un2, hok2, rv, ev, d, fs, ea, ed, hd1, q2⟩ := hq'
      subst ev
      obtain ⟨h2, g2, d2, t2, os'⟩ := s'
      exact ⟨rv, mk_end (raises_own T.exC T.tyC) I1 hsz kk un2 hok2 os2 bare2 ea ed hd1 q2⟩
    | next => exact False.elim hq'
    | brk => exact False.elim hq'
    | cont => exact False.elim hq'
end
end SPW
end
section
set_option Elab.async false
set_option linter.all false
set_option maxRecDepth 100000
set_option maxHeartbeats 4000000
namespace SPW
open PySem PySem.Spec PyProof.Rows L2
section
variable {K : PySem.W.Frag} {mg : Str → Option Value}
theorem fault_facts (T : Tx K mg) : PySem.W.excInitIn K (He.ga K "Fault") exTail "Exception.__new__" = true ∧ xfB K (He.ga K "Fault") = true
    ∧ PySem.W.findIn K (.ref (He.ga K "Fault")) "__setattr__" = some (some (.builtin "object.__setattr__")) ∧ PySem.W.typeIn K (.ref (He.ga K "Fault")) = some (.type "type") ∧ PySem.W.keepIn K (.ref (He.ga K "Fault")) = true
    ∧ PySem.W.exmOne K (.ref (He.ga K "Fault")) (.ref (He.ga K "Fault")) = some true ∧ PySem.W.findIn K (.ref (He.ga K "Fault")) "code" = some none ∧ PySem.W.findIn K (.ref (He.ga K "Fault")) "place" = some none
    ∧ PySem.W.findIn K (.ref (He.ga K "Fault")) "__init__" = some (some (.ref (He.ma K (He.ga K "Fault") "__init__"))) ∧ PySem.W.typeIn K (.ref (He.ma K (He.ga K "Fault") "__init__")) = some (.type "function") := by
  have h := T.c.more
  unfold ex at h
  have h := (Bool.and_eq_true_iff.mp h).1
  unfold faultB at h
  obtain ⟨h1, h⟩ := Bool.and_eq_true_iff.mp h
  obtain ⟨_, h⟩ := Bool.and_eq_true_iff.mp h
  obtain ⟨h3, h⟩ := Bool.and_eq_true_iff.mp h
  obtain ⟨h4, h⟩ := Bool.and_eq_true_iff.mp h
  obtain ⟨h5, h⟩ := Bool.and_eq_true_iff.mp h
  obtain ⟨h6, h⟩ := Bool.and_eq_true_iff.mp h
  obtain ⟨h7, h⟩ := Bool.and_eq_true_iff.mp h
  obtain ⟨h8, h⟩ := Bool.and_eq_true_iff.mp h
  obtain ⟨h9, h⟩ := Bool.and_eq_true_iff.mp h
  obtain ⟨h10, h⟩ := Bool.and_eq_true_iff.mp h
  obtain ⟨_, h11⟩ := Bool.and_eq_true_iff.mp h
  exact ⟨h1, h3, He.eqO_ok h4, of_decide_eq_true h5, h6, of_decide_eq_true h7, He.eqO_ok h8, He.eqO_ok h9, He.eqO_ok h10, of_decide_eq_true h11⟩
theorem fault_xf (T : Tx K mg) : XfC K (He.ga K "Fault") := xfB_ok (fault_facts T).2.1
theorem fault_fc (T : Tx K mg) : FcC K (He.ga K "Fault") := by
  obtain ⟨h1, h2, h3, h4, h5, _⟩ := fault_facts T
  exact ⟨fcC_of h1 (xfB_ok h2).hdC, h3, (xfB_ok h2).exC, h4, h5⟩
theorem fault_nc (T : Tx K mg) : PySem.W.findIn K (.ref (He.ga K "Fault")) "code" = some none := (fault_facts T).2.2.2.2.2.2.1
theorem fault_np (T : Tx K mg) : PySem.W.findIn K (.ref (He.ga K "Fault")) "place" = some none := (fault_facts T).2.2.2.2.2.2.2.1
/-- Fault.__init__(self, code, place) -/
def sp_Fault_init (K : PySem.W.Frag) : Sp := fun vs H Q _ => ∃ (a : Addr) (c p : V), vs = [.ref a, c, p] ∧ H a = some (exo a (He.ga K "Fault") none) ∧
  ∀ d, H d = none → d ≠ a → Q .non (upd (upd (upd H d (exd d [("code", c)])) a (exo a (He.ga K "Fault") (some d))) d (exd d [("place", p), ("code", c)]))
abbrev N_Fault_init : List Str := ["self", "code", "place"]
theorem sc_Fault_init : FnScope N_Fault_init ["self", "code", "place"] (defScope s_Fault_init) := ⟨rfl, rfl, rfl, by decide +kernel, rfl, by decide +kernel, by decide +kernel⟩
theorem g_Fault_init {P : Program} {w : World} {base : Heap} (T : Tx K mg) : ∃ fd, Binds K fd ["self", "code", "place"] [] ∧ FnOk P w K mg base CX0 1 (He.ma K (He.ga K "Fault") "__init__") fd ["self", "code", "place"] (sp_Fault_init K) := by
  obtain ⟨fd, F⟩ := f_Fault_init T
  refine ⟨fd, F.bindsN (fun _ _ _ _ _ _ us hl => match us, hl with | [_, _, _], _ => rfl), fn0 F sc_Fault_init (fun vs H Q E h => ?_) (fun f cdv A outer s H vs Q E hr h => ⟨_, (pss_cons (ps_expr (pe_exinit K (by rfl) (t_Exception T) (pa_cons (pv 0) pa_nil1))) (pss_cons (ps_fst K (pv 0) (pv 1)) (pss_one (ps_fst K (pv 0) (pv 2))))), ?_⟩)⟩
  · obtain ⟨a, c, p, rfl, _⟩ := h
    rfl
  · obtain ⟨a, c, p, rfl, ha, k⟩ := h
    have fc := fault_fc T
    refine ⟨_, rfl, a, He.ga K "Fault", [], rfl, by simp, fc, ha, ?_⟩
    refine ⟨_, rfl, _, rfl, a, He.ga K "Fault", rfl, fc, fault_nc T, .inl ⟨ha, fun d hd hda => ?_⟩⟩
    refine ⟨_, rfl, _, rfl, a, He.ga K "Fault", rfl, fc, fault_np T, .inr ⟨d, [("code", c)], upd_same, (upd_ne hda).trans upd_same, by simp, ?_⟩⟩
    exact k d hd hda
/-- an error that flies -/
def FaultAt (K : PySem.W.Frag) (E : XK) (H : Hp) (c p : Int) : Prop := ∀ d H', Same H H' → H' d = some (.xd [("place", .int p), ("code", .int c)]) → E (.ref (He.ga K "Fault")) (some d) H'
end
section
variable {X : Cx} {e : Expr} {es : List Expr} {ta : TA} {p pos : Pos}
theorem pmk_fault {K : PySem.W.Frag} {mg : Str → Option Value} (T : Tx K mg) (hr : Room 2 X.A) (ha : PA X (e :: es) ta) (hK : X.K = K := by rfl) (hM : X.mg = mg := by rfl) (hg : Gl X "Fault" := by rfl)
    (he : starEach (e :: es) X.env = (false, eval e X.env) :: starEach es X.env := by rfl) (hpl : (backTo pos (starEach es X.env)).any (·.1) = false := by rfl) :
    PMk X (.Call (.Name "Fault" p) (e :: es) [] pos) (tMkO (He.ga K "Fault") (sp_Fault_init K) [] ta) := by
  subst hK hM
  obtain ⟨fd, hb, F1⟩ := g_Fault_init (P := X.prog) (w := X.w) (base := X.base) T
  obtain ⟨_, _, _, _, _, _, _, _, h9, h10⟩ := fault_facts T
  exact pmk_fc (fault_fc T) h9 h10 F1 hr hb .nil pass0 hg (t_Fault T) ha (by decide) he hpl
theorem mkF {K : PySem.W.Frag} {H1 : Hp} {c q : Int} {Q : XK} (k : FaultAt K Q H1 c q) : [V.int c, V.int q].length ≤ 1000 ∧ ∀ a, H1 a = none → sp_Fault_init K (.ref a :: ([V.int c, V.int q] ++ [])) (upd H1 a (exo a (He.ga K "Fault") none))
    (fun v H2 => v = .non ∧ ∃ (d : Addr) (fs : List (Str × V)), H2 a = some (exo a (He.ga K "Fault") (some d)) ∧ H2 d = some (exd d fs) ∧ H1 d = none ∧ Q (.ref (He.ga K "Fault")) (some d) (upd (del H2 a) d (.xd fs))) (fun _ _ _ => False) := by
  refine ⟨by simp, fun a ha => ⟨a, _, _, rfl, upd_same, fun d hd hda => ⟨rfl, d, _, ?_, upd_same, ?_, k d _ ?_ upd_same⟩⟩⟩
  · rw [upd_ne (Ne.symm hda)]
    exact upd_same
  · rw [upd_ne hda] at hd
    exact hd
  · intro b u e
    have h1 : b ≠ a := ne_of_none e ha
    have h2 : b ≠ d := ne_of_none e (by rw [upd_ne hda] at hd; exact hd)
    rw [upd_ne h2, del_ne h1, upd_ne h2, upd_ne h1, upd_ne h2, upd_ne h1]
    exact e
end
end SPW
namespace SPW
open PySem PySem.Spec PyProof.Rows L2
theorem passR {X : Cx} {E : XK} (tk : Takes X fun cls d _ H => E cls d H) : Passes (L2.CX X.prog X.w) X E := passes_call tk fun _ _ _ _ h => h
end SPW
end
section
set_option Elab.async false
set_option linter.all false
set_option maxRecDepth 100000
set_option maxHeartbeats 4000000
namespace SPW
open PySem PySem.Spec PyProof.Rows L2
open SP (ni)
open VapcmBase (Bytes isLetter isDigit isBlank decimal numberOf token Tok PTok RESERVED)
variable {P : Program} {w : World} {K : PySem.W.Frag} {mg : Str → Option Value} {base : Heap}
theorem ni_get {b : Bytes} {i : Nat} {c : UInt8} (h : b[i]? = some c) : (ni b)[i]? = some (c.toNat : Int) := by simp [ni, h]
theorem ni_at {b : Bytes} {i : Nat} {c : UInt8} (h : b[i]? = some c) : atI (vis (ni b)) (i : Int) = some (.int (c.toNat : Int)) := vis_at (ni_get h)
/-- is_letter(byte) -/
def sp_is_letter (K : PySem.W.Frag) : Sp := fun vs H Q _ => ∃ (c : UInt8), vs = [.int (c.toNat : Int)] ∧ Q (.bl (isLetter c)) H
abbrev N_is_letter : List Str := ["byte"]
theorem sc_is_letter : FnScope N_is_letter ["byte"] (defScope s_is_letter) := ⟨rfl, rfl, rfl, by decide +kernel, rfl, by decide +kernel, by decide +kernel⟩
theorem g_is_letter (T : Tx K mg) : GFn P w K mg base CX0 1 "is_letter" ["byte"] (sp_is_letter K) := by
  refine gfn0 (f_is_letter T) (t_is_letter T) sc_is_letter (fun _ _ _ _ _ _ us hl => match us, hl with | [_], _ => rfl) (fun vs H Q E h => ?_) (fun f cdv A outer s H vs Q E hr h => ⟨_, (pss_one (ps_ret (pe_or (pe_chain op_le op_le pe_int1 (pv 0) pe_int1) (pe_one (pe_chain op_le op_le pe_int1 (pv 0) pe_int1))))), ?_⟩)
  · obtain ⟨c, rfl, _⟩ := h
    rfl
  · obtain ⟨c, rfl, k⟩ := h
    have fin : ∀ b : Bool, b = isLetter c → Q (.bl b) H := by
      rintro b rfl
      exact k
    unfold VapcmBase.isLetter at fin
    refine ⟨_, rfl, _, _, rfl, rfl, _, rfl, ?_⟩
    by_cases c1 : 65 ≤ c.toNat
    · refine if_true_of (decide_eq_true (by omega)) ?_
      refine ⟨_, _, rfl, rfl, _, rfl, ?_⟩
      by_cases c2 : c.toNat ≤ 90
      · refine if_true_of (decide_eq_true (by omega)) ?_
        exact fin true (by rw [decide_eq_true (show 65 ≤ c.toNat ∧ c.toNat ≤ 90 from ⟨c1, c2⟩)]; rfl)
      · refine if_false_of (decide_eq_false (by omega)) ?_
        refine ⟨_, rfl, _, _, rfl, rfl, _, rfl, ?_⟩
        by_cases c3 : 97 ≤ c.toNat
        · refine if_true_of (decide_eq_true (by omega)) ?_
          refine ⟨_, _, rfl, rfl, fin _ ?_⟩
          rw [decide_eq_false (show ¬ (65 ≤ c.toNat ∧ c.toNat ≤ 90) by omega), Bool.false_or, Bool.eq_iff_iff]
          simp only [decide_eq_true_eq]
          omega
        · refine if_false_of (decide_eq_false (by omega)) ?_
          refine fin _ ?_
          rw [decide_eq_false (show ¬ (65 ≤ c.toNat ∧ c.toNat ≤ 90) by omega), decide_eq_false (show ¬ (97 ≤ c.toNat ∧ c.toNat ≤ 122) by omega)]
          rfl
    · refine if_false_of (decide_eq_false (by omega)) ?_
      refine ⟨_, rfl, if_false_of rfl ?_⟩
      refine ⟨_, rfl, _, _, rfl, rfl, _, rfl, ?_⟩
      refine if_false_of (decide_eq_false (by omega)) ?_
      refine fin _ ?_
      rw [decide_eq_false (show ¬ (65 ≤ c.toNat ∧ c.toNat ≤ 90) by omega), decide_eq_false (show ¬ (97 ≤ c.toNat ∧ c.toNat ≤ 122) by omega)]
      rfl
/-- is_digit(byte) -/
def sp_is_digit (K : PySem.W.Frag) : Sp := fun vs H Q _ => ∃ (c : UInt8), vs = [.int (c.toNat : Int)] ∧ Q (.bl (isDigit c)) H
abbrev N_is_digit : List Str := ["byte"]
theorem sc_is_digit : FnScope N_is_digit ["byte"] (defScope s_is_digit) := ⟨rfl, rfl, rfl, by decide +kernel, rfl, by decide +kernel, by decide +kernel⟩
theorem g_is_digit (T : Tx K mg) : GFn P w K mg base CX0 1 "is_digit" ["byte"] (sp_is_digit K) := by
  refine gfn0 (f_is_digit T) (t_is_digit T) sc_is_digit (fun _ _ _ _ _ _ us hl => match us, hl with | [_], _ => rfl) (fun vs H Q E h => ?_) (fun f cdv A outer s H vs Q E hr h => ⟨_, (pss_one (ps_ret (pe_chain op_le op_le pe_int1 (pv 0) pe_int1))), ?_⟩)
  · obtain ⟨c, rfl, _⟩ := h
    rfl
  · obtain ⟨c, rfl, k⟩ := h
    have fin : ∀ b : Bool, b = isDigit c → Q (.bl b) H := by
      rintro b rfl
      exact k
    unfold VapcmBase.isDigit at fin
    refine ⟨_, rfl, _, _, rfl, rfl, _, rfl, ?_⟩
    by_cases c1 : 48 ≤ c.toNat
    · refine if_true_of (decide_eq_true (by omega)) ?_
      refine ⟨_, _, rfl, rfl, fin _ ?_⟩
      rw [Bool.eq_iff_iff]
      simp only [decide_eq_true_eq]
      omega
    · refine if_false_of (decide_eq_false (by omega)) ?_
      refine fin _ ?_
      rw [decide_eq_false (show ¬ (48 ≤ c.toNat ∧ c.toNat ≤ 57) by omega)]
/-- how far it goes on -/
def tw (p : UInt8 → Bool) (b : Bytes) (i : Nat) : Nat := i + ((b.drop i).takeWhile p).length
theorem tw_stop {p : UInt8 → Bool} {b : Bytes} {i : Nat} {c : UInt8} (h : b[i]? = some c) (hp : p c = false) : tw p b i = i := by
  have hlt := (List.getElem?_eq_some_iff.mp h).1
  unfold tw
  rw [List.drop_eq_getElem_cons hlt, show b[i] = c by rw [List.getElem?_eq_getElem hlt] at h; exact Option.some.inj h, List.takeWhile_cons, hp]
  simp
theorem tw_go {p : UInt8 → Bool} {b : Bytes} {i : Nat} {c : UInt8} (h : b[i]? = some c) (hp : p c = true) : tw p b i = tw p b (i + 1) := by
  have hlt := (List.getElem?_eq_some_iff.mp h).1
  unfold tw
  rw [List.drop_eq_getElem_cons hlt, show b[i] = c by rw [List.getElem?_eq_getElem hlt] at h; exact Option.some.inj h, List.takeWhile_cons, hp]
  simp
  omega
theorem tw_end {p : UInt8 → Bool} {b : Bytes} {i : Nat} (h : b.length ≤ i) : tw p b i = i := by
  unfold tw
  rw [List.drop_eq_nil_of_le h]
  simp
theorem tw_le {p : UInt8 → Bool} {b : Bytes} {i : Nat} (h : i ≤ b.length) : i ≤ tw p b i ∧ tw p b i ≤ b.length := by
  unfold tw
  have := (List.takeWhile_sublist p (l := b.drop i)).length_le
  rw [List.length_drop] at this
  omega
def sp_end (p : UInt8 → Bool) (K : PySem.W.Frag) : Sp := fun vs H Q _ => ∃ (a : Addr) (b : Bytes) (i : Nat), vs = [.ref a, .int (i : Int)] ∧ SqL K H a (vis (ni b)) ∧ i ≤ b.length ∧ b.length ≤ 100000 ∧ Q (.int ((tw p b i : Nat) : Int)) H
/-- remark_end(letters, start) -/
abbrev N_remark_end : List Str := ["letters", "start", "at"]
theorem sc_remark_end : FnScope N_remark_end ["letters", "start"] (defScope s_remark_end) := ⟨rfl, rfl, rfl, by decide +kernel, rfl, by decide +kernel, by decide +kernel⟩
theorem g_remark_end (T : Tx K mg) : GFn P w K mg base CX0 1 "remark_end" ["letters", "start"] (sp_end (fun c => c != 10) K) := by
  refine gfn0 (f_remark_end T) (t_remark_end T) sc_remark_end (fun _ _ _ _ _ _ us hl => match us, hl with | [_, _], _ => rfl) (fun vs H Q E h => ?_) (fun f cdv A outer s H vs Q E hr h => ⟨_, (pss_cons (ps_for PassesOwn.never rfl (pi_range2 rfl (t_range T) (pa_cons (pv 1) (pa_cons (pe_callB (call_lenK K) (by rfl) (t_len T) PySem.boot_len (pa_cons (pv 0) pa_nil1)) pa_nil1))) (pg_name (i := 2) sc_remark_end.nd rfl (Or.inl rfl))
  (pss_one (ps_if (pt_cmpR op_eq (pe_ix (ix_listK K) (pv 0) (pv 2) (fun _ _ => rfl)) (pe_ci1 (t_LINE_END T)) (nomark _)) (pss_one (ps_ret (pv 2)))
  pss_nil)))
  (pss_one (ps_ret (pe_callB (call_lenK K) (by rfl) (t_len T) PySem.boot_len (pa_cons (pv 0) pa_nil1))))), ?_⟩)
  · obtain ⟨a, b, i, rfl, _⟩ := h
    rfl
  · obtain ⟨a, b, i, rfl, hA, hi, hz, k⟩ := h
    have hbl : (vis (ni b)).length = b.length := by rw [vis_len, SP.ni_len]
    refine ⟨_, rfl, _, rfl, a, _, rfl, .inl hA, _, _, rfl, ⟨by omega, by omega, by rw [hbl]; omega, by rw [hbl]; omega⟩, ?_⟩
    rw [hbl, show ((b.length : Int) - (i : Int)).toNat = b.length - i by omega]
    refine for_range (fun m σ' H' => ∃ v2, σ' = [some (.ref a), some (.int (i : Int)), v2] ∧ H' = H ∧ tw (fun c => c != 10) b i = tw (fun c => c != 10) b (i + m)) ⟨none, rfl, rfl, rfl⟩ ?_ ?_
    · rintro m σ' H' hm ⟨v2, rfl, rfl, ht⟩
      have hb := SP.get_of_lt (show i + m < b.length by omega)
      generalize b[i + m] = c at hb
      refine ⟨_, rfl, _, rfl, a, _, ((i + m : Nat) : Int), _, rfl, rfl, hA, ni_at hb, rfl, _, rfl, ?_⟩
      rw [int_dec]
      by_cases e : c = 10
      · subst e
        refine if_true_of (decide_eq_true rfl) ?_
        refine ⟨_, rfl, ?_⟩
        rw [ht, tw_stop hb (by decide)] at k
        exact k
      · have e2 : ¬ (c.toNat : Int) = 10 := fun z => e (UInt8.toNat_inj.mp (show c.toNat = 10 by omega))
        refine if_false_of (decide_eq_false e2) ?_
        refine ⟨_, rfl, rfl, ?_⟩
        rw [ht, tw_go hb (by simpa using e), Nat.add_assoc]
    · rintro σ' H' ⟨v2, rfl, rfl, ht⟩
      refine ⟨_, rfl, a, _, rfl, .inl hA, ?_⟩
      rw [hbl]
      rw [ht, show i + (b.length - i) = b.length by omega, tw_end (Nat.le_refl _)] at k
      exact k
/-- name_end(letters, start) -/
abbrev N_name_end : List Str := ["letters", "start", "at"]
theorem sc_name_end : FnScope N_name_end ["letters", "start"] (defScope s_name_end) := ⟨rfl, rfl, rfl, by decide +kernel, rfl, by decide +kernel, by decide +kernel⟩
theorem g_name_end (T : Tx K mg) : GFn P w K mg base CX0 2 "name_end" ["letters", "start"] (sp_end (fun c => isLetter c || isDigit c) K) := by
  have g_is_letter : GFn P w K mg base CX0 1 "is_letter" ["byte"] (sp_is_letter K) := g_is_letter T
  have g_is_digit : GFn P w K mg base CX0 1 "is_digit" ["byte"] (sp_is_digit K) := g_is_digit T
  refine gfn0 (f_name_end T) (t_name_end T) sc_name_end (fun _ _ _ _ _ _ us hl => match us, hl with | [_, _], _ => rfl) (fun vs H Q E h => ?_) (fun f cdv A outer s H vs Q E hr h => ⟨_, (pss_cons (ps_for PassesOwn.never rfl (pi_range2 rfl (t_range T) (pa_cons (pv 1) (pa_cons (pe_callB (call_lenK K) (by rfl) (t_len T) PySem.boot_len (pa_cons (pv 0) pa_nil1)) pa_nil1))) (pg_name (i := 2) sc_name_end.nd rfl (Or.inl rfl))
  (pss_one (ps_if (PW.pt (pw_and (pt_not (pt_val (pe_fn g_is_letter (hr.mono (by omega)) pass0 (pa_cons (pe_ix (ix_listK K) (pv 0) (pv 2) (fun _ _ => rfl)) pa_nil1)))) (pw_and1 (pt_not (pt_val (pe_fn g_is_digit (hr.mono (by omega)) pass0 (pa_cons (pe_ix (ix_listK K) (pv 0) (pv 2) (fun _ _ => rfl)) pa_nil1))))))) (pss_one (ps_ret (pv 2)))
  pss_nil)))
  (pss_one (ps_ret (pe_callB (call_lenK K) (by rfl) (t_len T) PySem.boot_len (pa_cons (pv 0) pa_nil1))))), ?_⟩)
  · obtain ⟨a, b, i, rfl, _⟩ := h
    rfl
  · obtain ⟨a, b, i, rfl, hA, hi, hz, k⟩ := h
    have hbl : (vis (ni b)).length = b.length := by rw [vis_len, SP.ni_len]
    refine ⟨_, rfl, _, rfl, a, _, rfl, .inl hA, _, _, rfl, ⟨by omega, by omega, by rw [hbl]; omega, by rw [hbl]; omega⟩, ?_⟩
    rw [hbl, show ((b.length : Int) - (i : Int)).toNat = b.length - i by omega]
    refine for_range (fun m σ' H' => ∃ v2, σ' = [some (.ref a), some (.int (i : Int)), v2] ∧ H' = H ∧ tw (fun c => isLetter c || isDigit c) b i = tw (fun c => isLetter c || isDigit c) b (i + m)) ⟨none, rfl, rfl, rfl⟩ ?_ ?_
    · rintro m σ' H' hm ⟨v2, rfl, rfl, ht⟩
      have hb := SP.get_of_lt (show i + m < b.length by omega)
      generalize b[i + m] = c at hb
      have stop : (isLetter c || isDigit c) = false → Q (.int ((i : Int) + (m : Int))) H' := by
        intro e
        rw [ht, tw_stop hb e] at k
        exact k
      have go : (isLetter c || isDigit c) = true → tw (fun c => isLetter c || isDigit c) b i = tw (fun c => isLetter c || isDigit c) b (i + (m + 1)) := by
        intro e
        rw [ht, tw_go hb e, Nat.add_assoc]
      refine ⟨_, rfl, _, rfl, a, _, ((i + m : Nat) : Int), _, rfl, rfl, hA, ni_at hb, c, rfl, _, rfl, ?_⟩
      cases e1 : isLetter c with
      | true =>
        refine if_false_of rfl ?_
        refine if_false_of rfl ?_
        exact ⟨_, rfl, rfl, go (by rw [e1]; rfl)⟩
      | false =>
        refine if_true_of rfl ?_
        refine ⟨_, rfl, _, rfl, a, _, ((i + m : Nat) : Int), _, rfl, rfl, hA, ni_at hb, c, rfl, _, rfl, ?_⟩
        cases e2 : isDigit c with
        | true =>
          refine if_false_of rfl ?_
          exact ⟨_, rfl, rfl, go (by rw [e1, e2]; rfl)⟩
        | false =>
          refine if_true_of rfl ?_
          exact ⟨_, rfl, stop (by rw [e1, e2]; rfl)⟩
    · rintro σ' H' ⟨v2, rfl, rfl, ht⟩
      refine ⟨_, rfl, a, _, rfl, .inl hA, ?_⟩
      rw [hbl]
      rw [ht, show i + (b.length - i) = b.length by omega, tw_end (Nat.le_refl _)] at k
      exact k
/-- number_end(letters, start) -/
abbrev N_number_end : List Str := ["letters", "start", "at"]
theorem sc_number_end : FnScope N_number_end ["letters", "start"] (defScope s_number_end) := ⟨rfl, rfl, rfl, by decide +kernel, rfl, by decide +kernel, by decide +kernel⟩
theorem g_number_end (T : Tx K mg) : GFn P w K mg base CX0 2 "number_end" ["letters", "start"] (sp_end isDigit K) := by
  have g_is_digit : GFn P w K mg base CX0 1 "is_digit" ["byte"] (sp_is_digit K) := g_is_digit T
  refine gfn0 (f_number_end T) (t_number_end T) sc_number_end (fun _ _ _ _ _ _ us hl => match us, hl with | [_, _], _ => rfl) (fun vs H Q E h => ?_) (fun f cdv A outer s H vs Q E hr h => ⟨_, (pss_cons (ps_for PassesOwn.never rfl (pi_range2 rfl (t_range T) (pa_cons (pv 1) (pa_cons (pe_callB (call_lenK K) (by rfl) (t_len T) PySem.boot_len (pa_cons (pv 0) pa_nil1)) pa_nil1))) (pg_name (i := 2) sc_number_end.nd rfl (Or.inl rfl))
  (pss_one (ps_if (pt_not (pt_val (pe_fn g_is_digit (hr.mono (by omega)) pass0 (pa_cons (pe_ix (ix_listK K) (pv 0) (pv 2) (fun _ _ => rfl)) pa_nil1)))) (pss_one (ps_ret (pv 2)))
  pss_nil)))
  (pss_one (ps_ret (pe_callB (call_lenK K) (by rfl) (t_len T) PySem.boot_len (pa_cons (pv 0) pa_nil1))))), ?_⟩)
  · obtain ⟨a, b, i, rfl, _⟩ := h
    rfl
  · obtain ⟨a, b, i, rfl, hA, hi, hz, k⟩ := h
    have hbl : (vis (ni b)).length = b.length := by rw [vis_len, SP.ni_len]
    refine ⟨_, rfl, _, rfl, a, _, rfl, .inl hA, _, _, rfl, ⟨by omega, by omega, by rw [hbl]; omega, by rw [hbl]; omega⟩, ?_⟩
    rw [hbl, show ((b.length : Int) - (i : Int)).toNat = b.length - i by omega]
    refine for_range (fun m σ' H' => ∃ v2, σ' = [some (.ref a), some (.int (i : Int)), v2] ∧ H' = H ∧ tw isDigit b i = tw isDigit b (i + m)) ⟨none, rfl, rfl, rfl⟩ ?_ ?_
    · rintro m σ' H' hm ⟨v2, rfl, rfl, ht⟩
      have hb := SP.get_of_lt (show i + m < b.length by omega)
      generalize b[i + m] = c at hb
      refine ⟨_, rfl, _, rfl, a, _, ((i + m : Nat) : Int), _, rfl, rfl, hA, ni_at hb, c, rfl, _, rfl, ?_⟩
      cases e2 : isDigit c with
      | true =>
        refine if_false_of rfl ?_
        exact ⟨_, rfl, rfl, by rw [ht, tw_go hb e2, Nat.add_assoc]⟩
      | false =>
        refine if_true_of rfl ?_
        refine ⟨_, rfl, ?_⟩
        rw [ht, tw_stop hb e2] at k
        exact k
    · rintro σ' H' ⟨v2, rfl, rfl, ht⟩
      refine ⟨_, rfl, a, _, rfl, .inl hA, ?_⟩
      rw [hbl]
      rw [ht, show i + (b.length - i) = b.length by omega, tw_end (Nat.le_refl _)] at k
      exact k
/-- value_of(digits) -/
def sp_value_of (K : PySem.W.Frag) : Sp := fun vs H Q _ => ∃ (a : Addr) (b : Bytes), vs = [.ref a] ∧ SqT K H a (vis (ni b)) ∧ (∀ c ∈ b, isDigit c = true) ∧ Q (.int ((decimal b : Nat) : Int)) H
abbrev N_value_of : List Str := ["digits", "value", "digit"]
theorem sc_value_of : FnScope N_value_of ["digits"] (defScope s_value_of) := ⟨rfl, rfl, rfl, by decide +kernel, rfl, by decide +kernel, by decide +kernel⟩
theorem g_value_of (T : Tx K mg) : GFn P w K mg base CX0 1 "value_of" ["digits"] (sp_value_of K) := by
  refine gfn0 (f_value_of T) (t_value_of T) sc_value_of (fun _ _ _ _ _ _ us hl => match us, hl with | [_], _ => rfl) (fun vs H Q E h => ?_) (fun f cdv A outer s H vs Q E hr h => ⟨_, (pss_cons (ps_set (i := 1) sc_value_of.nd rfl (Or.inl rfl) pe_int1)
  (pss_cons (ps_for PassesOwn.never rfl (pi_tupK K (pv 0)) (pg_name (i := 2) sc_value_of.nd rfl (Or.inl rfl))
  (pss_one (ps_set (i := 1) sc_value_of.nd rfl (Or.inl rfl) (pe_op op_sub (pe_op op_add (pe_op op_mul pe_int1 (pv 1)) (pv 2)) (pe_ci1 (t_ZERO T))))))
  (pss_one (ps_ret (pv 1))))), ?_⟩)
  · obtain ⟨a, b, rfl, _⟩ := h
    rfl
  · obtain ⟨a, b, rfl, hA, hd, k⟩ := h
    refine ⟨_, rfl, a, rfl, ⟨_, hA⟩, ?_⟩
    refine for_tup (K := K) (a := a) (xs := vis (ni b)) (fun i σ' H' => ∃ v2, σ' = [some (.ref a), some (.int ((decimal (b.take i) : Nat) : Int)), v2] ∧ H' = H) ⟨none, rfl, rfl⟩ (fun i σ' H' _ ⟨_, _, e⟩ => e ▸ hA) ?_ ?_
    · rintro i x σ' H' hx ⟨v2, rfl, rfl⟩
      obtain ⟨z, hz, rfl⟩ := vis_inv hx
      have hc : ∃ c, b[i]? = some c ∧ z = (c.toNat : Int) := by
        unfold SP.ni at hz
        rw [List.getElem?_map] at hz
        cases e : b[i]? with
        | none => rw [e] at hz; cases hz
        | some c => rw [e] at hz; exact ⟨c, rfl, (Option.some.inj hz).symm⟩
      obtain ⟨c, hc, rfl⟩ := hc
      have hdc := hd c (List.mem_of_getElem? hc)
      have h48 : 48 ≤ c.toNat := by
        unfold VapcmBase.isDigit at hdc
        have := of_decide_eq_true hdc
        omega
      refine ⟨_, rfl, _, _, rfl, rfl, .inl ⟨by omega, by omega⟩, _, rfl, _, _, rfl, rfl, _, _, rfl, rfl, ?_⟩
      refine ⟨some (.int (c.toNat : Int)), ?_, rfl⟩
      have e : (10 : Int) * ((decimal (b.take i) : Nat) : Int) + (c.toNat : Int) - 48 = ((decimal (b.take (i + 1)) : Nat) : Int) := by
        rw [take_more hc]
        unfold VapcmBase.decimal
        rw [List.foldl_append]
        simp only [List.foldl_cons, List.foldl_nil]
        omega
      dsimp only
      rw [e]
      rfl
    · rintro σ' H' ⟨v2, rfl, rfl⟩
      rw [vis_len, SP.ni_len, List.take_length]
      exact ⟨_, rfl, k⟩
end SPW
end
section
set_option Elab.async false
set_option linter.all false
set_option maxRecDepth 100000
set_option maxHeartbeats 4000000
namespace SPW
open PySem PySem.Spec PyProof.Rows L2
open SP (ni)
open VapcmBase (Bytes isLetter isDigit isBlank decimal numberOf token PTok RESERVED word)
variable {P : Program} {w : World} {K : PySem.W.Frag} {mg : Str → Option Value} {base : Heap}
/-- a token's kind and its letters -/
def TokL (x : VapcmBase.Tok) (kd : Int) (l : List Int) : Prop := match x with
  | .name b => kd = (if RESERVED.contains b = true then 1 else 0) ∧ l = ni b
  | .num _ => kd = 2
  | .sign c => kd = 3 ∧ l = [(c : Int)]
  | .last => kd = 4 ∧ l = []
/-- a token with so many letters -/
def TokAt (K : PySem.W.Frag) (H : Hp) (a : Addr) (n : Nat) (x : PTok) : Prop := ∃ (p : Addr) (kd : Int) (l : List Int), SqT K H a [.int kd, .ref p, .int (x.place : Int)] ∧ SqT K H p (vis l) ∧ TokL x.tok kd l ∧ l.length = n
theorem TokAt.same {H H' : Hp} {a : Addr} {n : Nat} {x : PTok} (h : TokAt K H a n x) (s : Same H H') : TokAt K H' a n x := by
  obtain ⟨p, kd, l, h1, h2, h3, h4⟩ := h
  exact ⟨p, kd, l, s.tup h1, s.tup h2, h3, h4⟩
/-- x[i:j] of a list, then a tuple of it -/
theorem sl_mid {H : Hp} {a : Addr} {b : Bytes} {i j : Nat} {Q : VK} (h : SqL K H a (vis (ni b))) (hij : i ≤ j) (hj : j ≤ b.length) (k : ∀ p, H p = none → Q (.ref p) (upd H p (.lst (vis (ni ((b.drop i).take (j - i))))))) : rSlL K (.ref a) (some (i : Int)) (some (j : Int)) H Q := by
  refine ⟨a, _, rfl, h, fun p hp => ?_⟩
  have e : cutV (vis (ni b)) (some (i : Int)) (some (j : Int)) = vis (ni ((b.drop i).take (j - i))) := by
    unfold cutV
    rw [HT.sIx_nat, HT.sIx_nat, vis_len, SP.ni_len, Nat.min_eq_left hj, Nat.min_eq_left (Nat.le_trans hij hj)]
    simp [vis, SP.ni, List.map_take, List.map_drop]
  rw [e]
  exact k p hp
theorem tw_cut (p : UInt8 → Bool) (b : Bytes) (i : Nat) : (b.drop i).take (tw p b i - i) = (b.drop i).takeWhile p := by
  unfold tw
  rw [Nat.add_sub_cancel_left]
  have := List.takeWhile_append_dropWhile (p := p) (l := b.drop i)
  conv => lhs; arg 2; rw [← this]
  exact List.take_left' rfl
theorem words_at (T : Tx K mg) (H : Hp) : Dp K H (.ref (He.ga K "WORDS")) (.tuple ((RESERVED.map ni).map dI)) := by
  have h1 : SqT K H (He.ga K "AXIOM") (vis (ni (word "axiom"))) := u_AXIOM T H
  have h2 : SqT K H (He.ga K "ROW") (vis (ni (word "row"))) := u_ROW T H
  have h3 : SqT K H (He.ga K "GOAL") (vis (ni (word "goal"))) := u_GOAL T H
  have h4 : SqT K H (He.ga K "WORDS") (vr [He.ga K "AXIOM", He.ga K "ROW", He.ga K "GOAL"]) := u_WORDS T H
  exact .tup h4 (dp_tups (.cons h1 (.cons h2 (.cons h3 .nil))))
theorem reserved_ni (b : Bytes) : (RESERVED.map ni).contains (ni b) = RESERVED.contains b := by
  rw [Bool.eq_iff_iff]
  simp only [List.contains_iff_mem, List.mem_map]
  constructor
  · rintro ⟨x, hx, e⟩
    exact SP.ni_inj e ▸ hx
  · intro h
    exact ⟨b, h, rfl⟩
/-- name_token(letters, start) -/
def sp_name_token (K : PySem.W.Frag) : Sp := fun vs H Q E => ∃ (a : Addr) (b : Bytes) (i : Nat), vs = [.ref a, .int (i : Int)] ∧ SqL K H a (vis (ni b)) ∧ i ≤ b.length ∧ b.length ≤ 100000 ∧
  (16 < ((b.drop i).takeWhile fun c => isLetter c || isDigit c).length → FaultAt K E H 2 (i : Int)) ∧
  (¬ 16 < ((b.drop i).takeWhile fun c => isLetter c || isDigit c).length → ∀ H' p, Same H H' → TokAt K H' p ((b.drop i).takeWhile fun c => isLetter c || isDigit c).length ⟨i, .name ((b.drop i).takeWhile fun c => isLetter c || isDigit c)⟩ → Q (.ref p) H')
abbrev N_name_token : List Str := ["letters", "start", "name"]
theorem sc_name_token : FnScope N_name_token ["letters", "start"] (defScope s_name_token) := ⟨rfl, rfl, rfl, by decide +kernel, rfl, by decide +kernel, by decide +kernel⟩
theorem g_name_token (T : Tx K mg) : GFn P w K mg base (L2.CX P w) 3 "name_token" ["letters", "start"] (sp_name_token K) := by
  have g_name_end : GFn P w K mg base CX0 2 "name_end" ["letters", "start"] (sp_end (fun c => isLetter c || isDigit c) K) := g_name_end T
  refine gfnX (f_name_token T) (t_name_token T) sc_name_token (fun _ _ _ _ _ _ us hl => match us, hl with | [_, _], _ => rfl) (fun vs H Q E h => ?_) (fun f cdv A outer s H vs Q E hr h => ⟨_, (pss_cons (ps_set (i := 2) sc_name_token.nd rfl (Or.inl rfl) (pe_callTy (call_tupleK K) (by rfl) (t_tuple T) (by decide +kernel) (pa_cons (pe_slice (sl_listK K) (pv 0) (po_some (pv 1)) (po_some (pe_fn g_name_end (hr.mono (by omega)) pass0 (pa_cons (pv 0) (pa_cons (pv 1) pa_nil1))))) pa_nil1)))
  (pss_cons (ps_if (pt_cmpR op_gt (pe_callB (call_lenK K) (by rfl) (t_len T) PySem.boot_len (pa_cons (pv 2) pa_nil1)) (pe_ci1 (t_MOST_IN_NAME T)) (nomark _)) (pss_one (ps_raise rfl (takes_of rfl rfl rfl rfl) (pmk_fault T (hr.mono (by omega)) (pa_cons pe_int1 (pa_cons (pv 1) pa_nil1)))))
  pss_nil)
  (pss_cons (ps_if (pt_cmpR (op_inTDK K hr.units65) (pv 2) (pe_ca1 (t_WORDS T)) (by rfl)) (pss_one (ps_ret (pe_tup (pa_cons (pe_ci1 (t_WORD T)) (pa_cons (pv 2) (pa_cons (pv 1) pa_nil1))))))
  pss_nil)
  (pss_one (ps_ret (pe_tup (pa_cons (pe_ci1 (t_NAME T)) (pa_cons (pv 2) (pa_cons (pv 1) pa_nil1))))))))), ?_⟩)
  · obtain ⟨a, b, i, rfl, _⟩ := h
    rfl
  · obtain ⟨a, b, i, rfl, hA, hi, hz, k1, k2⟩ := h
    obtain ⟨t1, t2⟩ := tw_le (p := fun c => isLetter c || isDigit c) hi
    refine ⟨_, rfl, _, rfl, _, rfl, _, rfl, _, rfl, a, b, i, rfl, hA, hi, hz, _, rfl, ?_⟩
    refine sl_mid hA t1 t2 fun q hq => ?_
    rw [tw_cut]
    have s1 : Same H (upd H q (.lst (vis (ni ((b.drop i).takeWhile fun c => isLetter c || isDigit c))))) := Same.new hq
    have hq1 : upd H q (.lst (vis (ni ((b.drop i).takeWhile fun c => isLetter c || isDigit c)))) q = _ := upd_same
    generalize upd H q (.lst (vis (ni ((b.drop i).takeWhile fun c => isLetter c || isDigit c)))) = H1 at s1 hq1 ⊢
    refine ⟨q, _, rfl, .inl ⟨SqL.of hq1, fun nt hnt => ?_⟩⟩
    have s2 : Same H1 (upd H1 nt (.tup (vis (ni ((b.drop i).takeWhile fun c => isLetter c || isDigit c))))) := Same.new hnt
    have hn2 : SqT K (upd H1 nt (.tup (vis (ni ((b.drop i).takeWhile fun c => isLetter c || isDigit c))))) nt (vis (ni ((b.drop i).takeWhile fun c => isLetter c || isDigit c))) := SqT.of upd_same
    have s12 := s1.trans s2
    generalize upd H1 nt (.tup (vis (ni ((b.drop i).takeWhile fun c => isLetter c || isDigit c)))) = H2 at s2 hn2 s12 ⊢
    generalize (b.drop i).takeWhile (fun c => isLetter c || isDigit c) = nm at *
    refine ⟨_, rfl, nt, _, rfl, .inr hn2, _, _, rfl, rfl, _, rfl, ?_⟩
    rw [vis_len, SP.ni_len]
    by_cases c : 16 < nm.length
    · refine if_true_of (decide_eq_true (by omega)) ?_
      refine ⟨_, rfl, ?_⟩
      exact mkF fun d H' s hd => k1 c d H' (s12.trans s) hd
    · refine if_false_of (decide_eq_false (by omega)) ?_
      refine ⟨_, rfl, _, _, dp_tup hn2, words_at T _, dI_shaped _, tupsT_shaped _, _, rfl, ?_⟩
      rw [any_dI, reserved_ni]
      by_cases c2 : RESERVED.contains nm = true
      · refine if_true_of c2 ?_
        refine ⟨_, rfl, _, rfl, small_size (by simp), fun r hr => ?_⟩
        have s3 : Same H2 (upd H2 r (.tup [.int 1, .ref nt, .int (i : Int)])) := Same.new hr
        refine k2 c _ r (s12.trans s3) ⟨nt, 1, ni nm, SqT.of upd_same, s3.tup hn2, ⟨by rw [if_pos c2], rfl⟩, SP.ni_len nm⟩
      · refine if_false_of (by simpa using c2) ?_
        refine ⟨_, rfl, _, rfl, small_size (by simp), fun r hr => ?_⟩
        have s3 : Same H2 (upd H2 r (.tup [.int 0, .ref nt, .int (i : Int)])) := Same.new hr
        refine k2 c _ r (s12.trans s3) ⟨nt, 0, ni nm, SqT.of upd_same, s3.tup hn2, ⟨by rw [if_neg c2], rfl⟩, SP.ni_len nm⟩
end SPW
end
section
set_option Elab.async false
set_option linter.all false
set_option maxRecDepth 100000
set_option maxHeartbeats 4000000
namespace SPW
open PySem PySem.Spec PyProof.Rows L2
open SP (ni)
open VapcmBase (Bytes isLetter isDigit isBlank decimal numberOf token PTok RESERVED word)
variable {P : Program} {w : World} {K : PySem.W.Frag} {mg : Str → Option Value} {base : Heap}
/-- number_token(letters, start) -/
def sp_number_token (K : PySem.W.Frag) : Sp := fun vs H Q E => ∃ (a : Addr) (b : Bytes) (i : Nat), vs = [.ref a, .int (i : Int)] ∧ SqL K H a (vis (ni b)) ∧ i ≤ b.length ∧ b.length ≤ 100000 ∧ ((b.drop i).takeWhile isDigit) ≠ [] ∧
  (numberOf ((b.drop i).takeWhile isDigit) = none → FaultAt K E H 2 (i : Int)) ∧
  (∀ n, numberOf ((b.drop i).takeWhile isDigit) = some n → ∀ H' p, Same H H' → TokAt K H' p ((b.drop i).takeWhile isDigit).length ⟨i, .num n⟩ → Q (.ref p) H')
abbrev N_number_token : List Str := ["letters", "start", "digits"]
theorem sc_number_token : FnScope N_number_token ["letters", "start"] (defScope s_number_token) := ⟨rfl, rfl, rfl, by decide +kernel, rfl, by decide +kernel, by decide +kernel⟩
theorem g_number_token (T : Tx K mg) : GFn P w K mg base (L2.CX P w) 3 "number_token" ["letters", "start"] (sp_number_token K) := by
  have g_number_end : GFn P w K mg base CX0 2 "number_end" ["letters", "start"] (sp_end isDigit K) := g_number_end T
  have g_value_of : GFn P w K mg base CX0 1 "value_of" ["digits"] (sp_value_of K) := g_value_of T
  refine gfnX (f_number_token T) (t_number_token T) sc_number_token (fun _ _ _ _ _ _ us hl => match us, hl with | [_, _], _ => rfl) (fun vs H Q E h => ?_) (fun f cdv A outer s H vs Q E hr h => ⟨_, (pss_cons (ps_set (i := 2) sc_number_token.nd rfl (Or.inl rfl) (pe_callTy (call_tupleK K) (by rfl) (t_tuple T) (by decide +kernel) (pa_cons (pe_slice (sl_listK K) (pv 0) (po_some (pv 1)) (po_some (pe_fn g_number_end (hr.mono (by omega)) pass0 (pa_cons (pv 0) (pa_cons (pv 1) pa_nil1))))) pa_nil1)))
  (pss_cons (ps_if (PW.pt (pw_and (pt_cmpR op_gt (pe_callB (call_lenK K) (by rfl) (t_len T) PySem.boot_len (pa_cons (pv 2) pa_nil1)) pe_int1 (nomark _)) (pw_and1 (pt_cmpR op_eq (pe_ix (ix_tupK K) (pv 2) pe_int1 (fun _ _ => rfl)) (pe_ci1 (t_ZERO T)) (nomark _))))) (pss_one (ps_raise rfl (takes_of rfl rfl rfl rfl) (pmk_fault T (hr.mono (by omega)) (pa_cons pe_int1 (pa_cons (pv 1) pa_nil1)))))
  pss_nil)
  (pss_cons (ps_if (PW.pt (pw_or (pt_cmpR op_gt (pe_callB (call_lenK K) (by rfl) (t_len T) PySem.boot_len (pa_cons (pv 2) pa_nil1)) (pe_ci1 (t_MOST_DIGITS T)) (nomark _)) (pw_or1 (pt_cmpR op_gt (pe_fn g_value_of (hr.mono (by omega)) pass0 (pa_cons (pv 2) pa_nil1)) (pe_ci1 (t_MOST_NUMBER T)) (nomark _))))) (pss_one (ps_raise rfl (takes_of rfl rfl rfl rfl) (pmk_fault T (hr.mono (by omega)) (pa_cons pe_int1 (pa_cons (pv 1) pa_nil1)))))
  pss_nil)
  (pss_one (ps_ret (pe_tup (pa_cons (pe_ci1 (t_NUMBER T)) (pa_cons (pv 2) (pa_cons (pv 1) pa_nil1))))))))), ?_⟩)
  · obtain ⟨a, b, i, rfl, _⟩ := h
    rfl
  · obtain ⟨a, b, i, rfl, hA, hi, hz, hne, k1, k2⟩ := h
    obtain ⟨t1, t2⟩ := tw_le (p := isDigit) hi
    refine ⟨_, rfl, _, rfl, _, rfl, _, rfl, _, rfl, a, b, i, rfl, hA, hi, hz, _, rfl, ?_⟩
    refine sl_mid hA t1 t2 fun q hq => ?_
    rw [tw_cut]
    have s1 : Same H (upd H q (.lst (vis (ni ((b.drop i).takeWhile isDigit))))) := Same.new hq
    have hq1 : upd H q (.lst (vis (ni ((b.drop i).takeWhile isDigit)))) q = _ := upd_same
    generalize upd H q (.lst (vis (ni ((b.drop i).takeWhile isDigit)))) = H1 at s1 hq1 ⊢
    refine ⟨q, _, rfl, .inl ⟨SqL.of hq1, fun nt hnt => ?_⟩⟩
    have s2 : Same H1 (upd H1 nt (.tup (vis (ni ((b.drop i).takeWhile isDigit))))) := Same.new hnt
    have hn2 : SqT K (upd H1 nt (.tup (vis (ni ((b.drop i).takeWhile isDigit))))) nt (vis (ni ((b.drop i).takeWhile isDigit))) := SqT.of upd_same
    have s12 := s1.trans s2
    have hdig : ∀ c ∈ (b.drop i).takeWhile isDigit, isDigit c = true := fun c hc => by
      have := List.all_takeWhile (p := isDigit) (l := b.drop i)
      rw [List.all_eq_true] at this
      exact this c hc
    generalize upd H1 nt (.tup (vis (ni ((b.drop i).takeWhile isDigit)))) = H2 at s2 hn2 s12 ⊢
    generalize (b.drop i).takeWhile isDigit = nm at *
    have hno : numberOf nm = if 10 < nm.length ∨ (1 < nm.length ∧ nm.head? = some 48) ∨ VapcmBase.NUMBER < decimal nm then none else some (decimal nm) := by
      unfold VapcmBase.numberOf
      simp only [hne, false_or]
    have flt : ∀ H3, Same H2 H3 → numberOf nm = none → [V.int 2, V.int (i : Int)].length ≤ 1000 ∧ _ := fun H3 s3 e => mkF (K := K) (H1 := H3) (c := 2) (q := (i : Int)) (Q := E) fun d H' s hd => k1 e d H' ((s12.trans s3).trans s) hd
    have ret : ∀ H3, Same H2 H3 → numberOf nm = some (decimal nm) → ∀ r, H3 r = none → Q (.ref r) (upd H3 r (.tup [.int 2, .ref nt, .int (i : Int)])) := by
      intro H3 s3 e r hr
      have s4 : Same H3 (upd H3 r (.tup [.int 2, .ref nt, .int (i : Int)])) := Same.new hr
      exact k2 _ e _ r ((s12.trans s3).trans s4) ⟨nt, 2, ni nm, SqT.of upd_same, (s3.trans s4).tup hn2, rfl, SP.ni_len nm⟩
    -- the rest, the first digit no needless zero
    have hd0 : ∃ c, nm.head? = some c := by
      cases nm with
      | nil => exact absurd rfl hne
      | cons c r => exact ⟨c, rfl⟩
    obtain ⟨c0, hc0⟩ := hd0
    have hg0 : (ni nm)[0]? = some (c0.toNat : Int) := by
      cases nm with
      | nil => cases hc0
      | cons c r => cases hc0; rfl
    refine ⟨_, rfl, nt, _, rfl, .inr hn2, _, _, rfl, rfl, _, rfl, ?_⟩
    rw [vis_len, SP.ni_len]
    have rest : ¬ (1 < nm.length ∧ nm.head? = some 48) → ∀ (D : Ends) (σ : L2.St), True := fun _ _ _ => trivial
    by_cases c1 : 1 < nm.length
    · refine if_true_of (decide_eq_true (by omega)) ?_
      refine ⟨_, rfl, nt, _, 0, _, rfl, rfl, hn2, vis_at (j := 0) hg0, rfl, _, rfl, ?_⟩
      rw [int_dec]
      by_cases c2 : c0 = 48
      · refine if_true_of (decide_eq_true (by rw [c2]; rfl)) ?_
        refine ⟨_, rfl, ?_⟩
        exact flt H2 (Same.refl _) (by rw [hno, if_pos (.inr (.inl ⟨c1, by rw [hc0, c2]⟩))])
      · refine if_false_of (decide_eq_false fun z => c2 (UInt8.toNat_inj.mp (show c0.toNat = 48 by omega))) ?_
        refine ⟨_, rfl, nt, _, rfl, .inr hn2, _, _, rfl, rfl, _, rfl, ?_⟩
        rw [vis_len, SP.ni_len]
        by_cases c3 : 10 < nm.length
        · refine if_true_of (decide_eq_true (by omega)) ?_
          refine if_true_of rfl ?_
          refine ⟨_, rfl, ?_⟩
          exact flt H2 (Same.refl _) (by rw [hno, if_pos (.inl c3)])
        · refine if_false_of (decide_eq_false (by omega)) ?_
          refine ⟨_, rfl, nt, nm, rfl, hn2, hdig, _, _, rfl, rfl, _, rfl, ?_⟩
          by_cases c4 : 1000000000 < decimal nm
          · refine if_true_of (decide_eq_true (by omega)) ?_
            refine ⟨_, rfl, ?_⟩
            exact flt H2 (Same.refl _) (by rw [hno, if_pos (.inr (.inr c4))])
          · refine if_false_of (decide_eq_false (by omega)) ?_
            refine ⟨_, rfl, _, rfl, small_size (by simp), ?_⟩
            exact ret H2 (Same.refl _) (by rw [hno, if_neg]; rintro (z | ⟨_, z⟩ | z); exact c3 z; (rw [hc0] at z; exact c2 (Option.some.inj z)); exact c4 z)
    · refine if_false_of (decide_eq_false (by omega)) ?_
      refine if_false_of rfl ?_
      refine ⟨_, rfl, nt, _, rfl, .inr hn2, _, _, rfl, rfl, _, rfl, ?_⟩
      rw [vis_len, SP.ni_len]
      refine if_false_of (decide_eq_false (by omega)) ?_
      refine ⟨_, rfl, nt, nm, rfl, hn2, hdig, _, _, rfl, rfl, _, rfl, ?_⟩
      by_cases c4 : 1000000000 < decimal nm
      · refine if_true_of (decide_eq_true (by omega)) ?_
        refine ⟨_, rfl, ?_⟩
        exact flt H2 (Same.refl _) (by rw [hno, if_pos (.inr (.inr c4))])
      · refine if_false_of (decide_eq_false (by omega)) ?_
        refine ⟨_, rfl, _, rfl, small_size (by simp), ?_⟩
        exact ret H2 (Same.refl _) (by rw [hno, if_neg]; rintro (z | ⟨z, _⟩ | z); omega; omega; exact c4 z)
theorem token_cons (c : UInt8) (r : Bytes) : token (c :: r) = if isLetter c = true then (if 16 < ((c :: r).takeWhile fun c => isLetter c || isDigit c).length then none else some (.name ((c :: r).takeWhile fun c => isLetter c || isDigit c), ((c :: r).takeWhile fun c => isLetter c || isDigit c).length))
    else if isDigit c = true then (numberOf ((c :: r).takeWhile isDigit)).map fun n => (.num n, ((c :: r).takeWhile isDigit).length)
    else if VapcmBase.SIGNS.contains c = true then some (.sign c.toNat, 1) else none := rfl
/-- token_at(letters, start) -/
def sp_token_at (K : PySem.W.Frag) : Sp := fun vs H Q E => ∃ (a : Addr) (b : Bytes) (i : Nat), vs = [.ref a, .int (i : Int)] ∧ SqL K H a (vis (ni b)) ∧ i < b.length ∧ b.length ≤ 100000 ∧
  (token (b.drop i) = none → FaultAt K E H 2 (i : Int)) ∧ (∀ x n, token (b.drop i) = some (x, n) → 0 < n → ∀ H' p, Same H H' → TokAt K H' p n ⟨i, x⟩ → Q (.ref p) H')
abbrev N_token_at : List Str := ["letters", "start", "byte"]
theorem sc_token_at : FnScope N_token_at ["letters", "start"] (defScope s_token_at) := ⟨rfl, rfl, rfl, by decide +kernel, rfl, by decide +kernel, by decide +kernel⟩
theorem g_token_at (T : Tx K mg) : GFn P w K mg base (L2.CX P w) 4 "token_at" ["letters", "start"] (sp_token_at K) := by
  have g_is_letter : GFn P w K mg base CX0 1 "is_letter" ["byte"] (sp_is_letter K) := g_is_letter T
  have g_is_digit : GFn P w K mg base CX0 1 "is_digit" ["byte"] (sp_is_digit K) := g_is_digit T
  have g_name_token : GFn P w K mg base (L2.CX P w) 3 "name_token" ["letters", "start"] (sp_name_token K) := g_name_token T
  have g_number_token : GFn P w K mg base (L2.CX P w) 3 "number_token" ["letters", "start"] (sp_number_token K) := g_number_token T
  refine gfnX (f_token_at T) (t_token_at T) sc_token_at (fun _ _ _ _ _ _ us hl => match us, hl with | [_, _], _ => rfl) (fun vs H Q E h => ?_) (fun f cdv A outer s H vs Q E hr h => ⟨_, (pss_cons (ps_set (i := 2) sc_token_at.nd rfl (Or.inl rfl) (pe_ix (ix_listK K) (pv 0) (pv 1) (fun _ _ => rfl)))
  (pss_cons (ps_if (pt_val (pe_fn g_is_letter (hr.mono (by omega)) pass0 (pa_cons (pv 2) pa_nil1))) (pss_one (ps_ret (pe_fn g_name_token (hr.mono (by omega)) (passR (takes_of rfl rfl rfl rfl)) (pa_cons (pv 0) (pa_cons (pv 1) pa_nil1)))))
  pss_nil)
  (pss_cons (ps_if (pt_val (pe_fn g_is_digit (hr.mono (by omega)) pass0 (pa_cons (pv 2) pa_nil1))) (pss_one (ps_ret (pe_fn g_number_token (hr.mono (by omega)) (passR (takes_of rfl rfl rfl rfl)) (pa_cons (pv 0) (pa_cons (pv 1) pa_nil1)))))
  pss_nil)
  (pss_cons (ps_if (pt_cmpR (op_inK K) (pv 2) (pe_ca1 (t_SIGNS T)) (by rfl)) (pss_one (ps_ret (pe_tup (pa_cons (pe_ci1 (t_SIGN T)) (pa_cons (pe_tup (pa_cons (pv 2) pa_nil1)) (pa_cons (pv 1) pa_nil1))))))
  pss_nil)
  (pss_one (ps_raise rfl (takes_of rfl rfl rfl rfl) (pmk_fault T (hr.mono (by omega)) (pa_cons pe_int1 (pa_cons (pv 1) pa_nil1))))))))), ?_⟩)
  · obtain ⟨a, b, i, rfl, _⟩ := h
    rfl
  · obtain ⟨a, b, i, rfl, hA, hi, hz, k1, k2⟩ := h
    have hb := SP.get_of_lt hi
    have hdrop : b.drop i = b[i] :: b.drop (i + 1) := List.drop_eq_getElem_cons hi
    generalize b[i] = c at hb hdrop
    have htok : token (b.drop i) = if isLetter c = true then (if 16 < ((b.drop i).takeWhile fun c => isLetter c || isDigit c).length then none else some (.name ((b.drop i).takeWhile fun c => isLetter c || isDigit c), ((b.drop i).takeWhile fun c => isLetter c || isDigit c).length))
        else if isDigit c = true then (numberOf ((b.drop i).takeWhile isDigit)).map fun n => (.num n, ((b.drop i).takeWhile isDigit).length)
        else if VapcmBase.SIGNS.contains c = true then some (.sign c.toNat, 1) else none := by
      rw [hdrop]
      exact token_cons c _
    refine ⟨_, rfl, _, rfl, a, _, _, _, rfl, rfl, hA, ni_at hb, ?_⟩
    refine ⟨_, rfl, c, rfl, _, rfl, ?_⟩
    cases e1 : isLetter c with
    | true =>
      rw [e1] at htok
      refine if_true_of rfl ?_
      refine ⟨_, rfl, _, rfl, a, b, i, rfl, hA, by omega, hz, fun hl => k1 ?_, fun hl H' p s hp => k2 _ _ ?_ ?_ H' p s hp⟩
      · rw [htok, if_pos rfl, if_pos hl]
      · rw [htok, if_pos rfl, if_neg hl]
      · rw [hdrop, List.takeWhile_cons, e1]
        simp
    | false =>
      rw [e1] at htok
      refine if_false_of rfl ?_
      refine ⟨_, rfl, c, rfl, _, rfl, ?_⟩
      cases e2 : isDigit c with
      | true =>
        rw [e2] at htok
        refine if_true_of rfl ?_
        have hne : ((b.drop i).takeWhile isDigit) ≠ [] := by
          rw [hdrop, List.takeWhile_cons, e2]
          simp
        refine ⟨_, rfl, _, rfl, a, b, i, rfl, hA, by omega, hz, hne, fun hl => k1 ?_, fun n hl H' p s hp => k2 _ _ ?_ ?_ H' p s hp⟩
        · rw [htok, if_neg (by decide), if_pos rfl, hl]
          rfl
        · rw [htok, if_neg (by decide), if_pos rfl, hl]
          rfl
        · exact List.length_pos_iff.mpr hne
      | false =>
        rw [e2] at htok
        refine if_false_of rfl ?_
        have hsg : SqT K H (He.ga K "SIGNS") (vis (ni VapcmBase.SIGNS)) := u_SIGNS T H
        refine ⟨_, rfl, He.ga K "SIGNS", _, rfl, .inr hsg, rfl, flat_ints _, _, rfl, ?_⟩
        simp only [Bool.false_eq_true, if_false]
        have ein : inV (.int (c.toNat : Int)) (vis (ni VapcmBase.SIGNS)) = VapcmBase.SIGNS.contains c := by
          rw [inV_ints, Bool.eq_iff_iff]
          simp only [List.contains_iff_mem]
          unfold SP.ni
          rw [List.mem_map]
          constructor
          · rintro ⟨y, hy, e⟩
            have : y = c := UInt8.toNat_inj.mp (by omega)
            exact this ▸ hy
          · intro h
            exact ⟨c, h, rfl⟩
        rw [ein]
        by_cases e3 : VapcmBase.SIGNS.contains c = true
        · refine if_true_of e3 ?_
          refine ⟨_, rfl, small_size (by simp), fun q hq => ?_⟩
          have s1 : Same H (upd H q (.tup [.int (c.toNat : Int)])) := Same.new hq
          refine ⟨_, rfl, small_size (by simp), fun r hr => ?_⟩
          have s2 := Same.new (o := .tup [.int 3, .ref q, .int (i : Int)]) hr
          refine k2 (.sign c.toNat) 1 (by rw [htok, if_neg (by decide), if_neg (by decide), if_pos e3]) (by decide) _ r (s1.trans s2) ⟨q, 3, [(c.toNat : Int)], SqT.of upd_same, s2.tup (SqT.of upd_same), ⟨rfl, rfl⟩, rfl⟩
        · refine if_false_of (by simpa using e3) ?_
          refine ⟨_, rfl, ?_⟩
          exact mkF fun d H' s hd => k1 (by rw [htok, if_neg (by decide), if_neg (by decide), if_neg e3]) d H' s hd
end SPW
end
section
set_option Elab.async false
set_option linter.all false
set_option maxRecDepth 100000
set_option maxHeartbeats 4000000
namespace SPW
open PySem PySem.Spec PyProof.Rows L2
open SP (ni)
open VapcmBase (Bytes isLetter isDigit isBlank decimal numberOf token PTok RESERVED word lex tokens)
variable {P : Program} {w : World} {K : PySem.W.Frag} {mg : Str → Option Value} {base : Heap}
theorem takeW_pos {p : UInt8 → Bool} {c : UInt8} {r : Bytes} (h : p c = true) : 0 < ((c :: r).takeWhile p).length := by
  rw [List.takeWhile_cons, h]
  simp
theorem takeW_le (p : UInt8 → Bool) (l : Bytes) : (l.takeWhile p).length ≤ l.length := (List.takeWhile_sublist p).length_le
theorem token_len {l : Bytes} {x : VapcmBase.Tok} {k : Nat} (h : token l = some (x, k)) : 0 < k ∧ k ≤ l.length := by
  cases l with
  | nil => cases h
  | cons c r =>
    rw [token_cons] at h
    split at h
    · rename_i e
      split at h
      · cases h
      · cases h
        exact ⟨takeW_pos (by rw [e]; rfl), takeW_le _ _⟩
    · split at h
      · rename_i e
        cases q : numberOf ((c :: r).takeWhile isDigit) with
        | none => rw [q] at h; cases h
        | some n =>
          rw [q] at h
          cases h
          exact ⟨takeW_pos e, takeW_le _ _⟩
      · split at h
        · cases h
          exact ⟨by decide, by simp⟩
        · cases h
theorem dropW_eq (p : UInt8 → Bool) : ∀ l : Bytes, l.dropWhile p = l.drop (l.takeWhile p).length
  | [] => rfl
  | c :: l => by
    rw [List.dropWhile_cons, List.takeWhile_cons]
    cases p c with
    | true => simp [dropW_eq p l]
    | false => simp
/-- what comes of the rest, some tokens ahead -/
def ahead {A : Type} (ts : List A) (x : Except VapcmBase.Fault (List A)) : Except VapcmBase.Fault (List A) := match x with
  | .error f => .error f
  | .ok l => .ok (ts ++ l)
theorem ahead_map {A : Type} (ts : List A) (y : A) (x : Except VapcmBase.Fault (List A)) : ahead ts (x.map fun l => y :: l) = ahead (ts ++ [y]) x := by
  cases x with
  | error f => rfl
  | ok l => simp [ahead, Except.map]
theorem ahead_nil {A : Type} (x : Except VapcmBase.Fault (List A)) : ahead [] x = x := by
  cases x <;> rfl
theorem lex_nil (n i : Nat) : lex (n + 1) i [] = .ok [⟨i, .last⟩] := rfl
theorem lex_cons (n i : Nat) (c : UInt8) (r : Bytes) : lex (n + 1) i (c :: r) = if isBlank c = true then lex n (i + 1) r else if c == 35 then lex n (i + 1 + (r.takeWhile (· != 10)).length) (r.dropWhile (· != 10)) else match token (c :: r) with
      | none => .error ⟨2, i⟩
      | some x => (lex n (i + x.2) ((c :: r).drop x.2)).map fun l => ⟨i, x.1⟩ :: l := rfl
/-- tokens in a list -/
def ToksAt (K : PySem.W.Frag) (H : Hp) (as : List Addr) (ts : List PTok) : Prop := Paired (fun a x => ∃ n, TokAt K H a n x) as ts
theorem ToksAt.same {H H' : Hp} (s : Same H H') : ∀ {as : List Addr} {ts : List PTok}, ToksAt K H as ts → ToksAt K H' as ts
  | _, _, .nil => .nil
  | _, _, .cons ⟨n, h⟩ t => .cons ⟨n, h.same s⟩ (ToksAt.same s t)
theorem TokAt.but {L : List Addr} {H H' : Hp} (b : But L H H') (m : Mut H L) {a : Addr} {n : Nat} {x : PTok} (h : TokAt K H a n x) : TokAt K H' a n x := by
  obtain ⟨p, kd, l, h1, h2, h3, h4⟩ := h
  exact ⟨p, kd, l, b.tup m h1, b.tup m h2, h3, h4⟩
theorem ToksAt.but {L : List Addr} {H H' : Hp} (b : But L H H') (m : Mut H L) : ∀ {as : List Addr} {ts : List PTok}, ToksAt K H as ts → ToksAt K H' as ts
  | _, _, .nil => .nil
  | _, _, .cons ⟨n, h⟩ t => .cons ⟨n, h.but b m⟩ (ToksAt.but b m t)
/-- scan(letters) -/
def sp_scan (K : PySem.W.Frag) : Sp := fun vs H Q E => ∃ (a : Addr) (b : Bytes), vs = [.ref a] ∧ SqL K H a (vis (ni b)) ∧ b.length ≤ 100000 ∧
  (∀ f, tokens b = .error f → FaultAt K E H (f.code : Int) (f.place : Int)) ∧ (∀ ts, tokens b = .ok ts → ∀ H' p as, Same H H' → H p = none → H' p = some (.lst (vr as)) → ToksAt K H' as ts → Q (.ref p) H')
abbrev N_scan : List Str := ["letters", "tokens", "at", "token"]
theorem sc_scan : FnScope N_scan ["letters"] (defScope s_scan) := ⟨rfl, rfl, rfl, by decide +kernel, rfl, by decide +kernel, by decide +kernel⟩
theorem g_scan (T : Tx K mg) : GFn P w K mg base (L2.CX P w) 5 "scan" ["letters"] (sp_scan K) := by
  have g_token_at : GFn P w K mg base (L2.CX P w) 4 "token_at" ["letters", "start"] (sp_token_at K) := g_token_at T
  have g_remark_end : GFn P w K mg base CX0 1 "remark_end" ["letters", "start"] (sp_end (fun c => c != 10) K) := g_remark_end T
  refine gfnX (f_scan T) (t_scan T) sc_scan (fun _ _ _ _ _ _ us hl => match us, hl with | [_], _ => rfl) (fun vs H Q E h => ?_) (fun f cdv A outer s H vs Q E hr h => ⟨_, (pss_cons (ps_if (pt_cmpR op_gt (pe_callB (call_lenK K) (by rfl) (t_len T) PySem.boot_len (pa_cons (pv 0) pa_nil1)) (pe_ci1 (t_MOST_BYTES T)) (nomark _)) (pss_one (ps_raise rfl (takes_of rfl rfl rfl rfl) (pmk_fault T (hr.mono (by omega)) (pa_cons pe_int1 (pa_cons (pe_ci1 (t_MOST_BYTES T)) pa_nil1)))))
  pss_nil)
  (pss_cons (ps_set (i := 1) sc_scan.nd rfl (Or.inl rfl) (pe_lst pa_nil1))
  (pss_cons (ps_set (i := 2) sc_scan.nd rfl (Or.inl rfl) pe_int1)
  (pss_cons (ps_while (passes_of rfl) (pt_cmpR op_lt (pv 2) (pe_callB (call_lenK K) (by rfl) (t_len T) PySem.boot_len (pa_cons (pv 0) pa_nil1)) (nomark _))
  (pss_one (ps_if (pt_cmpR (op_inK K) (pe_ix (ix_listK K) (pv 0) (pv 2) (fun _ _ => rfl)) (pe_ca1 (t_BLANKS T)) (by rfl)) (pss_one (ps_aug (i := 2) sc_scan.nd rfl (Or.inl rfl) pe_int1 ip_add))
  (pss_one (ps_if (pt_cmpR op_eq (pe_ix (ix_listK K) (pv 0) (pv 2) (fun _ _ => rfl)) (pe_ci1 (t_REMARK T)) (nomark _)) (pss_one (ps_set (i := 2) sc_scan.nd rfl (Or.inl rfl) (pe_fn g_remark_end (hr.mono (by omega)) pass0 (pa_cons (pv 0) (pa_cons (pv 2) pa_nil1)))))
  (pss_cons (ps_set (i := 3) sc_scan.nd rfl (Or.inl rfl) (pe_fn g_token_at (hr.mono (by omega)) (passR (takes_of rfl rfl rfl rfl)) (pa_cons (pv 0) (pa_cons (pv 2) pa_nil1))))
  (pss_cons (ps_expr (pe_bmK K PySem.F.plainAttrs_list PySem.F.slot_list_append PySem.F.type_list_append mt_append (pv 1) (pa_cons (pv 3) pa_nil1)))
  (pss_one (ps_aug (i := 2) sc_scan.nd rfl (Or.inl rfl) (pe_callB (call_lenK K) (by rfl) (t_len T) PySem.boot_len (pa_cons (pe_ix (ix_tupK K) (pv 3) pe_int1 (fun _ _ => rfl)) pa_nil1)) ip_add)))))))))
  (pss_cons (ps_expr (pe_bmK K PySem.F.plainAttrs_list PySem.F.slot_list_append PySem.F.type_list_append mt_append (pv 1) (pa_cons (pe_tup (pa_cons (pe_ci1 (t_END T)) (pa_cons (pe_tup pa_nil1) (pa_cons (pe_callB (call_lenK K) (by rfl) (t_len T) PySem.boot_len (pa_cons (pv 0) pa_nil1)) pa_nil1)))) pa_nil1)))
  (pss_one (ps_ret (pv 1)))))))), ?_⟩)
  · obtain ⟨a, b, rfl, _⟩ := h
    rfl
  · obtain ⟨a, b, rfl, hA, hz, k1, k2⟩ := h
    have hbl : (vis (ni b)).length = b.length := by rw [vis_len, SP.ni_len]
    refine ⟨_, rfl, a, _, rfl, .inl hA, _, _, rfl, rfl, _, rfl, ?_⟩
    rw [hbl]
    by_cases c1 : 4096 < b.length
    · refine if_true_of (decide_eq_true (by omega)) ?_
      exact mkF (k1 ⟨1, 4096⟩ (by unfold VapcmBase.tokens; exact if_pos c1))
    · refine if_false_of (decide_eq_false (by omega)) ?_
      have htk : tokens b = lex (b.length + 1) 0 b := by unfold VapcmBase.tokens; exact if_neg c1
      refine ⟨small_size (by simp), fun p hp => ?_⟩
      have s0 : Same H (upd H p (.lst [])) := Same.new hp
      refine wh_by (fun m σ' H' => ∃ (i n : Nat) (ts : List PTok) (as : List Addr) (v3 : Option V), σ' = [some (.ref a), some (.ref p), some (.int (i : Int)), v3] ∧ Same H H' ∧ H' p = some (.lst (vr as)) ∧ ToksAt K H' as ts ∧ i ≤ b.length ∧ b.length - i < n ∧ as.length ≤ i ∧
          tokens b = ahead ts (lex n i (b.drop i)) ∧ m = b.length - i) _ ⟨0, b.length + 1, [], [], none, rfl, s0, upd_same, .nil, Nat.zero_le _, by omega, Nat.le_refl _, by rw [htk, ahead_nil]; rfl, rfl⟩ ?_
      rintro m σ' H' ⟨i, n, ts, as, v3, rfl, s1, hp1, hts, hi, hn, hal, hlx, rfl⟩
      have hA1 := s1.seq hA
      obtain ⟨n, rfl⟩ : ∃ n', n = n' + 1 := ⟨n - 1, by omega⟩
      refine ⟨_, rfl, _, rfl, a, _, rfl, .inl hA1, _, _, rfl, rfl, _, rfl, ?_⟩
      rw [hbl]
      by_cases c2 : i < b.length
      · refine if_true_of (decide_eq_true (by omega)) ?_
        refine ⟨_, fun _ _ h => h, ?_⟩
        have hb := SP.get_of_lt c2
        have hdrop : b.drop i = b[i] :: b.drop (i + 1) := List.drop_eq_getElem_cons c2
        generalize b[i] = c at hb hdrop
        rw [hdrop, lex_cons] at hlx
        have hbk : SqT K H' (He.ga K "BLANKS") (vis (ni [32, 9, 10])) := u_BLANKS T H'
        refine ⟨_, rfl, _, rfl, a, _, _, _, rfl, rfl, hA1, ni_at hb, He.ga K "BLANKS", _, rfl, .inr hbk, rfl, flat_ints _, _, rfl, ?_⟩
        simp only [Bool.false_eq_true, if_false]
        have ein : inV (.int (c.toNat : Int)) (vis (ni [32, 9, 10])) = isBlank c := by
          rw [inV_ints, Bool.eq_iff_iff]
          simp only [List.contains_iff_mem]
          unfold SP.ni VapcmBase.isBlank
          rw [List.mem_map]
          simp only [Bool.or_eq_true, beq_iff_eq]
          constructor
          · rintro ⟨y, hy, e⟩
            have : y = c := UInt8.toNat_inj.mp (by omega)
            subst this
            simpa using hy
          · intro h
            exact ⟨c, by simpa using h, rfl⟩
        rw [ein]
        by_cases e1 : isBlank c = true
        · rw [if_pos e1] at hlx
          refine if_true_of e1 ?_
          refine ⟨_, rfl, _, _, rfl, rfl, ?_⟩
          exact ⟨b.length - (i + 1), by omega, i + 1, n, ts, as, v3, rfl, s1, hp1, hts, by omega, by omega, by omega, hlx, rfl⟩
        · rw [if_neg e1] at hlx
          refine if_false_of (by simpa using e1) ?_
          refine ⟨_, rfl, _, rfl, a, _, _, _, rfl, rfl, hA1, ni_at hb, rfl, _, rfl, ?_⟩
          rw [int_dec]
          by_cases e2 : c = 35
          · rw [if_pos (by simpa using e2)] at hlx
            refine if_true_of (decide_eq_true (by rw [e2]; rfl)) ?_
            refine ⟨_, rfl, _, rfl, a, b, i, rfl, hA1, by omega, hz, ?_⟩
            have ht := tw_go (p := fun c => c != 10) hb (by rw [e2]; decide)
            obtain ⟨t1, t2⟩ := tw_le (p := fun c => c != 10) (show i + 1 ≤ b.length by omega)
            have ed : (b.drop (i + 1)).dropWhile (· != 10) = b.drop (tw (fun c => c != 10) b (i + 1)) := by
              rw [dropW_eq, List.drop_drop]
              rfl
            have ep : i + 1 + ((b.drop (i + 1)).takeWhile (· != 10)).length = tw (fun c => c != 10) b (i + 1) := rfl
            rw [ed, ep, ← ht] at hlx
            rw [← ht] at t1 t2
            exact ⟨b.length - tw (fun c => c != 10) b i, by omega, tw (fun c => c != 10) b i, n, ts, as, v3, rfl, s1, hp1, hts, t2, by omega, by omega, hlx, rfl⟩
          · rw [if_neg (by simpa using e2)] at hlx
            refine if_false_of (decide_eq_false fun z => e2 (UInt8.toNat_inj.mp (show c.toNat = 35 by omega))) ?_
            rw [← hdrop] at hlx
            refine ⟨_, rfl, _, rfl, a, b, i, rfl, hA1, c2, hz, fun hno => ?_, fun x k hsm hk H2 q s2 hq => ?_⟩
            · rw [hno] at hlx
              exact fun d H3 s3 hd => k1 ⟨2, i⟩ hlx d H3 (s1.trans s3) hd
            · rw [hsm] at hlx
              obtain ⟨hk1, hk2⟩ := token_len hsm
              rw [List.length_drop] at hk2
              have hlx2 : tokens b = ahead (ts ++ [⟨i, x⟩]) (lex n (i + k) (b.drop (i + k))) := by
                rw [hlx, ← ahead_map, ← List.drop_drop]
              have hp2 := s2 _ _ hp1
              refine ⟨_, rfl, .inl ⟨rfl, _, SqL.of hp2⟩, _, rfl, p, _, _, rfl, rfl, hp2, small_lt (by rw [vr_len]; omega), ?_⟩
              rw [vr_snoc]
              have m2 : Mut H2 [p] := Mut.one (.inl ⟨_, hp2⟩)
              have b2 : But [p] H2 (upd H2 p (.lst (vr (as ++ [q])))) := But.upd (But.refl _) (by simp)
              have hq3 := hq.but b2 m2
              have hts3 := (hts.same s2).but b2 m2
              obtain ⟨lp, kd, l, h1, h2, h3, h4⟩ := hq3
              refine ⟨_, rfl, _, rfl, q, _, 1, _, rfl, rfl, h1, atI_nat (j := 1) rfl, lp, _, rfl, .inr h2, _, _, rfl, rfl, ?_⟩
              refine ⟨b.length - (i + k), by omega, i + k, n, ts ++ [⟨i, x⟩], as ++ [q], some (.ref q), ?_, (s1.trans s2).mut hp, upd_same, paired_append hts3 (.cons ⟨k, lp, kd, l, h1, h2, h3, h4⟩ .nil), by omega, by omega, by simp; omega, hlx2, rfl⟩
              rw [vis_len, h4]
              rfl
      · refine if_false_of (decide_eq_false (by omega)) ?_
        have hie : i = b.length := by omega
        subst hie
        rw [List.drop_length, lex_nil] at hlx
        refine ⟨_, rfl, .inl ⟨rfl, _, SqL.of hp1⟩, ?_⟩
        refine ⟨small_size (by simp), fun e he => ?_⟩
        have s2 : Same H' (upd H' e (.tup [])) := Same.new he
        have he2 : SqT K (upd H' e (.tup [])) e (vis []) := SqT.of upd_same
        generalize upd H' e (.tup []) = H2 at s2 he2 ⊢
        refine ⟨_, rfl, a, _, rfl, .inl (s2.seq hA1), small_size (by simp), fun q hq => ?_⟩
        rw [hbl]
        have s3 : Same H2 (upd H2 q (.tup [.int 4, .ref e, .int (b.length : Int)])) := Same.new hq
        have hq3 : upd H2 q (.tup [.int 4, .ref e, .int (b.length : Int)]) q = _ := upd_same
        have he3 := s3.tup he2
        generalize upd H2 q (.tup [.int 4, .ref e, .int (b.length : Int)]) = H3 at s3 hq3 he3 ⊢
        have s23 := s2.trans s3
        have hp3 := s23 _ _ hp1
        refine ⟨p, _, _, rfl, rfl, hp3, small_lt (by rw [vr_len]; omega), ?_⟩
        rw [vr_snoc]
        have m3 : Mut H3 [p] := Mut.one (.inl ⟨_, hp3⟩)
        have b3 : But [p] H3 (upd H3 p (.lst (vr (as ++ [q])))) := But.upd (But.refl _) (by simp)
        refine ⟨_, rfl, k2 _ hlx _ p (as ++ [q]) ((s1.trans s23).mut hp) hp upd_same ?_⟩
        exact paired_append ((hts.same s23).but b3 m3) (.cons ⟨0, e, 4, [], b3.tup m3 (SqT.of hq3), b3.tup m3 he3, ⟨rfl, rfl⟩, rfl⟩ .nil)
end SPW
end
section
set_option autoImplicit false
set_option linter.all false
namespace SP
open VapcmBase (Bytes word Toks PTok Fault here wrong next nextWord taken takeSign takeName token lex tokens RESERVED isBlank)
open Vapcma (Form size vars rename normal Raw rawNames formOf takeForm takePart takeFormula DEEP)

/-! ### numbered as they come -/
theorem findIdx_growA {A : Type} [BEq A] [LawfulBEq A] {s : List A} {v : A} (h : v ∈ s) (l : List A) : ((grow s l).findIdx fun x => x == v) = s.findIdx fun x => x == v := by
  obtain ⟨k, hk⟩ := grow_prefix s l
  rw [hk, List.findIdx_append, if_pos]
  rw [List.findIdx_lt_length]
  exact ⟨v, h, by simp⟩
theorem formOf_congr {ns ms : List Bytes} : ∀ {r : Raw}, (∀ n ∈ rawNames r, (ns.findIdx fun m => m == n) = ms.findIdx fun m => m == n) → formOf ns r = formOf ms r
  | .var n, h => by simp only [formOf]; rw [h n (by simp [rawNames])]
  | .imp a b, h => by simp only [formOf]; rw [formOf_congr (r := a) fun n hn => h n (by simp [rawNames, hn]), formOf_congr (r := b) fun n hn => h n (by simp [rawNames, hn])]
  | .neg a, h => by simp only [formOf]; rw [formOf_congr (r := a) fun n hn => h n (by simpa [rawNames] using hn)]
/-- a part's numbers stay when more is numbered -/
theorem formOf_grow {s : List Bytes} {r : Raw} (h : ∀ n ∈ rawNames r, n ∈ s) (l : List Bytes) : formOf (grow s l) r = formOf s r :=
  formOf_congr fun n hn => findIdx_growA (h n hn) l
def rawSize : Raw → Nat
  | .var _ => 1
  | .imp a b => rawSize a + rawSize b + 1
  | .neg a => rawSize a + 1
theorem formOf_size (ns : List Bytes) : ∀ r : Raw, size (formOf ns r) = rawSize r
  | .var _ => rfl
  | .imp a b => by simp only [formOf, size, rawSize, formOf_size ns a, formOf_size ns b]
  | .neg a => by simp only [formOf, size, rawSize, formOf_size ns a]
theorem formOf_vars (ns : List Bytes) : ∀ r : Raw, vars (formOf ns r) = (rawNames r).map fun n => ns.findIdx fun m => m == n
  | .var _ => rfl
  | .imp a b => by simp only [formOf, vars, rawNames, formOf_vars ns a, formOf_vars ns b, List.map_append]
  | .neg a => by simp only [formOf, vars, rawNames, formOf_vars ns a]
theorem grow_mapOn {A B : Type} [BEq A] [LawfulBEq A] [BEq B] [LawfulBEq B] {f : A → B} : ∀ (l s : List A), (∀ x ∈ s ++ l, ∀ y ∈ s ++ l, f x = f y → x = y) → grow (s.map f) (l.map f) = (grow s l).map f
  | [], s, _ => rfl
  | a :: l, s, hf => by
    rw [List.map_cons, grow, grow]
    have e : (s.map f).contains (f a) = s.contains a := by
      rw [Bool.eq_iff_iff]
      simp only [List.contains_iff_mem, List.mem_map]
      constructor
      · rintro ⟨x, hx, e⟩
        exact hf x (by simp [hx]) a (by simp) e ▸ hx
      · intro h
        exact ⟨a, h, rfl⟩
    rw [e]
    by_cases c : s.contains a = true
    · rw [if_pos c, if_pos c]
      exact grow_mapOn l s fun x hx y hy => hf x (by simp only [List.mem_append, List.mem_cons] at hx ⊢; rcases hx with h | h <;> simp [h]) y (by simp only [List.mem_append, List.mem_cons] at hy ⊢; rcases hy with h | h <;> simp [h])
    · rw [if_neg c, if_neg c]
      have := grow_mapOn l (s ++ [a]) fun x hx y hy => hf x (by simpa using hx) y (by simpa using hy)
      rw [List.map_append] at this
      exact this
theorem findIdx_mapOn {A B : Type} [BEq A] [LawfulBEq A] [BEq B] [LawfulBEq B] {f : A → B} {v : A} : ∀ (l : List A), (∀ x ∈ l, f x = f v → x = v) → ((l.map f).findIdx fun x => x == f v) = l.findIdx fun x => x == v
  | [], _ => rfl
  | a :: l, hf => by
    rw [List.map_cons, List.findIdx_cons, List.findIdx_cons, findIdx_mapOn l fun x hx => hf x (by simp [hx])]
    have : (f a == f v) = (a == v) := by
      rw [Bool.eq_iff_iff]
      simp only [beq_iff_eq]
      exact ⟨hf a (by simp), fun h => by rw [h]⟩
    rw [this]
/-- a formula read is numbered as its unknowns come -/
theorem formOf_normal (r : Raw) : normal (formOf (rawNames r).eraseDups r) = formOf (rawNames r).eraseDups r := by
  have hd : (rawNames r).eraseDups = grow [] (rawNames r) := eraseDups_grow _
  rw [hd]
  let f : Bytes → Nat := fun n => (grow [] (rawNames r)).findIdx fun m => m == n
  have hinj : ∀ x ∈ rawNames r, ∀ y ∈ rawNames r, f x = f y → x = y := by
    intro x hx y hy e
    have mx : x ∈ grow [] (rawNames r) := grow_mem.mpr (.inr hx)
    have my : y ∈ grow [] (rawNames r) := grow_mem.mpr (.inr hy)
    have lx : f x < (grow [] (rawNames r)).length := List.findIdx_lt_length.mpr ⟨x, mx, by simp⟩
    have ly : f y < (grow [] (rawNames r)).length := List.findIdx_lt_length.mpr ⟨y, my, by simp⟩
    have gx := List.findIdx_getElem (w := lx)
    have gy := List.findIdx_getElem (w := ly)
    simp only [beq_iff_eq] at gx gy
    rw [← gx, ← gy]
    have e' : (grow [] (rawNames r)).findIdx (fun m => m == x) = (grow [] (rawNames r)).findIdx fun m => m == y := e
    simp only [e']
  rw [normal_eq]
  refine rename_id fun v hv => ?_
  rw [formOf_vars] at hv ⊢
  obtain ⟨n, hn, rfl⟩ := List.mem_map.mp hv
  have hg := grow_mapOn (f := f) (rawNames r) [] (by simpa using hinj)
  rw [List.map_nil] at hg
  show ((grow [] ((rawNames r).map f)).findIdx fun x => x == f n) = f n
  rw [hg]
  exact findIdx_mapOn (f := f) (v := n) (grow [] (rawNames r)) fun x hx e => hinj x (by simpa [grow_mem] using hx) n hn e
/-! ### tokens to the end -/
def EndOk (l : Toks) : Prop := ∃ (l' : Toks) (t : PTok), l = l' ++ [t] ∧ t.tok = .last ∧ ∀ y ∈ l', y.tok ≠ .last
theorem EndOk.ne {l : Toks} (h : EndOk l) : l ≠ [] := by
  obtain ⟨l', t, rfl, _⟩ := h
  simp
theorem EndOk.drop {l : Toks} (h : EndOk l) {x : PTok} (hx : l.head? = some x) (hn : x.tok ≠ .last) : EndOk (l.drop 1) := by
  obtain ⟨l', t, rfl, h1, h2⟩ := h
  cases l' with
  | nil =>
    cases hx
    exact absurd h1 hn
  | cons y l' => exact ⟨l', t, rfl, h1, fun z hz => h2 z (by simp [hz])⟩
theorem token_consV (c : UInt8) (r : Bytes) : token (c :: r) = if VapcmBase.isLetter c = true then (if 16 < ((c :: r).takeWhile fun c => VapcmBase.isLetter c || VapcmBase.isDigit c).length then none else some (.name ((c :: r).takeWhile fun c => VapcmBase.isLetter c || VapcmBase.isDigit c), ((c :: r).takeWhile fun c => VapcmBase.isLetter c || VapcmBase.isDigit c).length))
    else if VapcmBase.isDigit c = true then (VapcmBase.numberOf ((c :: r).takeWhile VapcmBase.isDigit)).map fun n => (.num n, ((c :: r).takeWhile VapcmBase.isDigit).length)
    else if VapcmBase.SIGNS.contains c = true then some (.sign c.toNat, 1) else none := rfl
theorem token_both {b : Bytes} {x : VapcmBase.Tok} {k : Nat} (h : token b = some (x, k)) : x ≠ .last ∧ 0 < k := by
  cases b with
  | nil => cases h
  | cons c r =>
    rw [token_consV] at h
    split at h
    · rename_i e
      split at h
      · cases h
      · cases h
        refine ⟨by simp, ?_⟩
        rw [List.takeWhile_cons, e]
        simp
    · split at h
      · rename_i e
        cases q : VapcmBase.numberOf ((c :: r).takeWhile VapcmBase.isDigit) with
        | none => rw [q] at h; cases h
        | some n =>
          rw [q] at h
          cases h
          refine ⟨by simp, ?_⟩
          rw [List.takeWhile_cons, e]
          simp
      · split at h
        · cases h
          exact ⟨by simp, by decide⟩
        · cases h
theorem token_last {b : Bytes} {x : VapcmBase.Tok} {k : Nat} (h : token b = some (x, k)) : x ≠ .last := (token_both h).1
theorem token_pos {b : Bytes} {x : VapcmBase.Tok} {k : Nat} (h : token b = some (x, k)) : 0 < k := (token_both h).2
theorem lex_end : ∀ (n i : Nat) (b : Bytes) (l : Toks), lex n i b = .ok l → EndOk l ∧ l.length ≤ b.length + 1
  | 0, i, b, l, h => by
    cases h
    exact ⟨⟨[], ⟨i, .last⟩, rfl, rfl, fun y hy => by simp at hy⟩, by simp⟩
  | n + 1, i, [], l, h => by
    cases h
    exact ⟨⟨[], ⟨i, .last⟩, rfl, rfl, fun y hy => by simp at hy⟩, by simp⟩
  | n + 1, i, c :: r, l, h => by
    rw [lex] at h
    split at h
    · obtain ⟨h1, h2⟩ := lex_end n _ _ l h
      exact ⟨h1, by simp; omega⟩
    · split at h
      · obtain ⟨h1, h2⟩ := lex_end n _ _ l h
        have := (List.dropWhile_suffix (fun x : UInt8 => x != 10) (l := r)).sublist.length_le
        exact ⟨h1, by simp; omega⟩
      · cases ht : token (c :: r) with
        | none => rw [ht] at h; cases h
        | some x =>
          rw [ht] at h
          obtain ⟨x, k⟩ := x
          have h : Except.map (fun l => (⟨i, x⟩ : PTok) :: l) (lex n (i + k) ((c :: r).drop k)) = .ok l := h
          cases hr : lex n (i + k) ((c :: r).drop k) with
          | error f => rw [hr] at h; cases h
          | ok l2 =>
            rw [hr] at h
            cases h
            obtain ⟨⟨l', t, rfl, h1, h2⟩, h3⟩ := lex_end n _ _ l2 hr
            have hp := token_pos ht
            have hl := token_last ht
            refine ⟨⟨⟨i, x⟩ :: l', t, rfl, h1, fun y hy => ?_⟩, ?_⟩
            · rcases List.mem_cons.mp hy with rfl | hy
              · exact hl
              · exact h2 y hy
            · rw [List.length_drop] at h3
              simp only [List.length_cons] at h3 ⊢
              omega
theorem tokens_end {b : Bytes} {l : Toks} (h : tokens b = .ok l) : EndOk l ∧ l.length ≤ 4097 := by
  unfold VapcmBase.tokens at h
  split at h
  · cases h
  · rename_i c
    obtain ⟨h1, h2⟩ := lex_end _ _ _ _ h
    refine ⟨h1, ?_⟩
    have : ¬ 4096 < b.length := c
    omega
/-! ### what each taking leaves -/
theorem takeName_ok {l : Toks} {x : VapcmBase.PName} {m : Toks} (h : takeName l = .ok (x, m)) : ∃ p b, l = ⟨p, .name b⟩ :: m ∧ RESERVED.contains b = false ∧ x = ⟨p, b⟩ := by
  unfold VapcmBase.takeName at h
  split at h
  · rename_i p b r
    split at h
    · cases h
    · rename_i c
      cases h
      exact ⟨p, b, rfl, by simpa using c, rfl⟩
  · cases h
theorem next_head {t : VapcmBase.Tok} {l : Toks} (h : next t l = true) : ∃ x r, l = x :: r ∧ VapcmBase.tokEq x.tok t = true := by
  cases l with
  | nil => cases h
  | cons x r => exact ⟨x, r, rfl, h⟩
theorem tokEq_last {x t : VapcmBase.Tok} (h : VapcmBase.tokEq x t = true) (ht : t ≠ .last) : x ≠ .last := by
  rintro rfl
  cases t <;> simp [VapcmBase.tokEq] at h ht
theorem EndOk.next {l : Toks} (h : EndOk l) {t : VapcmBase.Tok} (hn : VapcmBase.next t l = true) (ht : t ≠ .last) : EndOk (l.drop 1) ∧ (l.drop 1).length + 1 = l.length := by
  obtain ⟨x, r, rfl, e⟩ := next_head hn
  exact ⟨h.drop rfl (tokEq_last e ht), by simp⟩
theorem takeSign_ok {c : Nat} {l m : Toks} (h : takeSign c l = .ok m) : next (.sign c) l = true ∧ m = l.drop 1 := by
  unfold VapcmBase.takeSign VapcmBase.taken at h
  split at h
  · rename_i e
    cases h
    exact ⟨e, rfl⟩
  · cases h
end SP
end
section
set_option Elab.async false
set_option linter.all false
set_option maxRecDepth 100000
set_option maxHeartbeats 4000000
namespace SPW
open PySem PySem.Spec PyProof.Rows L2
open SP (ni EndOk grow)
open VapcmBase (Bytes PTok Toks RESERVED word)
/-- changeable things stand at these, instances too -/
def Mu (H : Hp) (L : List Addr) : Prop := ∀ a ∈ L, (∃ l, H a = some (.lst l)) ∨ ∃ C dx fs, H a = some (.ins C dx fs)
theorem Mu.notin {H : Hp} {L : List Addr} (m : Mu H L) {a : Addr} {u : HO} (h : H a = some u) (h1 : ∀ l, u ≠ .lst l) (h2 : ∀ C dx fs, u ≠ .ins C dx fs) : a ∉ L := fun hm => by
  rcases m a hm with ⟨l, e⟩ | ⟨C, dx, fs, e⟩
  · rw [h] at e
    exact h1 _ (Option.some.inj e)
  · rw [h] at e
    exact h2 _ _ _ (Option.some.inj e)
theorem But.tupM {K : PySem.W.Frag} {L : List Addr} {H H' : Hp} {a : Addr} {xs : List V} (b : But L H H') (m : Mu H L) (t : SqT K H a xs) : SqT K H' a xs := by
  rcases t with (t | ⟨o, t⟩) | t
  · exact .inl (.inl (b _ _ (m.notin t (fun _ z => nomatch z) fun _ _ _ z => nomatch z) t))
  · exact .inl (.inr ⟨o, b _ _ (m.notin t (fun _ z => nomatch z) fun _ _ _ z => nomatch z) t⟩)
  · exact .inr t
theorem But.tupsM {K : PySem.W.Frag} {L : List Addr} {H H' : Hp} (b : But L H H') (m : Mu H L) : ∀ {as : List Addr} {ls : List (List Int)}, TupsAt K H as ls → TupsAt K H' as ls
  | _, _, .nil => .nil
  | _, _, .cons t r => .cons (b.tupM m t) (But.tupsM b m r)
theorem But.toksM {K : PySem.W.Frag} {L : List Addr} {H H' : Hp} (b : But L H H') (m : Mu H L) : ∀ {as : List Addr} {ts : List PTok}, ToksAt K H as ts → ToksAt K H' as ts
  | _, _, .nil => .nil
  | _, _, .cons ⟨n, p, kd, l, h1, h2, h3, h4⟩ r => .cons ⟨n, p, kd, l, b.tupM m h1, b.tupM m h2, h3, h4⟩ (But.toksM b m r)
theorem But.seqM {K : PySem.W.Frag} {L : List Addr} {H H' : Hp} {a : Addr} {xs : List V} (b : But L H H') (n : a ∉ L) (t : SqL K H a xs) : SqL K H' a xs := by
  rcases t with (t | ⟨o, t⟩) | t
  · exact .inl (.inl (b _ _ n t))
  · exact .inl (.inr ⟨o, b _ _ n t⟩)
  · exact .inr t
abbrev rdF (tl : Addr) (i : Nat) (nl ul : Addr) : List (Str × V) := [("tokens", .ref tl), ("at", .int (i : Int)), ("names", .ref nl), ("unknowns", .ref ul)]
section
variable (tl : Addr) (i : Nat) (nl ul : Addr)
theorem lr_tokens : (rdF tl i nl ul).lookup ("tokens" : Str) = some (.ref tl) := rfl
theorem lr_at : (rdF tl i nl ul).lookup ("at" : Str) = some (.int (i : Int)) := rfl
theorem lr_names : (rdF tl i nl ul).lookup ("names" : Str) = some (.ref nl) := rfl
theorem lr_unknowns : (rdF tl i nl ul).lookup ("unknowns" : Str) = some (.ref ul) := rfl
theorem pf_at (j : Nat) : putF "at" (.int (j : Int)) (rdF tl i nl ul) = rdF tl j nl ul := rfl
theorem pf_un (u : Addr) : putF "unknowns" (.ref u) (rdF tl i nl ul) = rdF tl i nl u := rfl
end
/-- the reader, with what's left to read -/
structure Rd (K : PySem.W.Frag) (H : Hp) (x nl kl ul : Addr) (l : Toks) (names unk : List Bytes) : Prop where
  ex : ∃ dx tl as ts i, H x = some (.ins (He.ga K "Reader") dx (rdF tl i nl ul)) ∧ H tl = some (.lst (vr as)) ∧ ToksAt K H as ts ∧ ts.drop i = l ∧ tl ∉ [x, nl, ul] ∧ tl = kl
  en : EndOk l
  ln : l.length ≤ 5000
  nm : ∃ ns, H nl = some (.lst (vr ns)) ∧ TupsAt K H ns (names.map ni)
  un : ∃ us, H ul = some (.lst (vr us)) ∧ TupsAt K H us (unk.map ni)
  ne : nl ≠ ul
  nn : names.length ≤ 40
  uu : unk.length + l.length ≤ 6000
section
variable {K : PySem.W.Frag} {H H' : Hp} {x nl kl ul : Addr} {l : Toks} {names unk : List Bytes}
theorem Rd.mu (h : Rd K H x nl kl ul l names unk) : Mu H [x, nl, ul] := fun a ha => by
  obtain ⟨dx, tl, as, ts, i, h1, _⟩ := h.ex
  obtain ⟨ns, h2, _⟩ := h.nm
  obtain ⟨us, h3, _⟩ := h.un
  simp only [List.mem_cons, List.not_mem_nil, or_false] at ha
  rcases ha with rfl | rfl | rfl
  · exact .inr ⟨_, _, _, h1⟩
  · exact .inl ⟨_, h2⟩
  · exact .inl ⟨_, h3⟩
theorem Rd.xn (h : Rd K H x nl kl ul l names unk) : x ≠ nl := fun e => by
  obtain ⟨dx, tl, as, ts, i, h1, _⟩ := h.ex
  obtain ⟨ns, h2, _⟩ := h.nm
  rw [e, h2] at h1
  cases h1
theorem Rd.xu (h : Rd K H x nl kl ul l names unk) : x ≠ ul := fun e => by
  obtain ⟨dx, tl, as, ts, i, h1, _⟩ := h.ex
  obtain ⟨ns, h2, _⟩ := h.un
  rw [e, h2] at h1
  cases h1
theorem Rd.same (h : Rd K H x nl kl ul l names unk) (s : Same H H') : Rd K H' x nl kl ul l names unk := by
  obtain ⟨⟨dx, tl, as, ts, i, h1, h2, h3, h4, h5⟩, en, ln, ⟨ns, n1, n2⟩, ⟨us, u1, u2⟩, ne, nn, uu⟩ := h
  exact ⟨⟨dx, tl, as, ts, i, s _ _ h1, s _ _ h2, h3.same s, h4, h5⟩, en, ln, ⟨ns, s _ _ n1, n2.same s⟩, ⟨us, s _ _ u1, u2.same s⟩, ne, nn, uu⟩
/-- a list that's none of the reader's is changed -/
theorem Rd.but {al : Addr} (h : Rd K H x nl kl ul l names unk) (b : But [al] H H') (hl : ∃ v, H al = some (.lst v)) (n1 : al ≠ nl) (n2 : al ≠ ul) (n3 : al ≠ kl) : Rd K H' x nl kl ul l names unk := by
  obtain ⟨v, hl⟩ := hl
  have m : Mu H [al] := fun a ha => by
    have : a = al := by simpa using ha
    exact this ▸ .inl ⟨v, hl⟩
  obtain ⟨⟨dx, tl, as, ts, i, h1, h2, h3, h4, h5, h6⟩, en, ln, ⟨ns, g1, g2⟩, ⟨us, u1, u2⟩, ne, nn, uu⟩ := h
  have hx : x ≠ al := fun e => by rw [e, hl] at h1; cases h1
  refine ⟨⟨dx, tl, as, ts, i, b _ _ (by simpa using hx) h1, b _ _ (by rw [h6]; simpa using Ne.symm n3) h2, b.toksM m h3, h4, h5, h6⟩, en, ln, ⟨ns, b _ _ (by simpa using Ne.symm n1) g1, b.tupsM m g2⟩, ⟨us, b _ _ (by simpa using Ne.symm n2) u1, b.tupsM m u2⟩, ne, nn, uu⟩
/-- what self.tokens[self.at] is -/
theorem Rd.at_ (h : Rd K H x nl kl ul l names unk) : ∃ dx tl as i a t r p kd lt, H x = some (.ins (He.ga K "Reader") dx (rdF tl i nl ul)) ∧ SqL K H tl (vr as) ∧ atI (vr as) (i : Int) = some (.ref a) ∧ l = t :: r ∧
    SqT K H a [.int kd, .ref p, .int (t.place : Int)] ∧ SqT K H p (vis lt) ∧ TokL t.tok kd lt := by
  obtain ⟨dx, tl, as, ts, i, h1, h2, h3, h4, _⟩ := h.ex
  cases l with
  | nil => exact absurd rfl h.en.ne
  | cons t r =>
    have hi : i < ts.length := by
      rcases Nat.lt_or_ge i ts.length with c | c
      · exact c
      · rw [List.drop_eq_nil_of_le c] at h4
        cases h4
    have hti : ts[i]? = some t := by
      have := congrArg (fun l => l[0]?) h4
      simp only [List.getElem?_drop, Nat.add_zero] at this
      exact this
    have hl := Paired.length h3
    have ha : as[i]? = some as[i] := List.getElem?_eq_getElem (by omega)
    have key : ∀ {as : List Addr} {ts : List PTok} {i : Nat} {a : Addr} {t : PTok}, ToksAt K H as ts → as[i]? = some a → ts[i]? = some t → ∃ n, TokAt K H a n t := by
      intro as ts i a t hp
      induction hp generalizing i with
      | nil => intro h; simp at h
      | cons hh ht ih =>
        intro e1 e2
        cases i with
        | zero =>
          simp at e1 e2
          subst e1 e2
          exact hh
        | succ i => exact ih (by simpa using e1) (by simpa using e2)
    obtain ⟨n, p, kd, lt, q1, q2, q3, q4⟩ := key h3 ha hti
    exact ⟨dx, tl, as, i, _, t, r, p, kd, lt, h1, SqL.of h2, atI_nat (vr_get ha), rfl, q1, q2, q3⟩
/-- one token on -/
theorem Rd.adv (h : Rd K H x nl kl ul l names unk) {t : PTok} {r : Toks} (hl : l = t :: r) (hn : t.tok ≠ .last) {dx tl : Addr} {i : Nat} (hx : H x = some (.ins (He.ga K "Reader") dx (rdF tl i nl ul))) :
    Rd K (upd H x (.ins (He.ga K "Reader") dx (rdF tl (i + 1) nl ul))) x nl kl ul r names unk := by
  have b : But [x] H (upd H x (.ins (He.ga K "Reader") dx (rdF tl (i + 1) nl ul))) := But.upd (But.refl H) (by simp)
  have m : Mu H [x] := fun a ha => h.mu a (by simp at ha; simp [ha])
  obtain ⟨⟨dx', tl', as, ts, i', h1, h2, h3, h4, h5⟩, en, ln, ⟨ns, n1, n2⟩, ⟨us, u1, u2⟩, ne, nn, uu⟩ := id h
  rw [hx] at h1
  have e := Option.some.inj h1
  injection e with e1 e2 e3
  have e4 := congrArg (fun f => f.lookup ("tokens" : Str)) e3
  have e5 := congrArg (fun f => f.lookup ("at" : Str)) e3
  have e4 : some (V.ref tl) = some (V.ref tl') := e4
  have e5 : some (V.int (i : Int)) = some (V.int (i' : Int)) := e5
  have e6 : tl = tl' := by cases e4; rfl
  have e7 : i = i' := by
    have := V.int.inj (Option.some.inj e5)
    omega
  subst e6 e7
  have hdrop := en.drop (x := t) (by rw [hl]; rfl) hn
  rw [hl] at hdrop
  refine ⟨⟨dx, tl, as, ts, i + 1, upd_same, b _ _ (fun z => h5.1 (by simp at z; simp [z])) h2, b.toksM m h3, ?_, h5⟩, hdrop, by rw [hl] at ln; simp at ln; omega, ⟨ns, b _ _ (by simpa using Ne.symm h.xn) n1, b.tupsM m n2⟩, ⟨us, b _ _ (by simpa using Ne.symm h.xu) u1, b.tupsM m u2⟩, ne, nn, by rw [hl] at uu; simp at uu; omega⟩
  rw [← List.drop_drop, h4, hl]
  rfl
end
end SPW
end
section
set_option Elab.async false
set_option linter.all false
set_option maxRecDepth 100000
set_option maxHeartbeats 4000000
namespace SPW
open PySem PySem.Spec PyProof.Rows L2
open SP (ni EndOk grow)
open VapcmBase (Bytes PTok Toks RESERVED word takeName takeSign)
variable {P : Program} {w : World} {K : PySem.W.Frag} {mg : Str → Option Value} {base : Heap}
/-- here(self) -/
def sp_Reader_here (K : PySem.W.Frag) : Sp := fun vs H Q _ => ∃ (x nl kl ul : Addr) (l : Toks) (names unk : List Bytes), vs = [.ref x] ∧ Rd K H x nl kl ul l names unk ∧ Q (.int ((VapcmBase.here l : Nat) : Int)) H
abbrev N_Reader_here : List Str := ["self"]
theorem sc_Reader_here : FnScope N_Reader_here ["self"] (defScope s_Reader_here) := ⟨rfl, rfl, rfl, by decide +kernel, rfl, by decide +kernel, by decide +kernel⟩
theorem g_Reader_here (T : Tx K mg) : GMe P w K mg base CX0 1 (He.ga K "Reader") "here" ["self"] (sp_Reader_here K) := by
  refine gme0 (f_Reader_here T) (m_Reader_here T) sc_Reader_here (fun _ _ _ _ _ _ us hl => match us, hl with | [_], _ => rfl) (fun vs H Q E h => ?_) (fun f cdv A outer s H vs Q E hr h => ⟨_, (pss_one (ps_ret (pe_ix (ix_tupK K) (pe_ix (ix_listK K) (pe_fldK K (pv 0)) (pe_fldK K (pv 0)) (fun _ _ => rfl)) pe_int1 (fun _ _ => rfl)))), ?_⟩)
  · obtain ⟨x, nl, kl, ul, l, names, unk, rfl, _⟩ := h
    rfl
  · obtain ⟨x, nl, kl, ul, l, names, unk, rfl, hR, k⟩ := h
    obtain ⟨dx, tl, as, i, a, t, r, p, kd, lt, h1, h2, h3, rfl, h5, h6, h7⟩ := hR.at_
    refine ⟨_, rfl, x, _, dx, _, _, rfl, h1, c_Reader T, n_Reader_tokens T, lr_tokens _ _ _ _, _, rfl, x, _, dx, _, _, rfl, h1, c_Reader T, n_Reader_at T, lr_at _ _ _ _, tl, _, _, .ref a, rfl, rfl, h2, h3, ?_⟩
    exact ⟨a, _, 2, _, rfl, rfl, h5, atI_nat (j := 2) rfl, k⟩
/-- what may be asked to be next -/
def Want (tk : VapcmBase.Tok) (kd : Int) (e : List Int) : Prop := (∃ w, tk = .name w ∧ RESERVED.contains w = true ∧ kd = 1 ∧ e = ni w) ∨ ∃ c : Nat, tk = .sign c ∧ kd = 3 ∧ e = [(c : Int)]
theorem want_next {tk : VapcmBase.Tok} {kd : Int} {e : List Int} (h : Want tk kd e) {t : PTok} {k2 : Int} {l2 : List Int} (ht : TokL t.tok k2 l2) (r : Toks) : VapcmBase.next tk (t :: r) = (decide (k2 = kd) && decide (l2 = e)) := by
  show VapcmBase.tokEq t.tok tk = _
  rw [Bool.eq_iff_iff, Bool.and_eq_true, decide_eq_true_eq, decide_eq_true_eq]
  rcases h with ⟨w, rfl, hw, rfl, rfl⟩ | ⟨c, rfl, rfl, rfl⟩
  · cases hk : t.tok with
    | name b =>
      rw [hk] at ht
      obtain ⟨e1, e2⟩ := ht
      simp only [VapcmBase.tokEq, beq_iff_eq]
      constructor
      · rintro rfl
        exact ⟨by rw [e1, if_pos hw], e2⟩
      · rintro ⟨_, z⟩
        exact SP.ni_inj (by rw [← e2, z])
    | num n => rw [hk] at ht; have ht : k2 = 2 := ht; simp [VapcmBase.tokEq, ht]
    | sign c => rw [hk] at ht; have ht : k2 = 3 := ht.1; simp [VapcmBase.tokEq, ht]
    | last => rw [hk] at ht; have ht : k2 = 4 := ht.1; simp [VapcmBase.tokEq, ht]
  · cases hk : t.tok with
    | name b =>
      rw [hk] at ht
      have ht : k2 = _ := ht.1
      constructor
      · intro z; simp [VapcmBase.tokEq] at z
      · rintro ⟨z, _⟩
        rw [ht] at z
        split at z <;> omega
    | num n => rw [hk] at ht; have ht : k2 = 2 := ht; simp [VapcmBase.tokEq, ht]
    | sign d =>
      rw [hk] at ht
      obtain ⟨e1, e2⟩ := ht
      simp only [VapcmBase.tokEq, beq_iff_eq]
      constructor
      · rintro rfl
        exact ⟨e1, e2⟩
      · rintro ⟨_, z⟩
        rw [e2] at z
        have := (List.cons.inj z).1
        omega
    | last => rw [hk] at ht; have ht : k2 = 4 := ht.1; simp [VapcmBase.tokEq, ht]
/-- is_next(self, kind, letters) -/
def sp_Reader_is_next (K : PySem.W.Frag) : Sp := fun vs H Q _ => ∃ (x nl kl ul q : Addr) (l : Toks) (names unk : List Bytes) (tk : VapcmBase.Tok) (kd : Int) (e : List Int), vs = [.ref x, .int kd, .ref q] ∧ Rd K H x nl kl ul l names unk ∧ Want tk kd e ∧ SqT K H q (vis e) ∧ Q (.bl (VapcmBase.next tk l)) H
abbrev N_Reader_is_next : List Str := ["self", "kind", "letters"]
theorem sc_Reader_is_next : FnScope N_Reader_is_next ["self", "kind", "letters"] (defScope s_Reader_is_next) := ⟨rfl, rfl, rfl, by decide +kernel, rfl, by decide +kernel, by decide +kernel⟩
theorem g_Reader_is_next (T : Tx K mg) : GMe P w K mg base CX0 1 (He.ga K "Reader") "is_next" ["self", "kind", "letters"] (sp_Reader_is_next K) := by
  refine gme0 (f_Reader_is_next T) (m_Reader_is_next T) sc_Reader_is_next (fun _ _ _ _ _ _ us hl => match us, hl with | [_, _, _], _ => rfl) (fun vs H Q E h => ?_) (fun f cdv A outer s H vs Q E hr h => ⟨_, (pss_one (ps_ret (pe_and (pe_cmpR op_eq (pe_ix (ix_tupK K) (pe_ix (ix_listK K) (pe_fldK K (pv 0)) (pe_fldK K (pv 0)) (fun _ _ => rfl)) pe_int1 (fun _ _ => rfl)) (pv 1) (nomark _)) (pe_one (pe_cmpR (op_eqDK K hr.units) (pe_ix (ix_tupK K) (pe_ix (ix_listK K) (pe_fldK K (pv 0)) (pe_fldK K (pv 0)) (fun _ _ => rfl)) pe_int1 (fun _ _ => rfl)) (pv 2) (nomark _)))))), ?_⟩)
  · obtain ⟨x, nl, kl, ul, q, l, names, unk, tk, kd, e, rfl, _⟩ := h
    rfl
  · obtain ⟨x, nl, kl, ul, q, l, names, unk, tk, kd, e, rfl, hR, hw, hq, k⟩ := h
    obtain ⟨dx, tl, as, i, a, t, r, p, k2, lt, h1, h2, h3, rfl, h5, h6, h7⟩ := hR.at_
    rw [want_next hw h7 r] at k
    refine ⟨_, rfl, x, _, dx, _, _, rfl, h1, c_Reader T, n_Reader_tokens T, lr_tokens _ _ _ _, _, rfl, x, _, dx, _, _, rfl, h1, c_Reader T, n_Reader_at T, lr_at _ _ _ _, tl, _, _, .ref a, rfl, rfl, h2, h3, ?_⟩
    refine ⟨a, _, 0, _, rfl, rfl, h5, atI_nat (j := 0) rfl, _, rfl, rfl, _, rfl, ?_⟩
    rw [int_dec]
    by_cases c : k2 = kd
    · refine if_true_of (decide_eq_true c) ?_
      refine ⟨_, rfl, x, _, dx, _, _, rfl, h1, c_Reader T, n_Reader_tokens T, lr_tokens _ _ _ _, _, rfl, x, _, dx, _, _, rfl, h1, c_Reader T, n_Reader_at T, lr_at _ _ _ _, tl, _, _, .ref a, rfl, rfl, h2, h3, ?_⟩
      refine ⟨a, _, 1, _, rfl, rfl, h5, atI_nat (j := 1) rfl, _, rfl, _, _, dp_tup h6, dp_tup hq, dI_shaped _, dI_shaped _, ?_⟩
      rw [eqv_dI]
      rw [decide_eq_true c, Bool.true_and] at k
      exact k
    · refine if_false_of (decide_eq_false c) ?_
      rw [decide_eq_false c, Bool.false_and] at k
      exact k
/-- is_end(self) -/
def sp_Reader_is_end (K : PySem.W.Frag) : Sp := fun vs H Q _ => ∃ (x nl kl ul : Addr) (l : Toks) (names unk : List Bytes), vs = [.ref x] ∧ Rd K H x nl kl ul l names unk ∧ Q (.bl (VapcmBase.next .last l)) H
abbrev N_Reader_is_end : List Str := ["self"]
theorem sc_Reader_is_end : FnScope N_Reader_is_end ["self"] (defScope s_Reader_is_end) := ⟨rfl, rfl, rfl, by decide +kernel, rfl, by decide +kernel, by decide +kernel⟩
theorem g_Reader_is_end (T : Tx K mg) : GMe P w K mg base CX0 1 (He.ga K "Reader") "is_end" ["self"] (sp_Reader_is_end K) := by
  refine gme0 (f_Reader_is_end T) (m_Reader_is_end T) sc_Reader_is_end (fun _ _ _ _ _ _ us hl => match us, hl with | [_], _ => rfl) (fun vs H Q E h => ?_) (fun f cdv A outer s H vs Q E hr h => ⟨_, (pss_one (ps_ret (pe_cmpR op_eq (pe_ix (ix_tupK K) (pe_ix (ix_listK K) (pe_fldK K (pv 0)) (pe_fldK K (pv 0)) (fun _ _ => rfl)) pe_int1 (fun _ _ => rfl)) (pe_ci1 (t_END T)) (nomark _)))), ?_⟩)
  · obtain ⟨x, nl, kl, ul, l, names, unk, rfl, _⟩ := h
    rfl
  · obtain ⟨x, nl, kl, ul, l, names, unk, rfl, hR, k⟩ := h
    obtain ⟨dx, tl, as, i, a, t, r, p, k2, lt, h1, h2, h3, rfl, h5, h6, h7⟩ := hR.at_
    refine ⟨_, rfl, x, _, dx, _, _, rfl, h1, c_Reader T, n_Reader_tokens T, lr_tokens _ _ _ _, _, rfl, x, _, dx, _, _, rfl, h1, c_Reader T, n_Reader_at T, lr_at _ _ _ _, tl, _, _, .ref a, rfl, rfl, h2, h3, ?_⟩
    refine ⟨a, _, 0, _, rfl, rfl, h5, atI_nat (j := 0) rfl, rfl, ?_⟩
    rw [int_dec]
    have e : decide (k2 = 4) = VapcmBase.next .last (t :: r) := by
      show _ = VapcmBase.tokEq t.tok .last
      cases hk : t.tok with
      | name b => rw [hk] at h7; have h7 : k2 = _ := h7.1; rw [h7]; split <;> rfl
      | num n => rw [hk] at h7; have h7 : k2 = 2 := h7; rw [h7]; rfl
      | sign c => rw [hk] at h7; have h7 : k2 = 3 := h7.1; rw [h7]; rfl
      | last => rw [hk] at h7; have h7 : k2 = 4 := h7.1; rw [h7]; rfl
    rw [e]
    exact k
/-- take_sign(self, sign) -/
def sp_Reader_take_sign (K : PySem.W.Frag) : Sp := fun vs H Q E => ∃ (x nl kl ul q : Addr) (l : Toks) (names unk : List Bytes) (c : Nat), vs = [.ref x, .ref q] ∧ Rd K H x nl kl ul l names unk ∧ SqT K H q (vis [(c : Int)]) ∧
  (∀ f, takeSign c l = .error f → FaultAt K E H (f.code : Int) (f.place : Int)) ∧ ∀ m, takeSign c l = .ok m → ∀ H', But [x] H H' → Rd K H' x nl kl ul m names unk → Q .non H'
theorem takeSign_eq (c : Nat) (l : Toks) : takeSign c l = if VapcmBase.next (.sign c) l = true then .ok (l.drop 1) else .error ⟨3, VapcmBase.here l⟩ := rfl
abbrev N_Reader_take_sign : List Str := ["self", "sign"]
theorem sc_Reader_take_sign : FnScope N_Reader_take_sign ["self", "sign"] (defScope s_Reader_take_sign) := ⟨rfl, rfl, rfl, by decide +kernel, rfl, by decide +kernel, by decide +kernel⟩
theorem g_Reader_take_sign (T : Tx K mg) : GMe P w K mg base (L2.CX P w) 3 (He.ga K "Reader") "take_sign" ["self", "sign"] (sp_Reader_take_sign K) := by
  have g_Reader_is_next : GMe P w K mg base CX0 1 (He.ga K "Reader") "is_next" ["self", "kind", "letters"] (sp_Reader_is_next K) := g_Reader_is_next T
  have g_Reader_here : GMe P w K mg base CX0 1 (He.ga K "Reader") "here" ["self"] (sp_Reader_here K) := g_Reader_here T
  refine gmeX (f_Reader_take_sign T) (m_Reader_take_sign T) sc_Reader_take_sign (fun _ _ _ _ _ _ us hl => match us, hl with | [_, _], _ => rfl) (fun vs H Q E h => ?_) (fun f cdv A outer s H vs Q E hr h => ⟨_, (pss_cons (ps_if (pt_not (pt_val (pe_me (pv 0) (c_Reader T) g_Reader_is_next (hr.mono (by omega)) pass0 (pa_cons (pe_ci1 (t_SIGN T)) (pa_cons (pv 1) pa_nil1))))) (pss_one (ps_raise rfl (takes_of rfl rfl rfl rfl) (pmk_fault T (hr.mono (by omega)) (pa_cons pe_int1 (pa_cons (pe_me0 (pv 0) (c_Reader T) g_Reader_here (hr.mono (by omega)) pass0) pa_nil1)))))
  pss_nil)
  (pss_one (ps_fldaugK K (pv 0) pe_int1 in_add))), ?_⟩)
  · obtain ⟨x, nl, kl, ul, q, l, names, unk, c, rfl, _⟩ := h
    rfl
  · obtain ⟨x, nl, kl, ul, q, l, names, unk, c, rfl, hR, hq, k1, k2⟩ := h
    obtain ⟨dx, tl, as, i, a, t, r, p, kd, lt, h1, h2, h3, rfl, h5, h6, h7⟩ := hR.at_
    rw [takeSign_eq] at k1 k2
    refine ⟨_, rfl, x, dx, _, rfl, h1, rfl, _, rfl, x, nl, kl, ul, q, t :: r, names, unk, .sign c, 3, _, rfl, hR, .inr ⟨c, rfl, rfl, rfl⟩, hq, _, rfl, ?_⟩
    cases hn : VapcmBase.next (.sign c) (t :: r) with
    | false =>
      rw [hn] at k1
      refine if_true_of rfl ?_
      refine ⟨_, rfl, x, dx, _, rfl, h1, rfl, x, nl, kl, ul, t :: r, names, unk, rfl, hR, ?_⟩
      exact mkF (k1 _ (if_neg (by decide)))
    | true =>
      rw [hn] at k2
      refine if_false_of rfl ?_
      refine ⟨_, rfl, x, _, dx, _, _, rfl, h1, c_Reader T, n_Reader_at T, lr_at _ _ _ _, _, _, rfl, rfl, dx, _, h1, (show (4 : Nat) < 1000 by decide), ?_⟩
      have hne : t.tok ≠ .last := SP.tokEq_last (t := .sign c) hn (by simp)
      have hA := hR.adv rfl hne h1
      exact k2 r (if_pos rfl) _ (But.upd (But.refl H) (by simp)) hA
/-- take_word(self, word, many, most) -/
def sp_Reader_take_word (K : PySem.W.Frag) : Sp := fun vs H Q E => ∃ (x nl kl ul q : Addr) (l : Toks) (names unk : List Bytes) (wd : Bytes) (many most : Nat), vs = [.ref x, .ref q, .int (many : Int), .int (most : Int)] ∧ Rd K H x nl kl ul l names unk ∧ SqT K H q (vis (ni wd)) ∧ RESERVED.contains wd = true ∧
  (VapcmBase.next (.name wd) l = false → FaultAt K E H 3 ((VapcmBase.here l : Nat) : Int)) ∧ (VapcmBase.next (.name wd) l = true → many = most → FaultAt K E H 4 ((VapcmBase.here l : Nat) : Int)) ∧
  (VapcmBase.next (.name wd) l = true → many ≠ most → ∀ H', But [x] H H' → Rd K H' x nl kl ul (l.drop 1) names unk → Q .non H')
abbrev N_Reader_take_word : List Str := ["self", "word", "many", "most"]
theorem sc_Reader_take_word : FnScope N_Reader_take_word ["self", "word", "many", "most"] (defScope s_Reader_take_word) := ⟨rfl, rfl, rfl, by decide +kernel, rfl, by decide +kernel, by decide +kernel⟩
theorem g_Reader_take_word (T : Tx K mg) : GMe P w K mg base (L2.CX P w) 3 (He.ga K "Reader") "take_word" ["self", "word", "many", "most"] (sp_Reader_take_word K) := by
  have g_Reader_is_next : GMe P w K mg base CX0 1 (He.ga K "Reader") "is_next" ["self", "kind", "letters"] (sp_Reader_is_next K) := g_Reader_is_next T
  have g_Reader_here : GMe P w K mg base CX0 1 (He.ga K "Reader") "here" ["self"] (sp_Reader_here K) := g_Reader_here T
  refine gmeX (f_Reader_take_word T) (m_Reader_take_word T) sc_Reader_take_word (fun _ _ _ _ _ _ us hl => match us, hl with | [_, _, _, _], _ => rfl) (fun vs H Q E h => ?_) (fun f cdv A outer s H vs Q E hr h => ⟨_, (pss_cons (ps_if (pt_not (pt_val (pe_me (pv 0) (c_Reader T) g_Reader_is_next (hr.mono (by omega)) pass0 (pa_cons (pe_ci1 (t_WORD T)) (pa_cons (pv 1) pa_nil1))))) (pss_one (ps_raise rfl (takes_of rfl rfl rfl rfl) (pmk_fault T (hr.mono (by omega)) (pa_cons pe_int1 (pa_cons (pe_me0 (pv 0) (c_Reader T) g_Reader_here (hr.mono (by omega)) pass0) pa_nil1)))))
  pss_nil)
  (pss_cons (ps_if (pt_cmpR op_eq (pv 2) (pv 3) (nomark _)) (pss_one (ps_raise rfl (takes_of rfl rfl rfl rfl) (pmk_fault T (hr.mono (by omega)) (pa_cons pe_int1 (pa_cons (pe_me0 (pv 0) (c_Reader T) g_Reader_here (hr.mono (by omega)) pass0) pa_nil1)))))
  pss_nil)
  (pss_one (ps_fldaugK K (pv 0) pe_int1 in_add)))), ?_⟩)
  · obtain ⟨x, nl, kl, ul, q, l, names, unk, wd, many, most, rfl, _⟩ := h
    rfl
  · obtain ⟨x, nl, kl, ul, q, l, names, unk, wd, many, most, rfl, hR, hq, hres, k1, k2, k3⟩ := h
    obtain ⟨dx, tl, as, i, a, t, r, p, kd, lt, h1, h2, h3, rfl, h5, h6, h7⟩ := hR.at_
    refine ⟨_, rfl, x, dx, _, rfl, h1, rfl, _, rfl, x, nl, kl, ul, q, t :: r, names, unk, .name wd, 1, _, rfl, hR, .inl ⟨wd, rfl, hres, rfl, rfl⟩, hq, _, rfl, ?_⟩
    cases hn : VapcmBase.next (.name wd) (t :: r) with
    | false =>
      refine if_true_of rfl ?_
      refine ⟨_, rfl, x, dx, _, rfl, h1, rfl, x, nl, kl, ul, t :: r, names, unk, rfl, hR, ?_⟩
      exact mkF (k1 hn)
    | true =>
      refine if_false_of rfl ?_
      refine ⟨_, rfl, _, rfl, rfl, _, rfl, ?_⟩
      rw [int_dec]
      by_cases c : many = most
      · refine if_true_of (decide_eq_true (by omega)) ?_
        refine ⟨_, rfl, x, dx, _, rfl, h1, rfl, x, nl, kl, ul, t :: r, names, unk, rfl, hR, ?_⟩
        exact mkF (k2 hn c)
      · refine if_false_of (decide_eq_false (by omega)) ?_
        refine ⟨_, rfl, x, _, dx, _, _, rfl, h1, c_Reader T, n_Reader_at T, lr_at _ _ _ _, _, _, rfl, rfl, dx, _, h1, (show (4 : Nat) < 1000 by decide), ?_⟩
        have hne : t.tok ≠ .last := SP.tokEq_last (t := .name wd) hn (by simp)
        exact k3 hn c _ (But.upd (But.refl H) (by simp)) (hR.adv rfl hne h1)
end SPW
end
section
set_option Elab.async false
set_option linter.all false
set_option maxRecDepth 100000
set_option maxHeartbeats 4000000
namespace SPW
open PySem PySem.Spec PyProof.Rows L2
open SP (ni EndOk grow)
open VapcmBase (Bytes PTok Toks RESERVED word takeName takeSign PName)
open Vapcma (newName takeOld)
variable {P : Program} {w : World} {K : PySem.W.Frag} {mg : Str → Option Value} {base : Heap}
theorem takeName_tok {t : PTok} {kd : Int} {lt : List Int} (h : TokL t.tok kd lt) (r : Toks) : (kd = 0 ∧ ∃ b, lt = ni b ∧ t.tok = .name b ∧ takeName (t :: r) = .ok (⟨t.place, b⟩, r)) ∨ (kd ≠ 0 ∧ takeName (t :: r) = .error ⟨3, t.place⟩) := by
  obtain ⟨pl, tk⟩ := t
  cases tk with
  | name b =>
    obtain ⟨e1, e2⟩ := h
    have en : takeName (⟨pl, .name b⟩ :: r) = if RESERVED.contains b = true then .error ⟨3, pl⟩ else .ok (⟨pl, b⟩, r) := rfl
    by_cases c : RESERVED.contains b = true
    · rw [if_pos c] at e1 en
      exact .inr ⟨by omega, en⟩
    · rw [if_neg c] at e1 en
      exact .inl ⟨e1, b, e2, rfl, en⟩
  | num n => exact .inr ⟨by have : kd = 2 := h; omega, rfl⟩
  | sign c => exact .inr ⟨by have : kd = 3 := h.1; omega, rfl⟩
  | last => exact .inr ⟨by have : kd = 4 := h.1; omega, rfl⟩
/-- name_here(self) -/
def sp_Reader_name_here (K : PySem.W.Frag) : Sp := fun vs H Q E => ∃ (x nl kl ul : Addr) (l : Toks) (names unk : List Bytes), vs = [.ref x] ∧ Rd K H x nl kl ul l names unk ∧
  (∀ f, takeName l = .error f → FaultAt K E H (f.code : Int) (f.place : Int)) ∧ ∀ n m, takeName l = .ok (n, m) → ∀ p, SqT K H p (vis (ni n.name)) → Q (.ref p) H
abbrev N_Reader_name_here : List Str := ["self"]
theorem sc_Reader_name_here : FnScope N_Reader_name_here ["self"] (defScope s_Reader_name_here) := ⟨rfl, rfl, rfl, by decide +kernel, rfl, by decide +kernel, by decide +kernel⟩
theorem g_Reader_name_here (T : Tx K mg) : GMe P w K mg base (L2.CX P w) 3 (He.ga K "Reader") "name_here" ["self"] (sp_Reader_name_here K) := by
  have g_Reader_here : GMe P w K mg base CX0 1 (He.ga K "Reader") "here" ["self"] (sp_Reader_here K) := g_Reader_here T
  refine gmeX (f_Reader_name_here T) (m_Reader_name_here T) sc_Reader_name_here (fun _ _ _ _ _ _ us hl => match us, hl with | [_], _ => rfl) (fun vs H Q E h => ?_) (fun f cdv A outer s H vs Q E hr h => ⟨_, (pss_cons (ps_if (pt_cmpR op_ne (pe_ix (ix_tupK K) (pe_ix (ix_listK K) (pe_fldK K (pv 0)) (pe_fldK K (pv 0)) (fun _ _ => rfl)) pe_int1 (fun _ _ => rfl)) (pe_ci1 (t_NAME T)) (nomark _)) (pss_one (ps_raise rfl (takes_of rfl rfl rfl rfl) (pmk_fault T (hr.mono (by omega)) (pa_cons pe_int1 (pa_cons (pe_me0 (pv 0) (c_Reader T) g_Reader_here (hr.mono (by omega)) pass0) pa_nil1)))))
  pss_nil)
  (pss_one (ps_ret (pe_ix (ix_tupK K) (pe_ix (ix_listK K) (pe_fldK K (pv 0)) (pe_fldK K (pv 0)) (fun _ _ => rfl)) pe_int1 (fun _ _ => rfl))))), ?_⟩)
  · obtain ⟨x, nl, kl, ul, l, names, unk, rfl, _⟩ := h
    rfl
  · obtain ⟨x, nl, kl, ul, l, names, unk, rfl, hR, k1, k2⟩ := h
    obtain ⟨dx, tl, as, i, a, t, r, p, kd, lt, h1, h2, h3, rfl, h5, h6, h7⟩ := hR.at_
    refine ⟨_, rfl, x, _, dx, _, _, rfl, h1, c_Reader T, n_Reader_tokens T, lr_tokens _ _ _ _, _, rfl, x, _, dx, _, _, rfl, h1, c_Reader T, n_Reader_at T, lr_at _ _ _ _, tl, _, _, .ref a, rfl, rfl, h2, h3, ?_⟩
    refine ⟨a, _, 0, _, rfl, rfl, h5, atI_nat (j := 0) rfl, rfl, _, rfl, ?_⟩
    rw [int_dec]
    rcases takeName_tok h7 r with ⟨e, b, e2, e3, e4⟩ | ⟨e, e2⟩
    · refine if_false_of (by rw [decide_eq_true e]; rfl) ?_
      refine ⟨_, rfl, x, _, dx, _, _, rfl, h1, c_Reader T, n_Reader_tokens T, lr_tokens _ _ _ _, _, rfl, x, _, dx, _, _, rfl, h1, c_Reader T, n_Reader_at T, lr_at _ _ _ _, tl, _, _, .ref a, rfl, rfl, h2, h3, ?_⟩
      refine ⟨a, _, 1, _, rfl, rfl, h5, atI_nat (j := 1) rfl, k2 _ _ e4 p ?_⟩
      rw [← e2]
      exact h6
    · refine if_true_of (by rw [decide_eq_false e]; rfl) ?_
      refine ⟨_, rfl, x, dx, _, rfl, h1, rfl, x, nl, kl, ul, t :: r, names, unk, rfl, hR, ?_⟩
      exact mkF (k1 _ e2)
theorem bytes_in (b : Bytes) (l : List Bytes) : (l.map ni).contains (ni b) = l.contains b := by
  rw [Bool.eq_iff_iff]
  simp only [List.contains_iff_mem, List.mem_map]
  constructor
  · rintro ⟨x, hx, e⟩
    exact SP.ni_inj e ▸ hx
  · intro h
    exact ⟨b, h, rfl⟩
theorem newName_eq (old : List Bytes) (l : Toks) : newName old l = match takeName l with
  | .error f => .error f
  | .ok (n, m) => if old.contains n.name = true then .error ⟨5, n.place⟩ else .ok (n.name, m) := by
  unfold Vapcma.newName
  cases takeName l with
  | error f => rfl
  | ok x => rfl
/-- new_name(self) -/
def sp_Reader_new_name (K : PySem.W.Frag) : Sp := fun vs H Q E => ∃ (x nl kl ul : Addr) (l : Toks) (names unk : List Bytes), vs = [.ref x] ∧ Rd K H x nl kl ul l names unk ∧
  (∀ f, newName names l = .error f → FaultAt K E H (f.code : Int) (f.place : Int)) ∧ ∀ b m, newName names l = .ok (b, m) → ∀ H' p, But [x] H H' → Rd K H' x nl kl ul m names unk → SqT K H' p (vis (ni b)) → Q (.ref p) H'
abbrev N_Reader_new_name : List Str := ["self", "name"]
theorem sc_Reader_new_name : FnScope N_Reader_new_name ["self"] (defScope s_Reader_new_name) := ⟨rfl, rfl, rfl, by decide +kernel, rfl, by decide +kernel, by decide +kernel⟩
theorem g_Reader_new_name (T : Tx K mg) : GMe P w K mg base (L2.CX P w) 4 (He.ga K "Reader") "new_name" ["self"] (sp_Reader_new_name K) := by
  have g_Reader_here : GMe P w K mg base CX0 1 (He.ga K "Reader") "here" ["self"] (sp_Reader_here K) := g_Reader_here T
  have g_Reader_name_here : GMe P w K mg base (L2.CX P w) 3 (He.ga K "Reader") "name_here" ["self"] (sp_Reader_name_here K) := g_Reader_name_here T
  refine gmeX (f_Reader_new_name T) (m_Reader_new_name T) sc_Reader_new_name (fun _ _ _ _ _ _ us hl => match us, hl with | [_], _ => rfl) (fun vs H Q E h => ?_) (fun f cdv A outer s H vs Q E hr h => ⟨_, (pss_cons (ps_set (i := 1) sc_Reader_new_name.nd rfl (Or.inl rfl) (pe_me0 (pv 0) (c_Reader T) g_Reader_name_here (hr.mono (by omega)) (passR (takes_of rfl rfl rfl rfl))))
  (pss_cons (ps_if (pt_cmpR (op_inDK K hr.units65) (pv 1) (pe_fldK K (pv 0)) (by rfl)) (pss_one (ps_raise rfl (takes_of rfl rfl rfl rfl) (pmk_fault T (hr.mono (by omega)) (pa_cons pe_int1 (pa_cons (pe_me0 (pv 0) (c_Reader T) g_Reader_here (hr.mono (by omega)) pass0) pa_nil1)))))
  pss_nil)
  (pss_cons (ps_fldaugK K (pv 0) pe_int1 in_add)
  (pss_one (ps_ret (pv 1)))))), ?_⟩)
  · obtain ⟨x, nl, kl, ul, l, names, unk, rfl, _⟩ := h
    rfl
  · obtain ⟨x, nl, kl, ul, l, names, unk, rfl, hR, k1, k2⟩ := h
    obtain ⟨dx, tl, as, i, a, t, r, p, kd, lt, h1, h2, h3, rfl, h5, h6, h7⟩ := hR.at_
    rw [newName_eq] at k1 k2
    refine ⟨_, rfl, x, dx, _, rfl, h1, rfl, x, nl, kl, ul, t :: r, names, unk, rfl, hR, fun f hf => k1 f (by rw [hf]), fun n m hn q hq => ?_⟩
    rw [hn] at k1 k2
    obtain ⟨pl, b, el, hres, en⟩ := SP.takeName_ok hn
    subst en
    obtain ⟨ns, n1, n2⟩ := hR.nm
    have hne : t.tok ≠ .last := by
      have := (List.cons.inj el).1
      rw [this]
      simp
    have hm : m = r := (List.cons.inj el).2.symm
    have hpl : t.place = pl := by rw [(List.cons.inj el).1]
    refine ⟨_, rfl, _, rfl, x, _, dx, _, _, rfl, h1, c_Reader T, n_Reader_names T, lr_names _ _ _ _, _, _, dp_tup hq, dp_tupsL (SqL.of n1) n2, dI_shaped _, tups_shaped _, _, rfl, ?_⟩
    rw [any_dI, bytes_in]
    by_cases c : names.contains b = true
    · refine if_true_of c ?_
      refine ⟨_, rfl, x, dx, _, rfl, h1, rfl, x, nl, kl, ul, t :: r, names, unk, rfl, hR, ?_⟩
      have := k1 ⟨5, pl⟩ (if_pos c)
      rw [← hpl] at this
      exact mkF this
    · refine if_false_of (by simpa using c) ?_
      refine ⟨_, rfl, x, _, dx, _, _, rfl, h1, c_Reader T, n_Reader_at T, lr_at _ _ _ _, _, _, rfl, rfl, dx, _, h1, (show (4 : Nat) < 1000 by decide), ?_⟩
      have b1 : But [x] H (upd H x (.ins (He.ga K "Reader") dx (rdF tl (i + 1) nl ul))) := But.upd (But.refl H) (by simp)
      have m1 : Mu H [x] := fun a ha => hR.mu a (by simp at ha; simp [ha])
      have hA := hR.adv rfl hne h1
      rw [← hm] at hA
      exact ⟨_, rfl, k2 b m (if_neg c) _ q b1 hA (b1.tupM m1 hq)⟩
/-- names.index(name) -/
theorem idx_names {H : Hp} {a q : Addr} {ns : List Addr} {names : List Bytes} {b : Bytes} {Q : VK} (h1 : SqL K H a (vr ns)) (h2 : TupsAt K H ns (names.map ni)) (hq : SqT K H q (vis (ni b))) (hb : b ∈ names) (k : Q (.int ((names.findIdx fun m => m == b : Nat) : Int)) H) : rIndexD K (.ref a) [.ref q] H Q := by
  have hlt : (names.findIdx fun m => m == b) < names.length := List.findIdx_lt_length.mpr ⟨b, hb, by simp⟩
  have hg := List.findIdx_getElem (w := hlt)
  simp only [beq_iff_eq] at hg
  refine ⟨a, .ref q, dI (ni b), (names.map ni).map dI, names.findIdx fun m => m == b, dI (ni b), rfl, rfl, dp_tupsL h1 h2, dp_tup hq, tups_shaped _, dI_shaped _, ?_, ?_, fun m z hm hz => ?_, k⟩
  · rw [List.getElem?_map, List.getElem?_map, List.getElem?_eq_getElem hlt, hg]
    rfl
  · rw [eqv_dI]
    exact decide_eq_true rfl
  · rw [List.getElem?_map, List.getElem?_map] at hz
    have hml : m < names.length := by omega
    rw [List.getElem?_eq_getElem hml] at hz
    have hz := (Option.some.inj hz).symm
    subst hz
    rw [eqv_dI]
    refine decide_eq_false fun e => ?_
    have e2 := SP.ni_inj e
    have := List.not_of_lt_findIdx hm
    simp [e2] at this
theorem findIdx?_bytes (old : List Bytes) (b : Bytes) : (old.findIdx? fun y => y == b) = if old.contains b = true then some (old.findIdx fun y => y == b) else none := by
  cases h : old.findIdx? fun y => y == b with
  | none =>
    rw [List.findIdx?_eq_none_iff] at h
    rw [if_neg]
    intro c
    have := h b (by simpa using c)
    simp at this
  | some k =>
    have h2 := List.findIdx?_eq_some_iff_findIdx_eq.mp h
    have hm : b ∈ old := by
      rw [List.findIdx?_eq_some_iff_getElem] at h
      obtain ⟨hk, e, _⟩ := h
      have e : old[k] = b := by simpa using e
      exact e ▸ List.getElem_mem hk
    rw [if_pos (by simpa using hm), h2.2]
theorem takeOld_eq (old : List Bytes) (l : Toks) : takeOld old l = match takeName l with
  | .error f => .error f
  | .ok (n, m) => if old.contains n.name = true then .ok (old.findIdx fun y => y == n.name, m) else .error ⟨8, n.place⟩ := by
  unfold Vapcma.takeOld
  cases takeName l with
  | error f => rfl
  | ok x =>
    show (match old.findIdx? fun y => y == x.1.name with | none => _ | some k => _) = _
    rw [findIdx?_bytes]
    by_cases c : old.contains x.1.name = true
    · rw [if_pos c]
      show _ = if old.contains x.1.name = true then _ else _
      rw [if_pos c]
    · rw [if_neg c]
      show _ = if old.contains x.1.name = true then _ else _
      rw [if_neg c]
/-- old_item(self) -/
def sp_Reader_old_item (K : PySem.W.Frag) : Sp := fun vs H Q E => ∃ (x nl kl ul : Addr) (l : Toks) (names unk : List Bytes), vs = [.ref x] ∧ Rd K H x nl kl ul l names unk ∧
  (∀ f, takeOld names l = .error f → FaultAt K E H (f.code : Int) (f.place : Int)) ∧ ∀ (k : Nat) m, takeOld names l = .ok (k, m) → ∀ H', But [x] H H' → Rd K H' x nl kl ul m names unk → Q (.int (k : Int)) H'
abbrev N_Reader_old_item : List Str := ["self", "name"]
theorem sc_Reader_old_item : FnScope N_Reader_old_item ["self"] (defScope s_Reader_old_item) := ⟨rfl, rfl, rfl, by decide +kernel, rfl, by decide +kernel, by decide +kernel⟩
theorem g_Reader_old_item (T : Tx K mg) : GMe P w K mg base (L2.CX P w) 4 (He.ga K "Reader") "old_item" ["self"] (sp_Reader_old_item K) := by
  have g_Reader_here : GMe P w K mg base CX0 1 (He.ga K "Reader") "here" ["self"] (sp_Reader_here K) := g_Reader_here T
  have g_Reader_name_here : GMe P w K mg base (L2.CX P w) 3 (He.ga K "Reader") "name_here" ["self"] (sp_Reader_name_here K) := g_Reader_name_here T
  refine gmeX (f_Reader_old_item T) (m_Reader_old_item T) sc_Reader_old_item (fun _ _ _ _ _ _ us hl => match us, hl with | [_], _ => rfl) (fun vs H Q E h => ?_) (fun f cdv A outer s H vs Q E hr h => ⟨_, (pss_cons (ps_set (i := 1) sc_Reader_old_item.nd rfl (Or.inl rfl) (pe_me0 (pv 0) (c_Reader T) g_Reader_name_here (hr.mono (by omega)) (passR (takes_of rfl rfl rfl rfl))))
  (pss_cons (ps_if (pt_cmpR (op_notInDK K hr.units65) (pv 1) (pe_fldK K (pv 0)) (by rfl)) (pss_one (ps_raise rfl (takes_of rfl rfl rfl rfl) (pmk_fault T (hr.mono (by omega)) (pa_cons pe_int1 (pa_cons (pe_me0 (pv 0) (c_Reader T) g_Reader_here (hr.mono (by omega)) pass0) pa_nil1)))))
  pss_nil)
  (pss_cons (ps_fldaugK K (pv 0) pe_int1 in_add)
  (pss_one (ps_ret (pe_bmK K PySem.F.plainAttrs_list PySem.F.slot_list_index PySem.F.type_list_index (mt_indexDK K hr.units65) (pe_fldK K (pv 0)) (pa_cons (pv 1) pa_nil1))))))), ?_⟩)
  · obtain ⟨x, nl, kl, ul, l, names, unk, rfl, _⟩ := h
    rfl
  · obtain ⟨x, nl, kl, ul, l, names, unk, rfl, hR, k1, k2⟩ := h
    obtain ⟨dx, tl, as, i, a, t, r, p, kd, lt, h1, h2, h3, rfl, h5, h6, h7⟩ := hR.at_
    rw [takeOld_eq] at k1 k2
    refine ⟨_, rfl, x, dx, _, rfl, h1, rfl, x, nl, kl, ul, t :: r, names, unk, rfl, hR, fun f hf => k1 f (by rw [hf]), fun n m hn q hq => ?_⟩
    rw [hn] at k1 k2
    obtain ⟨pl, b, el, hres, en⟩ := SP.takeName_ok hn
    subst en
    obtain ⟨ns, n1, n2⟩ := hR.nm
    have hne : t.tok ≠ .last := by
      have := (List.cons.inj el).1
      rw [this]
      simp
    have hm : m = r := (List.cons.inj el).2.symm
    have hpl : t.place = pl := by rw [(List.cons.inj el).1]
    refine ⟨_, rfl, _, rfl, x, _, dx, _, _, rfl, h1, c_Reader T, n_Reader_names T, lr_names _ _ _ _, _, _, dp_tup hq, dp_tupsL (SqL.of n1) n2, dI_shaped _, tups_shaped _, _, rfl, ?_⟩
    rw [any_dI, bytes_in]
    by_cases c : names.contains b = true
    · refine if_false_of (by rw [c]; rfl) ?_
      refine ⟨_, rfl, x, _, dx, _, _, rfl, h1, c_Reader T, n_Reader_at T, lr_at _ _ _ _, _, _, rfl, rfl, dx, _, h1, (show (4 : Nat) < 1000 by decide), ?_⟩
      have b1 : But [x] H (upd H x (.ins (He.ga K "Reader") dx (rdF tl (i + 1) nl ul))) := But.upd (But.refl H) (by simp)
      have m1 : Mu H [x] := fun a ha => hR.mu a (by simp at ha; simp [ha])
      have hA := hR.adv rfl hne h1
      rw [← hm] at hA
      obtain ⟨dx2, tl2, as2, i2, a2, t2, r2, p2, kd2, lt2, j1, _⟩ := hA.at_
      obtain ⟨ns2, q1, q2⟩ := hA.nm
      refine ⟨_, rfl, x, _, dx2, _, _, rfl, j1, c_Reader T, n_Reader_names T, lr_names _ _ _ _, .inl ⟨rfl, _, SqL.of q1⟩, _, rfl, ?_⟩
      exact idx_names (SqL.of q1) q2 (b1.tupM m1 hq) (by simpa using c) (k2 _ m (if_pos c) _ b1 hA)
    · refine if_true_of (by rw [show names.contains b = false by simpa using c]; rfl) ?_
      refine ⟨_, rfl, x, dx, _, rfl, h1, rfl, x, nl, kl, ul, t :: r, names, unk, rfl, hR, ?_⟩
      have := k1 ⟨8, pl⟩ (if_neg c)
      rw [← hpl] at this
      exact mkF this
theorem pf_at1 (tl : Addr) (i : Nat) (nl ul : Addr) : putF "at" (V.int ((i : Int) + 1)) (rdF tl i nl ul) = rdF tl (i + 1) nl ul := rfl
/-- unknown(self) -/
def sp_Reader_unknown (K : PySem.W.Frag) : Sp := fun vs H Q E => ∃ (x nl kl ul : Addr) (l : Toks) (names unk : List Bytes), vs = [.ref x] ∧ Rd K H x nl kl ul l names unk ∧
  (∀ f, takeName l = .error f → FaultAt K E H (f.code : Int) (f.place : Int)) ∧ ∀ n m, takeName l = .ok (n, m) → ∀ H' p, But [x, nl, ul] H H' → Rd K H' x nl kl ul m names (grow unk [n.name]) → SqT K H' p (vis [0, (((grow unk [n.name]).findIdx fun y => y == n.name : Nat) : Int)]) → Q (.ref p) H'
abbrev N_Reader_unknown : List Str := ["self", "name"]
theorem sc_Reader_unknown : FnScope N_Reader_unknown ["self"] (defScope s_Reader_unknown) := ⟨rfl, rfl, rfl, by decide +kernel, rfl, by decide +kernel, by decide +kernel⟩
theorem g_Reader_unknown (T : Tx K mg) : GMe P w K mg base (L2.CX P w) 4 (He.ga K "Reader") "unknown" ["self"] (sp_Reader_unknown K) := by
  have g_Reader_name_here : GMe P w K mg base (L2.CX P w) 3 (He.ga K "Reader") "name_here" ["self"] (sp_Reader_name_here K) := g_Reader_name_here T
  refine gmeX (f_Reader_unknown T) (m_Reader_unknown T) sc_Reader_unknown (fun _ _ _ _ _ _ us hl => match us, hl with | [_], _ => rfl) (fun vs H Q E h => ?_) (fun f cdv A outer s H vs Q E hr h => ⟨_, (pss_cons (ps_set (i := 1) sc_Reader_unknown.nd rfl (Or.inl rfl) (pe_me0 (pv 0) (c_Reader T) g_Reader_name_here (hr.mono (by omega)) (passR (takes_of rfl rfl rfl rfl))))
  (pss_cons (ps_if (pt_cmpR (op_notInDK K hr.units65) (pv 1) (pe_fldK K (pv 0)) (by rfl)) (pss_one (ps_expr (pe_bmK K PySem.F.plainAttrs_list PySem.F.slot_list_append PySem.F.type_list_append mt_append (pe_fldK K (pv 0)) (pa_cons (pv 1) pa_nil1))))
  pss_nil)
  (pss_cons (ps_fldaugK K (pv 0) pe_int1 in_add)
  (pss_one (ps_ret (pe_tup (pa_cons (pe_ci1 (t_UNKNOWN T)) (pa_cons (pe_bmK K PySem.F.plainAttrs_list PySem.F.slot_list_index PySem.F.type_list_index (mt_indexDK K hr.units65) (pe_fldK K (pv 0)) (pa_cons (pv 1) pa_nil1)) pa_nil1)))))))), ?_⟩)
  · obtain ⟨x, nl, kl, ul, l, names, unk, rfl, _⟩ := h
    rfl
  · obtain ⟨x, nl, kl, ul, l, names, unk, rfl, hR, k1, k2⟩ := h
    obtain ⟨dx, tl, as, i, a, t, r, p, kd, lt, h1, h2, h3, rfl, h5, h6, h7⟩ := hR.at_
    refine ⟨_, rfl, x, dx, _, rfl, h1, rfl, x, nl, kl, ul, t :: r, names, unk, rfl, hR, k1, fun n m hn q hq => ?_⟩
    obtain ⟨pl, b, el, hres, en⟩ := SP.takeName_ok hn
    subst en
    obtain ⟨us, u1, u2⟩ := hR.un
    have hne : t.tok ≠ .last := by
      have := (List.cons.inj el).1
      rw [this]
      simp
    have hm : m = r := (List.cons.inj el).2.symm
    have b1 : But [x] H (upd H x (.ins (He.ga K "Reader") dx (rdF tl (i + 1) nl ul))) := But.upd (But.refl H) (by simp)
    have m1 : Mu H [x] := fun a ha => hR.mu a (by simp at ha; simp [ha])
    have hA := hR.adv rfl hne h1
    have huu := hR.uu
    have huu : unk.length + (r.length + 1) ≤ 6000 := huu
    refine ⟨_, rfl, _, rfl, x, _, dx, _, _, rfl, h1, c_Reader T, n_Reader_unknowns T, lr_unknowns _ _ _ _, _, _, dp_tup hq, dp_tupsL (SqL.of u1) u2, dI_shaped _, tups_shaped _, _, rfl, ?_⟩
    rw [any_dI, bytes_in]
    -- the end
    have fin : ∀ (H3 : Hp), But [x, nl, ul] H H3 → Rd K H3 x nl kl ul r names (grow unk [b]) → SqT K H3 q (vis (ni b)) → ∀ e, H3 e = none → Q (.ref e) (upd H3 e (.tup [.int 0, .int (((grow unk [b]).findIdx fun y => y == b : Nat) : Int)])) := by
      intro H3 b3 hR3 hq3 e he
      have s4 : Same H3 (upd H3 e (.tup [.int 0, .int (((grow unk [b]).findIdx fun y => y == b : Nat) : Int)])) := Same.new he
      exact k2 ⟨pl, b⟩ m hn _ e (b3.trans (But.of s4)) (by rw [hm]; exact hR3.same s4) (SqT.of upd_same)
    have hmem : b ∈ grow unk [b] := SP.grow_mem.mpr (.inr (by simp))
    by_cases c : unk.contains b = true
    · have hg : grow unk [b] = unk := by
        show (if unk.contains b = true then unk else unk ++ [b]) = unk
        rw [if_pos c]
      refine if_false_of (by rw [c]; rfl) ?_
      refine ⟨_, rfl, x, _, dx, _, _, rfl, h1, c_Reader T, n_Reader_at T, lr_at _ _ _ _, _, _, rfl, rfl, dx, _, h1, (show (4 : Nat) < 1000 by decide), ?_⟩
      rw [pf_at1]
      obtain ⟨dx2, tl2, as2, i2, a2, t2, r2, p2, kd2, lt2, j1, _⟩ := hA.at_
      obtain ⟨us2, q1, q2⟩ := hA.un
      have hq2 := b1.tupM m1 hq
      generalize upd H x (.ins (He.ga K "Reader") dx (rdF tl (i + 1) nl ul)) = H3 at *
      refine ⟨_, rfl, x, _, dx2, _, _, rfl, j1, c_Reader T, n_Reader_unknowns T, lr_unknowns _ _ _ _, .inl ⟨rfl, _, SqL.of q1⟩, _, rfl, ?_⟩
      refine idx_names (SqL.of q1) q2 hq2 (by simpa using c) ⟨small_size (by simp), fun e he => ?_⟩
      have := fin H3 (b1.more (by simp)) (by rw [hg]; exact hA) hq2 e he
      rw [hg] at this
      exact this
    · have hg : grow unk [b] = unk ++ [b] := by
        show (if unk.contains b = true then unk else unk ++ [b]) = unk ++ [b]
        rw [if_neg c]
      refine if_true_of (by rw [show unk.contains b = false by simpa using c]; rfl) ?_
      have ul2 := u2.len
      rw [List.length_map] at ul2
      refine ⟨_, rfl, x, _, dx, _, _, rfl, h1, c_Reader T, n_Reader_unknowns T, lr_unknowns _ _ _ _, .inl ⟨rfl, _, SqL.of u1⟩, _, rfl, ul, _, _, rfl, rfl, u1, small_lt (by rw [vr_len]; omega), ?_⟩
      rw [vr_snoc]
      have hxu := hR.xu
      have hx2 : upd H ul (.lst (vr (us ++ [q]))) x = some (.ins (He.ga K "Reader") dx (rdF tl i nl ul)) := (upd_ne hxu).trans h1
      refine ⟨_, rfl, x, _, dx, _, _, rfl, hx2, c_Reader T, n_Reader_at T, lr_at _ _ _ _, _, _, rfl, rfl, dx, _, hx2, (show (4 : Nat) < 1000 by decide), ?_⟩
      rw [pf_at1]
      have comm : upd (upd H ul (.lst (vr (us ++ [q])))) x (.ins (He.ga K "Reader") dx (rdF tl (i + 1) nl ul)) = upd (upd H x (.ins (He.ga K "Reader") dx (rdF tl (i + 1) nl ul))) ul (.lst (vr (us ++ [q]))) := by
        funext z
        by_cases z1 : z = x
        · subst z1
          rw [upd_same, upd_ne hxu, upd_same]
        · rw [upd_ne z1]
          by_cases z2 : z = ul
          · subst z2
            rw [upd_same, upd_same]
          · rw [upd_ne z2, upd_ne z2, upd_ne z1]
      rw [comm]
      have hq2 := b1.tupM m1 hq
      generalize upd H x (.ins (He.ga K "Reader") dx (rdF tl (i + 1) nl ul)) = H2 at *
      have v1 := b1 _ _ (by simpa using Ne.symm hxu) u1
      have v2 := b1.tupsM m1 u2
      have b2 : But [ul] H2 (upd H2 ul (.lst (vr (us ++ [q])))) := But.upd (But.refl _) (by simp)
      have m2 : Mu H2 [ul] := fun a ha => hA.mu a (by simp at ha; simp [ha])
      have hR3 : Rd K (upd H2 ul (.lst (vr (us ++ [q])))) x nl kl ul r names (unk ++ [b]) := by
        obtain ⟨⟨dx', tl', as', ts', i', g1, g2, g3, g4, g5⟩, en, ln, ⟨ns, n1, n2⟩, _, ne, nn, _⟩ := hA
        refine ⟨⟨dx', tl', as', ts', i', b2 _ _ (by simpa using hxu) g1, b2 _ _ (fun z => g5.1 (by simp at z; simp [z])) g2, b2.toksM m2 g3, g4, g5⟩, en, ln, ⟨ns, b2 _ _ (by simpa using ne) n1, b2.tupsM m2 n2⟩, ⟨us ++ [q], upd_same, ?_⟩, ne, nn, by simp; omega⟩
        rw [List.map_append]
        exact TupsAt.snoc (b2.tupM m2 hq2) (b2.tupsM m2 v2)
      have hq3 := b2.tupM m2 hq2
      have b13 : But [x, nl, ul] H (upd H2 ul (.lst (vr (us ++ [q])))) := (b1.more (by simp)).trans (b2.more (by simp))
      generalize upd H2 ul (.lst (vr (us ++ [q]))) = H3 at *
      obtain ⟨dx2, tl2, as2, i2, a2, t2, r2, p2, kd2, lt2, j1, _⟩ := hR3.at_
      obtain ⟨us3, q1, q2⟩ := hR3.un
      refine ⟨_, rfl, x, _, dx2, _, _, rfl, j1, c_Reader T, n_Reader_unknowns T, lr_unknowns _ _ _ _, .inl ⟨rfl, _, SqL.of q1⟩, _, rfl, ?_⟩
      refine idx_names (SqL.of q1) q2 hq3 (by simp) ⟨small_size (by simp), fun e he => ?_⟩
      have := fin H3 b13 (by rw [hg]; exact hR3) hq3 e he
      rw [hg] at this
      exact this
/-- go_within(self, depth) -/
def sp_Reader_go_within (K : PySem.W.Frag) : Sp := fun vs H Q E => ∃ (x nl kl ul : Addr) (l : Toks) (names unk : List Bytes) (d : Nat) (t : PTok) (r : Toks), vs = [.ref x, .int (d : Int)] ∧ Rd K H x nl kl ul l names unk ∧ l = t :: r ∧ t.tok ≠ .last ∧
  (d = 40 → FaultAt K E H 10 ((VapcmBase.here l : Nat) : Int)) ∧ (d ≠ 40 → ∀ H', But [x] H H' → Rd K H' x nl kl ul r names unk → Q .non H')
abbrev N_Reader_go_within : List Str := ["self", "depth"]
theorem sc_Reader_go_within : FnScope N_Reader_go_within ["self", "depth"] (defScope s_Reader_go_within) := ⟨rfl, rfl, rfl, by decide +kernel, rfl, by decide +kernel, by decide +kernel⟩
theorem g_Reader_go_within (T : Tx K mg) : GMe P w K mg base (L2.CX P w) 3 (He.ga K "Reader") "go_within" ["self", "depth"] (sp_Reader_go_within K) := by
  have g_Reader_here : GMe P w K mg base CX0 1 (He.ga K "Reader") "here" ["self"] (sp_Reader_here K) := g_Reader_here T
  refine gmeX (f_Reader_go_within T) (m_Reader_go_within T) sc_Reader_go_within (fun _ _ _ _ _ _ us hl => match us, hl with | [_, _], _ => rfl) (fun vs H Q E h => ?_) (fun f cdv A outer s H vs Q E hr h => ⟨_, (pss_cons (ps_if (pt_cmpR op_eq (pv 1) (pe_ci1 (t_MOST_WITHIN T)) (nomark _)) (pss_one (ps_raise rfl (takes_of rfl rfl rfl rfl) (pmk_fault T (hr.mono (by omega)) (pa_cons pe_int1 (pa_cons (pe_me0 (pv 0) (c_Reader T) g_Reader_here (hr.mono (by omega)) pass0) pa_nil1)))))
  pss_nil)
  (pss_one (ps_fldaugK K (pv 0) pe_int1 in_add))), ?_⟩)
  · obtain ⟨x, nl, kl, ul, l, names, unk, d, t, r, rfl, _⟩ := h
    rfl
  · obtain ⟨x, nl, kl, ul, l, names, unk, d, t, r, rfl, hR, hl, hne, k1, k2⟩ := h
    obtain ⟨dx, tl, as, i, a, t', r', p, kd, lt, h1, h2, h3, h4, h5, h6, h7⟩ := hR.at_
    refine ⟨_, rfl, rfl, _, rfl, ?_⟩
    rw [int_dec]
    by_cases c : d = 40
    · refine if_true_of (decide_eq_true (by omega)) ?_
      refine ⟨_, rfl, x, dx, _, rfl, h1, rfl, x, nl, kl, ul, l, names, unk, rfl, hR, ?_⟩
      exact mkF (k1 c)
    · refine if_false_of (decide_eq_false (by omega)) ?_
      refine ⟨_, rfl, x, _, dx, _, _, rfl, h1, c_Reader T, n_Reader_at T, lr_at _ _ _ _, _, _, rfl, rfl, dx, _, h1, (show (4 : Nat) < 1000 by decide), ?_⟩
      exact k2 c _ (But.upd (But.refl H) (by simp)) (hR.adv hl hne h1)
end SPW
end
section
set_option Elab.async false
set_option linter.all false
set_option maxRecDepth 100000
set_option maxHeartbeats 4000000
namespace SPW
open PySem PySem.Spec PyProof.Rows L2
open SP (ni EndOk grow ci rawSize formOf_size formOf_grow)
open VapcmBase (Bytes PTok Toks RESERVED word takeName takeSign PName)
open Vapcma (Raw rawNames formOf takeForm takePart)
variable {P : Program} {w : World} {K : PySem.W.Frag} {mg : Str → Option Value} {base : Heap}
/-- an error that flies, some things changed before -/
def ErrAt (K : PySem.W.Frag) (E : XK) (L : List Addr) (H : Hp) (c p : Int) : Prop := ∀ d H', But L H H' → H' d = some (.xd [("place", .int p), ("code", .int c)]) → E (.ref (He.ga K "Fault")) (some d) H'
theorem ErrAt.fault {E : XK} {L : List Addr} {H H1 : Hp} {c p : Int} (h : ErrAt K E L H c p) (b : But L H H1) : FaultAt K E H1 c p := fun d H' s hd => h d H' (b.trans (But.of s)) hd
theorem ErrAt.on {E : XK} {L : List Addr} {H H1 : Hp} {c p : Int} (h : ErrAt K E L H c p) (b : But L H H1) : ErrAt K E L H1 c p := fun d H' s hd => h d H' (b.trans s) hd
/-- part(self, depth) -/
def sp_part (K : PySem.W.Frag) (e : Nat) : Sp := fun vs H Q E => ∃ (x nl kl ul : Addr) (l : Toks) (names unk : List Bytes) (d n : Nat), vs = [.ref x, .int (d : Int)] ∧ Rd K H x nl kl ul l names unk ∧ d + e = 41 ∧ d ≤ 40 ∧ 2 * l.length + 1 ≤ n ∧
  (∀ f, takePart n d l = .error f → ErrAt K E [x, nl, ul] H (f.code : Int) (f.place : Int)) ∧
  ∀ r m, takePart n d l = .ok (r, m) → ∀ H' p, But [x, nl, ul] H H' → Rd K H' x nl kl ul m names (grow unk (rawNames r)) → SqT K H' p (vis (ci (formOf (grow unk (rawNames r)) r))) → rawSize r + m.length ≤ l.length → Q (.ref p) H'
def sp_chain (K : PySem.W.Frag) (e : Nat) : Sp := fun vs H Q E => ∃ (x nl kl ul : Addr) (l : Toks) (names unk : List Bytes) (d n : Nat), vs = [.ref x, .int (d : Int)] ∧ Rd K H x nl kl ul l names unk ∧ d + e = 41 ∧ d ≤ 40 ∧ 2 * l.length + 2 ≤ n ∧
  (∀ f, takeForm n d l = .error f → ErrAt K E [x, nl, ul] H (f.code : Int) (f.place : Int)) ∧
  ∀ r m, takeForm n d l = .ok (r, m) → ∀ H' p, But [x, nl, ul] H H' → Rd K H' x nl kl ul m names (grow unk (rawNames r)) → SqT K H' p (vis (ci (formOf (grow unk (rawNames r)) r))) → rawSize r + m.length ≤ l.length → Q (.ref p) H'
theorem takePart_eq (n d : Nat) (l : Toks) : takePart (n + 1) d l = if VapcmBase.next (.sign 126) l = true then (if 40 ≤ d then .error ⟨10, VapcmBase.here l⟩ else (takePart n (d + 1) (l.drop 1)).map fun x => (Raw.neg x.1, x.2))
      else if VapcmBase.next (.sign 40) l = true then (if 40 ≤ d then .error ⟨10, VapcmBase.here l⟩ else (takeForm n (d + 1) (l.drop 1)).bind fun x => (takeSign 41 x.2).map fun m => (x.1, m))
      else (takeName l).map fun x => (Raw.var x.1.name, x.2) := by
  rw [takePart]
  rfl
theorem takeForm_eq (n d : Nat) (l : Toks) : takeForm (n + 1) d l = (takePart n d l).bind fun x => if VapcmBase.next (.sign 62) x.2 = true then (if 40 ≤ d then .error ⟨10, VapcmBase.here x.2⟩ else (takeForm n (d + 1) (x.2.drop 1)).map fun y => (Raw.imp x.1 y.1, y.2)) else .ok x := by
  rw [takeForm]
  rfl
abbrev N_Reader_part : List Str := ["self", "depth", "inner"]
theorem sc_Reader_part : FnScope N_Reader_part ["self", "depth"] (defScope s_Reader_part) := ⟨rfl, rfl, rfl, by decide +kernel, rfl, by decide +kernel, by decide +kernel⟩
abbrev N_Reader_chain : List Str := ["self", "depth", "first"]
theorem sc_Reader_chain : FnScope N_Reader_chain ["self", "depth"] (defScope s_Reader_chain) := ⟨rfl, rfl, rfl, by decide +kernel, rfl, by decide +kernel, by decide +kernel⟩
theorem g_part_of (T : Tx K mg) (e : Nat) (g_Reader_part : GMe P w K mg base (L2.CX P w) (2 * e + 4) (He.ga K "Reader") "part" ["self", "depth"] (sp_part K e)) (g_Reader_chain : GMe P w K mg base (L2.CX P w) (2 * e + 5) (He.ga K "Reader") "chain" ["self", "depth"] (sp_chain K e)) :
    GMe P w K mg base (L2.CX P w) (2 * e + 6) (He.ga K "Reader") "part" ["self", "depth"] (sp_part K (e + 1)) := by
  have g_Reader_is_next : GMe P w K mg base CX0 1 (He.ga K "Reader") "is_next" ["self", "kind", "letters"] (sp_Reader_is_next K) := g_Reader_is_next T
  have g_Reader_go_within : GMe P w K mg base (L2.CX P w) 3 (He.ga K "Reader") "go_within" ["self", "depth"] (sp_Reader_go_within K) := g_Reader_go_within T
  have g_Reader_take_sign : GMe P w K mg base (L2.CX P w) 3 (He.ga K "Reader") "take_sign" ["self", "sign"] (sp_Reader_take_sign K) := g_Reader_take_sign T
  have g_Reader_unknown : GMe P w K mg base (L2.CX P w) 4 (He.ga K "Reader") "unknown" ["self"] (sp_Reader_unknown K) := g_Reader_unknown T
  refine gmeX (f_Reader_part T) (m_Reader_part T) sc_Reader_part (fun _ _ _ _ _ _ us hl => match us, hl with | [_, _], _ => rfl) (fun vs H Q E h => ?_) (fun f cdv A outer s H vs Q E hr h => ⟨_, (pss_cons (ps_if (pt_val (pe_me (pv 0) (c_Reader T) g_Reader_is_next (hr.mono (by omega)) pass0 (pa_cons (pe_ci1 (t_SIGN T)) (pa_cons (pe_ca1 (t_TILDE T)) pa_nil1)))) (pss_cons (ps_expr (pe_me (pv 0) (c_Reader T) g_Reader_go_within (hr.mono (by omega)) (passR (takes_of rfl rfl rfl rfl)) (pa_cons (pv 1) pa_nil1)))
  (pss_one (ps_ret (pe_op (op_catK K) (pe_tup (pa_cons (pe_ci1 (t_DENIED T)) pa_nil1)) (pe_me (pv 0) (c_Reader T) g_Reader_part (hr.mono (by omega)) (passR (takes_of rfl rfl rfl rfl)) (pa_cons (pe_op op_add (pv 1) pe_int1) pa_nil1))))))
  pss_nil)
  (pss_cons (ps_if (pt_val (pe_me (pv 0) (c_Reader T) g_Reader_is_next (hr.mono (by omega)) pass0 (pa_cons (pe_ci1 (t_SIGN T)) (pa_cons (pe_ca1 (t_OPENING T)) pa_nil1)))) (pss_cons (ps_expr (pe_me (pv 0) (c_Reader T) g_Reader_go_within (hr.mono (by omega)) (passR (takes_of rfl rfl rfl rfl)) (pa_cons (pv 1) pa_nil1)))
  (pss_cons (ps_set (i := 2) sc_Reader_part.nd rfl (Or.inl rfl) (pe_me (pv 0) (c_Reader T) g_Reader_chain (hr.mono (by omega)) (passR (takes_of rfl rfl rfl rfl)) (pa_cons (pe_op op_add (pv 1) pe_int1) pa_nil1)))
  (pss_cons (ps_expr (pe_me (pv 0) (c_Reader T) g_Reader_take_sign (hr.mono (by omega)) (passR (takes_of rfl rfl rfl rfl)) (pa_cons (pe_ca1 (t_CLOSING T)) pa_nil1)))
  (pss_one (ps_ret (pv 2))))))
  pss_nil)
  (pss_one (ps_ret (pe_me0 (pv 0) (c_Reader T) g_Reader_unknown (hr.mono (by omega)) (passR (takes_of rfl rfl rfl rfl))))))), ?_⟩)
  · obtain ⟨x, nl, kl, ul, l, names, unk, d, n, rfl, _⟩ := h
    rfl
  · obtain ⟨x, nl, kl, ul, l, names, unk, d, n, rfl, hR, hde, hd, hn, k1, k2⟩ := h
    obtain ⟨dx, tl, as, i, a, t, r0, p, kd, lt, h1, h2, h3, rfl, h5, h6, h7⟩ := hR.at_
    obtain ⟨n, rfl⟩ : ∃ n', n = n' + 1 := ⟨n - 1, by omega⟩
    rw [takePart_eq] at k1 k2
    have hln := hR.ln
    refine ⟨_, rfl, x, dx, _, rfl, h1, rfl, x, nl, kl, ul, He.ga K "TILDE", t :: r0, names, unk, .sign 126, 3, [126], rfl, hR, .inr ⟨126, rfl, rfl, rfl⟩, u_TILDE T H, _, rfl, ?_⟩
    cases c1 : VapcmBase.next (.sign 126) (t :: r0) with
    | true =>
      rw [if_pos c1] at k1 k2
      have hne : t.tok ≠ .last := SP.tokEq_last (t := .sign 126) c1 (by simp)
      refine if_true_of rfl ?_
      refine ⟨_, rfl, x, dx, _, rfl, h1, rfl, _, rfl, x, nl, kl, ul, t :: r0, names, unk, d, t, r0, rfl, hR, rfl, hne, fun hd40 => ?_, fun hd40 H1 b1 hR1 => ?_⟩
      · rw [if_pos (by omega)] at k1
        exact (k1 _ rfl).fault (But.refl H)
      · rw [if_neg (by omega)] at k1 k2
        refine ⟨small_size (by simp), fun q hq => ?_⟩
        have s2 : Same H1 (upd H1 q (.tup [.int 2])) := Same.new hq
        have hq2 : SqT K (upd H1 q (.tup [.int 2])) q (vis [2]) := SqT.of upd_same
        have hR2 := hR1.same s2
        have bA : But [x, nl, ul] H (upd H1 q (.tup [.int 2])) := (b1.more (by simp)).trans (But.of s2)
        generalize upd H1 q (.tup [.int 2]) = H2 at s2 hq2 hR2 bA ⊢
        obtain ⟨dx2, tl2, as2, i2, a2, t2, r2, p2, kd2, lt2, j1, _⟩ := hR2.at_
        refine ⟨_, rfl, x, dx2, _, rfl, j1, rfl, _, rfl, _, _, rfl, rfl, x, nl, kl, ul, r0, names, unk, d + 1, n, rfl, hR2, by omega, by omega, by simp only [List.length_cons] at hn; omega, fun f hf => ?_, fun r m hr H3 p3 b3 hR3 hp3 hz => ?_⟩
        · exact (k1 f (by rw [show (t :: r0).drop 1 = r0 from rfl, hf]; rfl)).on bA
        · refine catA (b3.tupM hR2.mu hq2) hp3 ?_ fun p4 H4 s4 hp4 => ?_
          · have := SP.ci_le (formOf (grow unk (rawNames r)) r)
            rw [formOf_size] at this
            simp only [List.length_cons] at hln
            simp
            omega
          · refine k2 (Raw.neg r) m (by rw [show (t :: r0).drop 1 = r0 from rfl, hr]; rfl) H4 p4 ((bA.trans b3).trans (But.of s4)) (hR3.same s4) ?_ (by simp only [rawSize, List.length_cons]; omega)
            exact hp4
    | false =>
      rw [if_neg (by rw [c1]; decide)] at k1 k2
      refine if_false_of rfl ?_
      refine ⟨_, rfl, x, dx, _, rfl, h1, rfl, x, nl, kl, ul, He.ga K "OPENING", t :: r0, names, unk, .sign 40, 3, [40], rfl, hR, .inr ⟨40, rfl, rfl, rfl⟩, u_OPENING T H, _, rfl, ?_⟩
      cases c2 : VapcmBase.next (.sign 40) (t :: r0) with
      | true =>
        rw [if_pos c2] at k1 k2
        have hne : t.tok ≠ .last := SP.tokEq_last (t := .sign 40) c2 (by simp)
        refine if_true_of rfl ?_
        refine ⟨_, rfl, x, dx, _, rfl, h1, rfl, _, rfl, x, nl, kl, ul, t :: r0, names, unk, d, t, r0, rfl, hR, rfl, hne, fun hd40 => ?_, fun hd40 H1 b1 hR1 => ?_⟩
        · rw [if_pos (by omega)] at k1
          exact (k1 _ rfl).fault (But.refl H)
        · rw [if_neg (by omega)] at k1 k2
          have bA : But [x, nl, ul] H H1 := b1.more (by simp)
          obtain ⟨dx2, tl2, as2, i2, a2, t2, r2, p2, kd2, lt2, j1, _⟩ := hR1.at_
          refine ⟨_, rfl, x, dx2, _, rfl, j1, rfl, _, rfl, _, _, rfl, rfl, x, nl, kl, ul, r0, names, unk, d + 1, n, rfl, hR1, by omega, by omega, by simp only [List.length_cons] at hn; omega, fun f hf => ?_, fun r m hr H3 p3 b3 hR3 hp3 hz => ?_⟩
          · exact (k1 f (by rw [show (t :: r0).drop 1 = r0 from rfl, hf]; rfl)).on bA
          · have k1' : ∀ f, takeSign 41 m = .error f → ErrAt K E [x, nl, ul] H (f.code : Int) (f.place : Int) := fun f hf => k1 f (by rw [show (t :: r0).drop 1 = r0 from rfl, hr]; show Except.map _ (takeSign 41 m) = _; rw [hf]; rfl)
            have k2' : ∀ m', takeSign 41 m = .ok m' → ∀ H' p, But [x, nl, ul] H H' → Rd K H' x nl kl ul m' names (grow unk (rawNames r)) → SqT K H' p (vis (ci (formOf (grow unk (rawNames r)) r))) → rawSize r + m'.length ≤ (t :: r0).length → Q (.ref p) H' := fun m' hm => k2 r m' (by rw [show (t :: r0).drop 1 = r0 from rfl, hr]; show Except.map _ (takeSign 41 m) = _; rw [hm]; rfl)
            obtain ⟨dx3, tl3, as3, i3, a3, t3, r3, p33, kd3, lt3, j3, _⟩ := hR3.at_
            have hcl : SqT K H3 (He.ga K "CLOSING") (vis [((41 : Nat) : Int)]) := u_CLOSING T H3
            refine ⟨_, rfl, x, dx3, _, rfl, j3, rfl, x, nl, kl, ul, He.ga K "CLOSING", m, names, _, 41, rfl, hR3, hcl, fun f hf => (k1' f hf).fault (bA.trans b3), fun m' hm' H4 b4 hR4 => ?_⟩
            have hm2 := (SP.takeSign_ok hm').2
            refine ⟨_, rfl, k2' m' hm' H4 p3 ((bA.trans b3).trans (b4.more (by simp))) hR4 (b4.tupM (fun a ha => hR3.mu a (by simp at ha; simp [ha])) hp3) ?_⟩
            rw [hm2]
            simp only [List.length_drop, List.length_cons]
            omega
      | false =>
        rw [if_neg (by rw [c2]; decide)] at k1 k2
        refine if_false_of rfl ?_
        refine ⟨_, rfl, x, dx, _, rfl, h1, rfl, x, nl, kl, ul, t :: r0, names, unk, rfl, hR, fun f hf => (k1 f (by rw [hf]; rfl)).fault (But.refl H), fun nm m hm H1 q b1 hR1 hq => ?_⟩
        obtain ⟨pl, b, el, hres, en⟩ := SP.takeName_ok hm
        subst en
        have hm2 : m = r0 := (List.cons.inj el).2.symm
        refine k2 (Raw.var b) m (by rw [hm]; rfl) H1 q b1 hR1 hq ?_
        rw [hm2]
        simp only [rawSize, List.length_cons]
        omega
end SPW
end
section
set_option Elab.async false
set_option linter.all false
set_option maxRecDepth 100000
set_option maxHeartbeats 4000000
namespace SPW
open PySem PySem.Spec PyProof.Rows L2
open SP (ni EndOk grow ci rawSize formOf_size formOf_grow)
open VapcmBase (Bytes PTok Toks RESERVED word takeName takeSign PName)
open Vapcma (Form Raw rawNames formOf takeForm takePart takeFormula)
variable {P : Program} {w : World} {K : PySem.W.Frag} {mg : Str → Option Value} {base : Heap}
theorem g_chain_of (T : Tx K mg) (e : Nat) (g_Reader_part : GMe P w K mg base (L2.CX P w) (2 * e + 6) (He.ga K "Reader") "part" ["self", "depth"] (sp_part K (e + 1))) (g_Reader_chain : GMe P w K mg base (L2.CX P w) (2 * e + 5) (He.ga K "Reader") "chain" ["self", "depth"] (sp_chain K e)) :
    GMe P w K mg base (L2.CX P w) (2 * e + 7) (He.ga K "Reader") "chain" ["self", "depth"] (sp_chain K (e + 1)) := by
  have g_Reader_is_next : GMe P w K mg base CX0 1 (He.ga K "Reader") "is_next" ["self", "kind", "letters"] (sp_Reader_is_next K) := g_Reader_is_next T
  have g_Reader_go_within : GMe P w K mg base (L2.CX P w) 3 (He.ga K "Reader") "go_within" ["self", "depth"] (sp_Reader_go_within K) := g_Reader_go_within T
  refine gmeX (f_Reader_chain T) (m_Reader_chain T) sc_Reader_chain (fun _ _ _ _ _ _ us hl => match us, hl with | [_, _], _ => rfl) (fun vs H Q E h => ?_) (fun f cdv A outer s H vs Q E hr h => ⟨_, (pss_cons (ps_set (i := 2) sc_Reader_chain.nd rfl (Or.inl rfl) (pe_me (pv 0) (c_Reader T) g_Reader_part (hr.mono (by omega)) (passR (takes_of rfl rfl rfl rfl)) (pa_cons (pv 1) pa_nil1)))
  (pss_cons (ps_if (pt_not (pt_val (pe_me (pv 0) (c_Reader T) g_Reader_is_next (hr.mono (by omega)) pass0 (pa_cons (pe_ci1 (t_SIGN T)) (pa_cons (pe_ca1 (t_GREATER T)) pa_nil1))))) (pss_one (ps_ret (pv 2)))
  pss_nil)
  (pss_cons (ps_expr (pe_me (pv 0) (c_Reader T) g_Reader_go_within (hr.mono (by omega)) (passR (takes_of rfl rfl rfl rfl)) (pa_cons (pv 1) pa_nil1)))
  (pss_one (ps_ret (pe_op (op_catK K) (pe_op (op_catK K) (pe_tup (pa_cons (pe_ci1 (t_IMPLIES T)) pa_nil1)) (pv 2)) (pe_me (pv 0) (c_Reader T) g_Reader_chain (hr.mono (by omega)) (passR (takes_of rfl rfl rfl rfl)) (pa_cons (pe_op op_add (pv 1) pe_int1) pa_nil1)))))))), ?_⟩)
  · obtain ⟨x, nl, kl, ul, l, names, unk, d, n, rfl, _⟩ := h
    rfl
  · obtain ⟨x, nl, kl, ul, l, names, unk, d, n, rfl, hR, hde, hd, hn, k1, k2⟩ := h
    obtain ⟨dx, tl, as, i, a, t, r0, p, kd, lt, h1, h2, h3, h4, h5, h6, h7⟩ := hR.at_
    obtain ⟨n, rfl⟩ : ∃ n', n = n' + 1 := ⟨n - 1, by omega⟩
    rw [takeForm_eq] at k1 k2
    have hln := hR.ln
    refine ⟨_, rfl, x, dx, _, rfl, h1, rfl, _, rfl, x, nl, kl, ul, l, names, unk, d, n, rfl, hR, hde, hd, by omega, fun f hf => k1 f (by rw [hf]; rfl), fun ra m hm H1 p1 b1 hR1 hp1 hz1 => ?_⟩
    have ebind : ∀ {B : Type} (g : Raw × Toks → Except VapcmBase.Fault B), (takePart n d l).bind g = g (ra, m) := fun g => by rw [hm]; rfl
    rw [ebind] at k1 k2
    dsimp only at k1 k2
    obtain ⟨dx1, tl1, as1, i1, a1, t1, r1, q1, kd1, lt1, j1, _, _, jl, _, _, _⟩ := hR1.at_
    refine ⟨_, rfl, x, dx1, _, rfl, j1, rfl, x, nl, kl, ul, He.ga K "GREATER", m, names, _, .sign 62, 3, [62], rfl, hR1, .inr ⟨62, rfl, rfl, rfl⟩, u_GREATER T H1, _, rfl, ?_⟩
    cases c1 : VapcmBase.next (.sign 62) m with
    | false =>
      rw [if_neg (by rw [c1]; decide)] at k1 k2
      refine if_true_of rfl ?_
      exact ⟨_, rfl, k2 ra m rfl H1 p1 b1 hR1 hp1 hz1⟩
    | true =>
      rw [if_pos c1] at k1 k2
      refine if_false_of rfl ?_
      subst jl
      have hne : t1.tok ≠ .last := SP.tokEq_last (t := .sign 62) c1 (by simp)
      refine ⟨_, rfl, x, dx1, _, rfl, j1, rfl, _, rfl, x, nl, kl, ul, t1 :: r1, names, _, d, t1, r1, rfl, hR1, rfl, hne, fun hd40 => ?_, fun hd40 H2 b2 hR2 => ?_⟩
      · rw [if_pos (by omega)] at k1
        exact (k1 _ rfl).fault b1
      · rw [if_neg (by omega)] at k1 k2
        have hp2 := b2.tupM (fun a ha => hR1.mu a (by simp at ha; simp [ha])) hp1
        have bA := b1.trans (b2.more (M := [x, nl, ul]) (by simp))
        refine ⟨small_size (by simp), fun q hq => ?_⟩
        have s3 : Same H2 (upd H2 q (.tup [.int 1])) := Same.new hq
        have hq3 : SqT K (upd H2 q (.tup [.int 1])) q (vis [1]) := SqT.of upd_same
        have hR3 := hR2.same s3
        have hp3 := s3.tup hp2
        have bB := bA.trans (But.of s3)
        generalize upd H2 q (.tup [.int 1]) = H3 at s3 hq3 hR3 hp3 bB ⊢
        have hsz := SP.ci_le (formOf (grow unk (rawNames ra)) ra)
        rw [formOf_size] at hsz
        refine ⟨_, rfl, catA hq3 hp3 (by simp; omega) fun p4 H4 s4 hp4 => ?_⟩
        have hR4 := hR3.same s4
        have bC := bB.trans (But.of s4)
        obtain ⟨dx4, tl4, as4, i4, a4, t4, r4, q4, kd4, lt4, j4, _⟩ := hR4.at_
        have hlen1 : rawSize ra + (t1 :: r1).length ≤ l.length := hz1
        simp only [List.length_cons] at hlen1
        refine ⟨_, rfl, x, dx4, _, rfl, j4, rfl, _, rfl, _, _, rfl, rfl, x, nl, kl, ul, r1, names, _, d + 1, n, rfl, hR4, by omega, by omega, by omega, fun f hf => ?_, fun rb m2 hr H5 p5 b5 hR5 hp5 hz5 => ?_⟩
        · exact (k1 f (by rw [show (t1 :: r1).drop 1 = r1 from rfl, hf]; rfl)).on bC
        · have hgr : grow (grow unk (rawNames ra)) (rawNames rb) = grow unk (rawNames (Raw.imp ra rb)) := by
            show _ = grow unk (rawNames ra ++ rawNames rb)
            rw [SP.grow_append]
          have hfa : formOf (grow (grow unk (rawNames ra)) (rawNames rb)) ra = formOf (grow unk (rawNames ra)) ra := formOf_grow (fun n hn => SP.grow_mem.mpr (.inr hn)) _
          have hsz2 := SP.ci_le (formOf (grow (grow unk (rawNames ra)) (rawNames rb)) rb)
          rw [formOf_size] at hsz2
          refine catA (b5.tupM hR4.mu hp4) hp5 (by simp; omega) fun p6 H6 s6 hp6 => ?_
          refine k2 (Raw.imp ra rb) m2 (by rw [show (t1 :: r1).drop 1 = r1 from rfl, hr]; rfl) H6 p6 ((bC.trans b5).trans (But.of s6)) (by rw [← hgr]; exact hR5.same s6) ?_ (by simp only [rawSize]; omega)
          rw [← hgr]
          show SqT K H6 p6 (vis (ci (Form.imp (formOf _ ra) (formOf _ rb))))
          rw [SP.ci_imp, hfa]
          exact hp6
/-- part and chain, at every depth -/
theorem g_both (T : Tx K mg) : ∀ e, GMe P w K mg base (L2.CX P w) (2 * e + 4) (He.ga K "Reader") "part" ["self", "depth"] (sp_part K e) ∧ GMe P w K mg base (L2.CX P w) (2 * e + 5) (He.ga K "Reader") "chain" ["self", "depth"] (sp_chain K e)
  | 0 => ⟨gmeX (k := 3) (f_Reader_part T) (m_Reader_part T) sc_Reader_part (fun _ _ _ _ _ _ us hl => match us, hl with | [_, _], _ => rfl) (fun vs H Q E ⟨_, _, _, _, _, _, d, _, _, _, h1, h2, _⟩ => absurd h1 (by omega)) (fun _ _ _ _ _ _ _ _ _ _ ⟨_, _, _, _, _, _, d, _, _, _, h1, h2, _⟩ => absurd h1 (by omega)),
      gmeX (k := 4) (f_Reader_chain T) (m_Reader_chain T) sc_Reader_chain (fun _ _ _ _ _ _ us hl => match us, hl with | [_, _], _ => rfl) (fun vs H Q E ⟨_, _, _, _, _, _, d, _, _, _, h1, h2, _⟩ => absurd h1 (by omega)) (fun _ _ _ _ _ _ _ _ _ _ ⟨_, _, _, _, _, _, d, _, _, _, h1, h2, _⟩ => absurd h1 (by omega))⟩
  | e + 1 => by
    obtain ⟨h1, h2⟩ := g_both T e
    have h3 := g_part_of T e h1 h2
    exact ⟨h3, g_chain_of T e h3 h2⟩
theorem takeFormula_eq (l : Toks) : takeFormula l = (takeForm (2 * l.length + 2) 0 l).bind fun x => (takeSign 59 x.2).bind fun m => if 40 < Vapcma.size (formOf (rawNames x.1).eraseDups x.1) then .error ⟨9, VapcmBase.here l⟩ else .ok (formOf (rawNames x.1).eraseDups x.1, m) := rfl
/-- formula(self) -/
def sp_formula (K : PySem.W.Frag) : Sp := fun vs H Q E => ∃ (x nl kl ul : Addr) (l : Toks) (names unk : List Bytes), vs = [.ref x] ∧ Rd K H x nl kl ul l names unk ∧
  (∀ f, takeFormula l = .error f → ErrAt K E [x, nl] H (f.code : Int) (f.place : Int)) ∧
  ∀ F m, takeFormula l = .ok (F, m) → ∀ H' p ul' unk', But [x, nl] H H' → H ul' = none → Rd K H' x nl kl ul' m names unk' → SqT K H' p (vis (ci F)) → m.length < l.length → Q (.ref p) H'
abbrev N_Reader_formula : List Str := ["self", "start", "told"]
theorem sc_Reader_formula : FnScope N_Reader_formula ["self"] (defScope s_Reader_formula) := ⟨rfl, rfl, rfl, by decide +kernel, rfl, by decide +kernel, by decide +kernel⟩
theorem g_Reader_formula (T : Tx K mg) : GMe P w K mg base (L2.CX P w) 88 (He.ga K "Reader") "formula" ["self"] (sp_formula K) := by
  have g_Reader_here : GMe P w K mg base CX0 1 (He.ga K "Reader") "here" ["self"] (sp_Reader_here K) := g_Reader_here T
  have g_Reader_take_sign : GMe P w K mg base (L2.CX P w) 3 (He.ga K "Reader") "take_sign" ["self", "sign"] (sp_Reader_take_sign K) := g_Reader_take_sign T
  have g_Reader_chain : GMe P w K mg base (L2.CX P w) 87 (He.ga K "Reader") "chain" ["self", "depth"] (sp_chain K 41) := (g_both T 41).2
  have g_count_signs : GFn P w K mg base CX0 2 "count_signs" ["f"] (sp_count_signs K) := g_count_signs T
  refine gmeX (f_Reader_formula T) (m_Reader_formula T) sc_Reader_formula (fun _ _ _ _ _ _ us hl => match us, hl with | [_], _ => rfl) (fun vs H Q E h => ?_) (fun f cdv A outer s H vs Q E hr h => ⟨_, (pss_cons (ps_set (i := 1) sc_Reader_formula.nd rfl (Or.inl rfl) (pe_me0 (pv 0) (c_Reader T) g_Reader_here (hr.mono (by omega)) pass0))
  (pss_cons (ps_fldK K (pv 0) (pe_lst pa_nil1))
  (pss_cons (ps_set (i := 2) sc_Reader_formula.nd rfl (Or.inl rfl) (pe_me (pv 0) (c_Reader T) g_Reader_chain (hr.mono (by omega)) (passR (takes_of rfl rfl rfl rfl)) (pa_cons pe_int1 pa_nil1)))
  (pss_cons (ps_expr (pe_me (pv 0) (c_Reader T) g_Reader_take_sign (hr.mono (by omega)) (passR (takes_of rfl rfl rfl rfl)) (pa_cons (pe_ca1 (t_SEMICOLON T)) pa_nil1)))
  (pss_cons (ps_if (pt_cmpR op_gt (pe_fn g_count_signs (hr.mono (by omega)) pass0 (pa_cons (pv 2) pa_nil1)) (pe_ci1 (t_MOST_SIGNS T)) (nomark _)) (pss_one (ps_raise rfl (takes_of rfl rfl rfl rfl) (pmk_fault T (hr.mono (by omega)) (pa_cons pe_int1 (pa_cons (pv 1) pa_nil1)))))
  pss_nil)
  (pss_one (ps_ret (pv 2)))))))), ?_⟩)
  · obtain ⟨x, nl, kl, ul, l, names, unk, rfl, _⟩ := h
    rfl
  · obtain ⟨x, nl, kl, ul, l, names, unk, rfl, hR, k1, k2⟩ := h
    obtain ⟨dx, tl, as, i, a, t, r0, p, kd, lt, h1, h2, h3, h4, h5, h6, h7⟩ := hR.at_
    rw [takeFormula_eq] at k1 k2
    have hln := hR.ln
    have htr : ∃ as', H tl = some (.lst (vr as')) := by
      obtain ⟨dx', tl', as', ts', i', g1, g2, g3, g4, g5⟩ := hR.ex
      rw [h1] at g1
      have e := Option.some.inj g1
      injection e with e1 e2 e3
      have e4 : some (V.ref tl) = some (V.ref tl') := congrArg (fun f => f.lookup ("tokens" : Str)) e3
      have e6 : tl = tl' := by cases e4; rfl
      exact ⟨as', e6 ▸ g2⟩
    obtain ⟨as', htr⟩ := htr
    refine ⟨_, rfl, x, dx, _, rfl, h1, rfl, x, nl, kl, ul, l, names, unk, rfl, hR, ?_⟩
    refine ⟨small_size (by simp), fun u hu => ?_⟩
    have htl : tl ≠ u := ne_of_none htr hu
    have s1 : Same H (upd H u (.lst [])) := Same.new hu
    have hu1 : upd H u (.lst []) u = some (.lst (vr [])) := upd_same
    have hR1 := hR.same s1
    have hx1 := s1 _ _ h1
    generalize upd H u (.lst []) = H1 at s1 hu1 hR1 hx1 ⊢
    refine ⟨_, rfl, x, _, dx, _, rfl, hx1, c_Reader T, n_Reader_unknowns T, (show (4 : Nat) < 1000 by decide), ?_⟩
    rw [pf_un]
    have b2 : But [x] H1 (upd H1 x (.ins (He.ga K "Reader") dx (rdF tl i nl u))) := But.upd (But.refl H1) (by simp)
    have m2 : Mu H1 [x] := fun a ha => hR1.mu a (by simp at ha; simp [ha])
    have hxu : x ≠ u := ne_of_none h1 hu
    have hnu : nl ≠ u := by
      obtain ⟨ns, n1, _⟩ := hR.nm
      exact ne_of_none n1 hu
    have htu : tl ≠ u := htl
    have hR2 : Rd K (upd H1 x (.ins (He.ga K "Reader") dx (rdF tl i nl u))) x nl kl u l names [] := by
      obtain ⟨⟨dx', tl', as', ts', i', g1, g2, g3, g4, g5⟩, en, ln, ⟨ns, n1, n2⟩, _, ne, nn, uu⟩ := id hR1
      rw [hx1] at g1
      have e := Option.some.inj g1
      injection e with e1 e2 e3
      have e4 : some (V.ref tl) = some (V.ref tl') := congrArg (fun f => f.lookup ("tokens" : Str)) e3
      have e5 : some (V.int (i : Int)) = some (V.int (i' : Int)) := congrArg (fun f => f.lookup ("at" : Str)) e3
      have e6 : tl = tl' := by cases e4; rfl
      have e7 : i = i' := by
        have := V.int.inj (Option.some.inj e5)
        omega
      subst e6 e7
      have hnot : tl ∉ [x, nl, u] := by
        have q1 : tl ≠ u := htu
        have q2 : tl ≠ x := fun z => g5.1 (by simp [z])
        have q3 : tl ≠ nl := fun z => g5.1 (by simp [z])
        simp only [List.mem_cons, List.not_mem_nil, or_false, not_or]
        exact ⟨q2, q3, q1⟩
      refine ⟨⟨dx, tl, as', ts', i, upd_same, b2 _ _ (fun z => g5.1 (by simp at z; simp [z])) g2, b2.toksM m2 g3, g4, hnot, g5.2⟩, en, ln, ⟨ns, b2 _ _ (by simpa using Ne.symm hR1.xn) n1, b2.tupsM m2 n2⟩, ⟨[], (upd_ne (Ne.symm hxu)).trans hu1, .nil⟩, hnu, nn, by simp; omega⟩
    generalize upd H1 x (.ins (He.ga K "Reader") dx (rdF tl i nl u)) = H2 at b2 hR2 ⊢
    have bA : But [x, nl] H H2 := (But.of s1).trans (b2.more (by simp))
    have cut : ∀ {H3 : Hp}, But [x, nl, u] H2 H3 → But [x, nl] H H3 := fun {H3} b => fun a v n e => b a v (by
      simp only [List.mem_cons, List.not_mem_nil, or_false, not_or] at n ⊢
      exact ⟨n.1, n.2, ne_of_none e hu⟩) (bA a v n e)
    obtain ⟨dx2, tl2, as2, i2, a2, t2, r2, q2, kd2, lt2, j1, _⟩ := hR2.at_
    refine ⟨_, rfl, x, dx2, _, rfl, j1, rfl, x, nl, kl, u, l, names, [], 0, 2 * l.length + 2, rfl, hR2, rfl, by decide, Nat.le_refl _, fun f hf => ?_, fun r m hm H3 p3 b3 hR3 hp3 hz => ?_⟩
    · have := k1 f (by rw [hf]; rfl)
      exact fun d H' b hd => this d H' (cut b) hd
    · have ebind : ∀ {B : Type} (g : Raw × Toks → Except VapcmBase.Fault B), (takeForm (2 * l.length + 2) 0 l).bind g = g (r, m) := fun g => by rw [hm]; rfl
      rw [ebind] at k1 k2
      dsimp only at k1 k2
      have hed : grow [] (rawNames r) = (rawNames r).eraseDups := (SP.eraseDups_grow _).symm
      rw [hed] at hp3 hR3
      obtain ⟨dx3, tl3, as3, i3, a3, t3, r3, q3, kd3, lt3, j3, _⟩ := hR3.at_
      have hsc : SqT K H3 (He.ga K "SEMICOLON") (vis [((59 : Nat) : Int)]) := u_SEMICOLON T H3
      refine ⟨_, rfl, x, dx3, _, rfl, j3, rfl, x, nl, kl, u, He.ga K "SEMICOLON", m, names, _, 59, rfl, hR3, hsc, fun f hf => (k1 f (by rw [hf]; rfl)).fault (cut b3), fun m' hm' H4 b4 hR4 => ?_⟩
      have ebind2 : ∀ {B : Type} (g : Toks → Except VapcmBase.Fault B), (takeSign 59 m).bind g = g m' := fun g => by rw [hm']; rfl
      rw [ebind2] at k1 k2
      have hp4 := b4.tupM (fun a ha => hR3.mu a (by simp at ha; simp [ha])) hp3
      have hsz := SP.ci_le (formOf (rawNames r).eraseDups r)
      have hsz2 := formOf_size (rawNames r).eraseDups r
      refine ⟨_, rfl, p3, formOf (rawNames r).eraseDups r, rfl, hp4, by omega, fun H5 s5 => ?_⟩
      have bE : But [x, nl] H H5 := (cut (b3.trans (b4.more (by simp)))).trans (But.of s5)
      refine ⟨_, _, rfl, rfl, _, rfl, ?_⟩
      by_cases c : 40 < Vapcma.size (formOf (rawNames r).eraseDups r)
      · rw [if_pos c] at k1
        refine if_true_of (decide_eq_true (by omega)) ?_
        refine ⟨_, rfl, ?_⟩
        exact mkF ((k1 _ rfl).fault bE)
      · rw [if_neg c] at k2
        refine if_false_of (decide_eq_false (by omega)) ?_
        refine ⟨_, rfl, k2 _ m' rfl H5 p3 u _ bE hu (hR4.same s5) (s5.tup hp4) ?_⟩
        have hlt := (SP.takeSign_ok hm').2
        have hne := hR3.en.ne
        have hml : 0 < m.length := List.length_pos_iff.mpr hne
        have hrs : 0 < rawSize r := by cases r <;> simp [rawSize]
        rw [hlt, List.length_drop]
        omega
end SPW
end
section
set_option Elab.async false
set_option linter.all false
set_option maxRecDepth 100000
set_option maxHeartbeats 4000000
namespace SPW
open PySem PySem.Spec PyProof.Rows L2
open SP (ni EndOk grow ci)
open VapcmBase (Bytes PTok Toks RESERVED word takeName takeSign PName)
open Vapcma (Form takeFormula newName takeOld)
variable {P : Program} {w : World} {K : PySem.W.Frag} {mg : Str → Option Value} {base : Heap}
/-- a name more -/
theorem Rd.addN {H : Hp} {x nl kl ul q : Addr} {l : Toks} {names unk : List Bytes} {ns : List Addr} {b : Bytes} (h : Rd K H x nl kl ul l names unk) (h1 : H nl = some (.lst (vr ns))) (hq : SqT K H q (vis (ni b))) (hn : names.length < 40) :
    Rd K (upd H nl (.lst (vr (ns ++ [q])))) x nl kl ul l (names ++ [b]) unk := by
  have b2 : But [nl] H (upd H nl (.lst (vr (ns ++ [q])))) := But.upd (But.refl _) (by simp)
  have m2 : Mu H [nl] := fun a ha => h.mu a (by simp at ha; simp [ha])
  have hxn := h.xn
  obtain ⟨⟨dx', tl', as', ts', i', g1, g2, g3, g4, g5⟩, en, ln, ⟨ns2, n1, n2⟩, ⟨us, u1, u2⟩, ne, nn, uu⟩ := h
  rw [h1] at n1
  have e : vr ns = vr ns2 := by injection (Option.some.inj n1)
  refine ⟨⟨dx', tl', as', ts', i', b2 _ _ (by simpa using hxn) g1, b2 _ _ (fun z => g5.1 (by simp at z; simp [z])) g2, b2.toksM m2 g3, g4, g5⟩, en, ln, ⟨ns2 ++ [q], ?_, ?_⟩, ⟨us, b2 _ _ (by simpa using Ne.symm ne) u1, b2.tupsM m2 u2⟩, ne, by simp; omega, uu⟩
  · rw [upd_same]
    congr 2
    rw [← vr_snoc, ← vr_snoc, e]
  · rw [List.map_append]
    exact TupsAt.snoc (b2.tupM m2 hq) (b2.tupsM m2 n2)
/-- one axiom -/
def axStep (names : List Bytes) (many : Nat) (l : Toks) : Except VapcmBase.Fault ((Bytes × Form) × Toks) :=
  if VapcmBase.next (.name (word "axiom")) l = true then (if 6 ≤ many then .error ⟨4, VapcmBase.here l⟩ else (newName names (l.drop 1)).bind fun x => (takeSign 58 x.2).bind fun r => (takeFormula r).map fun f => ((x.1, f.1), f.2)) else .error ⟨3, VapcmBase.here l⟩
def goStep (many : Nat) (l : Toks) : Except VapcmBase.Fault (Form × Toks) :=
  if VapcmBase.next (.name (word "goal")) l = true then (if 4 ≤ many then .error ⟨4, VapcmBase.here l⟩ else takeFormula (l.drop 1)) else .error ⟨3, VapcmBase.here l⟩
def rwStep (names : List Bytes) (many : Nat) (l : Toks) : Except VapcmBase.Fault ((Bytes × Nat × Nat) × Toks) :=
  if VapcmBase.next (.name (word "row")) l = true then (if 24 ≤ many then .error ⟨4, VapcmBase.here l⟩ else (newName names (l.drop 1)).bind fun x => (takeSign 58 x.2).bind fun r => (takeOld names r).bind fun i => (takeSign 44 i.2).bind fun r => (takeOld names r).bind fun j => (takeSign 59 j.2).map fun m => ((x.1, i.1, j.1), m)) else .error ⟨3, VapcmBase.here l⟩
theorem res_axiom : RESERVED.contains (word "axiom") = true := by decide
theorem res_row : RESERVED.contains (word "row") = true := by decide
theorem res_goal : RESERVED.contains (word "goal") = true := by decide
theorem newName_len {old : List Bytes} {l m : Toks} {b : Bytes} (h : newName old l = .ok (b, m)) : m.length < l.length := by
  rw [newName_eq] at h
  cases hn : takeName l with
  | error f => rw [hn] at h; cases h
  | ok x =>
    obtain ⟨n, m2⟩ := x
    rw [hn] at h
    obtain ⟨p, b2, el, _, _⟩ := SP.takeName_ok hn
    dsimp only at h
    split at h
    · cases h
    · cases h
      rw [el]
      simp
theorem takeOld_len {old : List Bytes} {l m : Toks} {k : Nat} (h : takeOld old l = .ok (k, m)) : m.length < l.length ∧ k < old.length := by
  rw [takeOld_eq] at h
  cases hn : takeName l with
  | error f => rw [hn] at h; cases h
  | ok x =>
    obtain ⟨n, m2⟩ := x
    rw [hn] at h
    obtain ⟨p, b2, el, _, _⟩ := SP.takeName_ok hn
    dsimp only at h
    split at h
    · rename_i c
      cases h
      rw [el]
      exact ⟨by simp, List.findIdx_lt_length.mpr ⟨n.name, by simpa using c, by simp⟩⟩
    · cases h
theorem takeSign_len {c : Nat} {l m : Toks} (h : takeSign c l = .ok m) : m.length ≤ l.length := by
  rw [(SP.takeSign_ok h).2, List.length_drop]
  omega
/-- axiom(self, many) -/
def sp_axiom (K : PySem.W.Frag) : Sp := fun vs H Q E => ∃ (x nl kl ul : Addr) (l : Toks) (names unk : List Bytes) (many : Nat), vs = [.ref x, .int (many : Int)] ∧ Rd K H x nl kl ul l names unk ∧ many ≤ 6 ∧ names.length < 40 ∧
  (∀ f, axStep names many l = .error f → ErrAt K E [x, nl] H (f.code : Int) (f.place : Int)) ∧
  ∀ b F m, axStep names many l = .ok ((b, F), m) → ∀ H' p ul' unk', But [x, nl] H H' → H ul' = none → Rd K H' x nl kl ul' m (names ++ [b]) unk' → SqT K H' p (vis (ci F)) → m.length < l.length → Q (.ref p) H'
abbrev N_Reader_axiom : List Str := ["self", "many", "name", "told"]
theorem sc_Reader_axiom : FnScope N_Reader_axiom ["self", "many"] (defScope s_Reader_axiom) := ⟨rfl, rfl, rfl, by decide +kernel, rfl, by decide +kernel, by decide +kernel⟩
theorem g_Reader_axiom (T : Tx K mg) : GMe P w K mg base (L2.CX P w) 89 (He.ga K "Reader") "axiom" ["self", "many"] (sp_axiom K) := by
  have g_Reader_take_word : GMe P w K mg base (L2.CX P w) 3 (He.ga K "Reader") "take_word" ["self", "word", "many", "most"] (sp_Reader_take_word K) := g_Reader_take_word T
  have g_Reader_new_name : GMe P w K mg base (L2.CX P w) 4 (He.ga K "Reader") "new_name" ["self"] (sp_Reader_new_name K) := g_Reader_new_name T
  have g_Reader_take_sign : GMe P w K mg base (L2.CX P w) 3 (He.ga K "Reader") "take_sign" ["self", "sign"] (sp_Reader_take_sign K) := g_Reader_take_sign T
  have g_Reader_formula : GMe P w K mg base (L2.CX P w) 88 (He.ga K "Reader") "formula" ["self"] (sp_formula K) := g_Reader_formula T
  refine gmeX (f_Reader_axiom T) (m_Reader_axiom T) sc_Reader_axiom (fun _ _ _ _ _ _ us hl => match us, hl with | [_, _], _ => rfl) (fun vs H Q E h => ?_) (fun f cdv A outer s H vs Q E hr h => ⟨_, (pss_cons (ps_expr (pe_me (pv 0) (c_Reader T) g_Reader_take_word (hr.mono (by omega)) (passR (takes_of rfl rfl rfl rfl)) (pa_cons (pe_ca1 (t_AXIOM T)) (pa_cons (pv 1) (pa_cons (pe_ci1 (t_MOST_AXIOMS T)) pa_nil1)))))
  (pss_cons (ps_set (i := 2) sc_Reader_axiom.nd rfl (Or.inl rfl) (pe_me0 (pv 0) (c_Reader T) g_Reader_new_name (hr.mono (by omega)) (passR (takes_of rfl rfl rfl rfl))))
  (pss_cons (ps_expr (pe_me (pv 0) (c_Reader T) g_Reader_take_sign (hr.mono (by omega)) (passR (takes_of rfl rfl rfl rfl)) (pa_cons (pe_ca1 (t_COLON T)) pa_nil1)))
  (pss_cons (ps_set (i := 3) sc_Reader_axiom.nd rfl (Or.inl rfl) (pe_me0 (pv 0) (c_Reader T) g_Reader_formula (hr.mono (by omega)) (passR (takes_of rfl rfl rfl rfl))))
  (pss_cons (ps_expr (pe_bmK K PySem.F.plainAttrs_list PySem.F.slot_list_append PySem.F.type_list_append mt_append (pe_fldK K (pv 0)) (pa_cons (pv 2) pa_nil1)))
  (pss_one (ps_ret (pv 3)))))))), ?_⟩)
  · obtain ⟨x, nl, kl, ul, l, names, unk, many, rfl, _⟩ := h
    rfl
  · obtain ⟨x, nl, kl, ul, l, names, unk, many, rfl, hR, hm6, hn40, k1, k2⟩ := h
    obtain ⟨dx, tl, as, i, a, t, r0, p, kd, lt, h1, h2, h3, rfl, h5, h6, h7⟩ := hR.at_
    unfold axStep at k1 k2
    have hax : SqT K H (He.ga K "AXIOM") (vis (ni (word "axiom"))) := u_AXIOM T H
    refine ⟨_, rfl, x, dx, _, rfl, h1, rfl, _, rfl, x, nl, kl, ul, He.ga K "AXIOM", t :: r0, names, unk, word "axiom", many, 6, rfl, hR, hax, res_axiom, fun hn => ?_, fun hn hm => ?_, fun hn hm H1 b1 hR1 => ?_⟩
    · rw [if_neg (by rw [hn]; decide)] at k1
      exact (k1 _ rfl).fault (But.refl H)
    · rw [if_pos hn, if_pos (by omega)] at k1
      exact (k1 _ rfl).fault (But.refl H)
    · rw [if_pos hn, if_neg (by omega)] at k1 k2
      have bA : But [x, nl] H H1 := b1.more (by simp)
      obtain ⟨dx1, tl1, as1, i1, a1, t1, r1, q1, kd1, lt1, j1, _⟩ := hR1.at_
      refine ⟨_, rfl, x, dx1, _, rfl, j1, rfl, x, nl, kl, ul, _, names, unk, rfl, hR1, fun f hf => ?_, fun b m hb H2 q b2 hR2 hq => ?_⟩
      · rw [hf] at k1
        exact (k1 f rfl).fault bA
      have hl1 := newName_len hb
      have e1 : ∀ {B : Type} (g : Bytes × Toks → Except VapcmBase.Fault B), (newName names ((t :: r0).drop 1)).bind g = g (b, m) := fun g => by rw [hb]; rfl
      rw [e1] at k1 k2
      dsimp only at k1 k2
      have bB := bA.trans (b2.more (M := [x, nl]) (by simp))
      obtain ⟨dx2, tl2, as2, i2, a2, t2, r2, q2, kd2, lt2, j2, _⟩ := hR2.at_
      have hcl : SqT K H2 (He.ga K "COLON") (vis [((58 : Nat) : Int)]) := u_COLON T H2
      refine ⟨_, rfl, x, dx2, _, rfl, j2, rfl, x, nl, kl, ul, He.ga K "COLON", m, names, unk, 58, rfl, hR2, hcl, fun f hf => ?_, fun m2 hm2 H3 b3 hR3 => ?_⟩
      · rw [hf] at k1
        exact (k1 f rfl).fault bB
      have hl2 := takeSign_len hm2
      have e2 : ∀ {B : Type} (g : Toks → Except VapcmBase.Fault B), (takeSign 58 m).bind g = g m2 := fun g => by rw [hm2]; rfl
      rw [e2] at k1 k2
      have bC := bB.trans (b3.more (M := [x, nl]) (by simp))
      have hq3 := b3.tupM (fun a ha => hR2.mu a (by simp at ha; simp [ha])) hq
      obtain ⟨dx3, tl3, as3, i3, a3, t3, r3, q3, kd3, lt3, j3, _⟩ := hR3.at_
      refine ⟨_, rfl, x, dx3, _, rfl, j3, rfl, x, nl, kl, ul, m2, names, unk, rfl, hR3, fun f hf => ?_, fun F m3 hF H4 p4 ul4 unk4 b4 hul4 hR4 hp4 hl3 => ?_⟩
      · rw [hf] at k1
        exact (k1 f rfl).on bC
      have bD := bC.trans b4
      have hq4 := b4.tupM (fun a ha => hR3.mu a (by simp at ha; rcases ha with z | z <;> simp [z])) hq3
      obtain ⟨dx4, tl4, as4, i4, a4, t4, r4, q4, kd4, lt4, j4, _⟩ := hR4.at_
      obtain ⟨ns4, n4, n5⟩ := hR4.nm
      have nl4 := n5.len
      rw [List.length_map] at nl4
      refine ⟨_, rfl, x, _, dx4, _, _, rfl, j4, c_Reader T, n_Reader_names T, lr_names _ _ _ _, .inl ⟨rfl, _, SqL.of n4⟩, _, rfl, nl, _, _, rfl, rfl, n4, small_lt (by rw [vr_len]; omega), ?_⟩
      rw [vr_snoc]
      have hR5 := hR4.addN n4 hq4 hn40
      have b5 : But [nl] H4 (upd H4 nl (.lst (vr (ns4 ++ [q])))) := But.upd (But.refl _) (by simp)
      have hp5 := b5.tupM (fun a ha => hR4.mu a (by simp at ha; simp [ha])) hp4
      have hulH : H ul4 = none := by
        cases e : H ul4 with
        | none => rfl
        | some v =>
          have hx : ul4 ≠ x := fun z => hR4.xu z.symm
          have hn : ul4 ≠ nl := fun z => hR4.ne z.symm
          rw [bC ul4 v (by simp [hx, hn]) e] at hul4
          cases hul4
      simp only [List.length_cons, List.drop_succ_cons, List.drop_zero] at hl1
      exact ⟨_, rfl, k2 b F m3 (by rw [hF]; rfl) _ p4 ul4 unk4 (bD.trans (b5.more (by simp))) hulH hR5 hp5 (by simp only [List.length_cons]; omega)⟩
end SPW
end
section
set_option Elab.async false
set_option linter.all false
set_option maxRecDepth 100000
set_option maxHeartbeats 4000000
namespace SPW
open PySem PySem.Spec PyProof.Rows L2
open SP (ni EndOk grow ci)
open VapcmBase (Bytes PTok Toks RESERVED word takeName takeSign PName)
open Vapcma (Form takeFormula newName takeOld)
variable {P : Program} {w : World} {K : PySem.W.Frag} {mg : Str → Option Value} {base : Heap}
/-- goal(self, many) -/
def sp_goal (K : PySem.W.Frag) : Sp := fun vs H Q E => ∃ (x nl kl ul : Addr) (l : Toks) (names unk : List Bytes) (many : Nat), vs = [.ref x, .int (many : Int)] ∧ Rd K H x nl kl ul l names unk ∧ many ≤ 4 ∧
  (∀ f, goStep many l = .error f → ErrAt K E [x, nl] H (f.code : Int) (f.place : Int)) ∧
  ∀ F m, goStep many l = .ok (F, m) → ∀ H' p ul' unk', But [x, nl] H H' → H ul' = none → Rd K H' x nl kl ul' m names unk' → SqT K H' p (vis (ci F)) → m.length < l.length → Q (.ref p) H'
abbrev N_Reader_goal : List Str := ["self", "many"]
theorem sc_Reader_goal : FnScope N_Reader_goal ["self", "many"] (defScope s_Reader_goal) := ⟨rfl, rfl, rfl, by decide +kernel, rfl, by decide +kernel, by decide +kernel⟩
theorem g_Reader_goal (T : Tx K mg) : GMe P w K mg base (L2.CX P w) 89 (He.ga K "Reader") "goal" ["self", "many"] (sp_goal K) := by
  have g_Reader_take_word : GMe P w K mg base (L2.CX P w) 3 (He.ga K "Reader") "take_word" ["self", "word", "many", "most"] (sp_Reader_take_word K) := g_Reader_take_word T
  have g_Reader_formula : GMe P w K mg base (L2.CX P w) 88 (He.ga K "Reader") "formula" ["self"] (sp_formula K) := g_Reader_formula T
  refine gmeX (f_Reader_goal T) (m_Reader_goal T) sc_Reader_goal (fun _ _ _ _ _ _ us hl => match us, hl with | [_, _], _ => rfl) (fun vs H Q E h => ?_) (fun f cdv A outer s H vs Q E hr h => ⟨_, (pss_cons (ps_expr (pe_me (pv 0) (c_Reader T) g_Reader_take_word (hr.mono (by omega)) (passR (takes_of rfl rfl rfl rfl)) (pa_cons (pe_ca1 (t_GOAL T)) (pa_cons (pv 1) (pa_cons (pe_ci1 (t_MOST_GOALS T)) pa_nil1)))))
  (pss_one (ps_ret (pe_me0 (pv 0) (c_Reader T) g_Reader_formula (hr.mono (by omega)) (passR (takes_of rfl rfl rfl rfl)))))), ?_⟩)
  · obtain ⟨x, nl, kl, ul, l, names, unk, many, rfl, _⟩ := h
    rfl
  · obtain ⟨x, nl, kl, ul, l, names, unk, many, rfl, hR, hm4, k1, k2⟩ := h
    obtain ⟨dx, tl, as, i, a, t, r0, p, kd, lt, h1, h2, h3, rfl, h5, h6, h7⟩ := hR.at_
    unfold goStep at k1 k2
    have hgo : SqT K H (He.ga K "GOAL") (vis (ni (word "goal"))) := u_GOAL T H
    refine ⟨_, rfl, x, dx, _, rfl, h1, rfl, _, rfl, x, nl, kl, ul, He.ga K "GOAL", t :: r0, names, unk, word "goal", many, 4, rfl, hR, hgo, res_goal, fun hn => ?_, fun hn hm => ?_, fun hn hm H1 b1 hR1 => ?_⟩
    · rw [if_neg (by rw [hn]; decide)] at k1
      exact (k1 _ rfl).fault (But.refl H)
    · rw [if_pos hn, if_pos (by omega)] at k1
      exact (k1 _ rfl).fault (But.refl H)
    · rw [if_pos hn, if_neg (by omega)] at k1 k2
      have bA : But [x, nl] H H1 := b1.more (by simp)
      obtain ⟨dx1, tl1, as1, i1, a1, t1, r1, q1, kd1, lt1, j1, _⟩ := hR1.at_
      refine ⟨_, rfl, x, dx1, _, rfl, j1, rfl, x, nl, kl, ul, _, names, unk, rfl, hR1, fun f hf => (k1 f hf).on bA, fun F m3 hF H4 p4 ul4 unk4 b4 hul4 hR4 hp4 hl3 => ?_⟩
      have hulH : H ul4 = none := by
        cases e : H ul4 with
        | none => rfl
        | some v =>
          have hx : ul4 ≠ x := fun z => hR4.xu z.symm
          have hn : ul4 ≠ nl := fun z => hR4.ne z.symm
          rw [bA ul4 v (by simp [hx, hn]) e] at hul4
          cases hul4
      simp only [List.drop_succ_cons, List.drop_zero] at hl3
      exact k2 F m3 hF H4 p4 ul4 unk4 (bA.trans b4) hulH hR4 hp4 (by simp only [List.length_cons]; omega)
/-- row(self, many) -/
def sp_row (K : PySem.W.Frag) : Sp := fun vs H Q E => ∃ (x nl kl ul : Addr) (l : Toks) (names unk : List Bytes) (many : Nat), vs = [.ref x, .int (many : Int)] ∧ Rd K H x nl kl ul l names unk ∧ many ≤ 24 ∧ names.length < 40 ∧
  (∀ f, rwStep names many l = .error f → ErrAt K E [x, nl] H (f.code : Int) (f.place : Int)) ∧
  ∀ b i j m, rwStep names many l = .ok ((b, i, j), m) → ∀ H' p, But [x, nl] H H' → Rd K H' x nl kl ul m (names ++ [b]) unk → SqT K H' p (vis [(i : Int), (j : Int)]) → m.length < l.length → i < names.length → j < names.length → Q (.ref p) H'
abbrev N_Reader_row : List Str := ["self", "many", "name", "first", "second"]
theorem sc_Reader_row : FnScope N_Reader_row ["self", "many"] (defScope s_Reader_row) := ⟨rfl, rfl, rfl, by decide +kernel, rfl, by decide +kernel, by decide +kernel⟩
theorem g_Reader_row (T : Tx K mg) : GMe P w K mg base (L2.CX P w) 89 (He.ga K "Reader") "row" ["self", "many"] (sp_row K) := by
  have g_Reader_take_word : GMe P w K mg base (L2.CX P w) 3 (He.ga K "Reader") "take_word" ["self", "word", "many", "most"] (sp_Reader_take_word K) := g_Reader_take_word T
  have g_Reader_new_name : GMe P w K mg base (L2.CX P w) 4 (He.ga K "Reader") "new_name" ["self"] (sp_Reader_new_name K) := g_Reader_new_name T
  have g_Reader_take_sign : GMe P w K mg base (L2.CX P w) 3 (He.ga K "Reader") "take_sign" ["self", "sign"] (sp_Reader_take_sign K) := g_Reader_take_sign T
  have g_Reader_old_item : GMe P w K mg base (L2.CX P w) 4 (He.ga K "Reader") "old_item" ["self"] (sp_Reader_old_item K) := g_Reader_old_item T
  refine gmeX (f_Reader_row T) (m_Reader_row T) sc_Reader_row (fun _ _ _ _ _ _ us hl => match us, hl with | [_, _], _ => rfl) (fun vs H Q E h => ?_) (fun f cdv A outer s H vs Q E hr h => ⟨_, (pss_cons (ps_expr (pe_me (pv 0) (c_Reader T) g_Reader_take_word (hr.mono (by omega)) (passR (takes_of rfl rfl rfl rfl)) (pa_cons (pe_ca1 (t_ROW T)) (pa_cons (pv 1) (pa_cons (pe_ci1 (t_MOST_ROWS_reader T)) pa_nil1)))))
  (pss_cons (ps_set (i := 2) sc_Reader_row.nd rfl (Or.inl rfl) (pe_me0 (pv 0) (c_Reader T) g_Reader_new_name (hr.mono (by omega)) (passR (takes_of rfl rfl rfl rfl))))
  (pss_cons (ps_expr (pe_me (pv 0) (c_Reader T) g_Reader_take_sign (hr.mono (by omega)) (passR (takes_of rfl rfl rfl rfl)) (pa_cons (pe_ca1 (t_COLON T)) pa_nil1)))
  (pss_cons (ps_set (i := 3) sc_Reader_row.nd rfl (Or.inl rfl) (pe_me0 (pv 0) (c_Reader T) g_Reader_old_item (hr.mono (by omega)) (passR (takes_of rfl rfl rfl rfl))))
  (pss_cons (ps_expr (pe_me (pv 0) (c_Reader T) g_Reader_take_sign (hr.mono (by omega)) (passR (takes_of rfl rfl rfl rfl)) (pa_cons (pe_ca1 (t_COMMA T)) pa_nil1)))
  (pss_cons (ps_set (i := 4) sc_Reader_row.nd rfl (Or.inl rfl) (pe_me0 (pv 0) (c_Reader T) g_Reader_old_item (hr.mono (by omega)) (passR (takes_of rfl rfl rfl rfl))))
  (pss_cons (ps_expr (pe_me (pv 0) (c_Reader T) g_Reader_take_sign (hr.mono (by omega)) (passR (takes_of rfl rfl rfl rfl)) (pa_cons (pe_ca1 (t_SEMICOLON T)) pa_nil1)))
  (pss_cons (ps_expr (pe_bmK K PySem.F.plainAttrs_list PySem.F.slot_list_append PySem.F.type_list_append mt_append (pe_fldK K (pv 0)) (pa_cons (pv 2) pa_nil1)))
  (pss_one (ps_ret (pe_tup (pa_cons (pv 3) (pa_cons (pv 4) pa_nil1))))))))))))), ?_⟩)
  · obtain ⟨x, nl, kl, ul, l, names, unk, many, rfl, _⟩ := h
    rfl
  · obtain ⟨x, nl, kl, ul, l, names, unk, many, rfl, hR, hm6, hn40, k1, k2⟩ := h
    obtain ⟨dx, tl, as, i, a, t, r0, p, kd, lt, h1, h2, h3, rfl, h5, h6, h7⟩ := hR.at_
    unfold rwStep at k1 k2
    have hax : SqT K H (He.ga K "ROW") (vis (ni (word "row"))) := u_ROW T H
    refine ⟨_, rfl, x, dx, _, rfl, h1, rfl, _, rfl, x, nl, kl, ul, He.ga K "ROW", t :: r0, names, unk, word "row", many, 24, rfl, hR, hax, res_row, fun hn => ?_, fun hn hm => ?_, fun hn hm H1 b1 hR1 => ?_⟩
    · rw [if_neg (by rw [hn]; decide)] at k1
      exact (k1 _ rfl).fault (But.refl H)
    · rw [if_pos hn, if_pos (by omega)] at k1
      exact (k1 _ rfl).fault (But.refl H)
    · rw [if_pos hn, if_neg (by omega)] at k1 k2
      have mx : ∀ {H2 : Hp} {l2 : Toks}, Rd K H2 x nl kl ul l2 names unk → Mu H2 [x] := fun h a ha => h.mu a (by simp at ha; simp [ha])
      have up : ∀ {H2 H3 : Hp}, But [x] H2 H3 → But [x, nl] H2 H3 := fun b => b.more (by simp)
      have bA : But [x, nl] H H1 := up b1
      obtain ⟨dx1, tl1, as1, i1, a1, t1, r1, q1, kd1, lt1, j1, _⟩ := hR1.at_
      refine ⟨_, rfl, x, dx1, _, rfl, j1, rfl, x, nl, kl, ul, _, names, unk, rfl, hR1, fun f hf => ?_, fun b m hb H2 q b2 hR2 hq => ?_⟩
      · rw [hf] at k1
        exact (k1 f rfl).fault bA
      have hl1 := newName_len hb
      have e1 : ∀ {B : Type} (g : Bytes × Toks → Except VapcmBase.Fault B), (newName names ((t :: r0).drop 1)).bind g = g (b, m) := fun g => by rw [hb]; rfl
      rw [e1] at k1 k2
      dsimp only at k1 k2
      have bB := bA.trans (up b2)
      obtain ⟨dx2, tl2, as2, i2, a2, t2, r2, q2, kd2, lt2, j2, _⟩ := hR2.at_
      have hcl : SqT K H2 (He.ga K "COLON") (vis [((58 : Nat) : Int)]) := u_COLON T H2
      refine ⟨_, rfl, x, dx2, _, rfl, j2, rfl, x, nl, kl, ul, He.ga K "COLON", m, names, unk, 58, rfl, hR2, hcl, fun f hf => ?_, fun m2 hm2 H3 b3 hR3 => ?_⟩
      · rw [hf] at k1
        exact (k1 f rfl).fault bB
      have hl2 := takeSign_len hm2
      have e2 : ∀ {B : Type} (g : Toks → Except VapcmBase.Fault B), (takeSign 58 m).bind g = g m2 := fun g => by rw [hm2]; rfl
      rw [e2] at k1 k2
      have bC := bB.trans (up b3)
      have hq3 := b3.tupM (mx hR2) hq
      obtain ⟨dx3, tl3, as3, i3, a3, t3, r3, q3, kd3, lt3, j3, _⟩ := hR3.at_
      -- first
      refine ⟨_, rfl, x, dx3, _, rfl, j3, rfl, x, nl, kl, ul, m2, names, unk, rfl, hR3, fun f hf => ?_, fun i' m3 hi' H4 b4 hR4 => ?_⟩
      · rw [hf] at k1
        exact (k1 f rfl).fault bC
      obtain ⟨hl3, hil⟩ := takeOld_len hi'
      have e3 : ∀ {B : Type} (g : Nat × Toks → Except VapcmBase.Fault B), (takeOld names m2).bind g = g (i', m3) := fun g => by rw [hi']; rfl
      rw [e3] at k1 k2
      dsimp only at k1 k2
      have bD := bC.trans (up b4)
      have hq4 := b4.tupM (mx hR3) hq3
      obtain ⟨dx4, tl4, as4, i4, a4, t4, r4, q4, kd4, lt4, j4, _⟩ := hR4.at_
      have hcm : SqT K H4 (He.ga K "COMMA") (vis [((44 : Nat) : Int)]) := u_COMMA T H4
      refine ⟨_, rfl, x, dx4, _, rfl, j4, rfl, x, nl, kl, ul, He.ga K "COMMA", m3, names, unk, 44, rfl, hR4, hcm, fun f hf => ?_, fun m4 hm4 H5 b5 hR5 => ?_⟩
      · rw [hf] at k1
        exact (k1 f rfl).fault bD
      have hl4 := takeSign_len hm4
      have e4 : ∀ {B : Type} (g : Toks → Except VapcmBase.Fault B), (takeSign 44 m3).bind g = g m4 := fun g => by rw [hm4]; rfl
      rw [e4] at k1 k2
      have bE := bD.trans (up b5)
      have hq5 := b5.tupM (mx hR4) hq4
      obtain ⟨dx5, tl5, as5, i5, a5, t5, r5, q5, kd5, lt5, j5, _⟩ := hR5.at_
      -- second
      refine ⟨_, rfl, x, dx5, _, rfl, j5, rfl, x, nl, kl, ul, m4, names, unk, rfl, hR5, fun f hf => ?_, fun j' m5 hj' H6 b6 hR6 => ?_⟩
      · rw [hf] at k1
        exact (k1 f rfl).fault bE
      obtain ⟨hl5, hjl⟩ := takeOld_len hj'
      have e5 : ∀ {B : Type} (g : Nat × Toks → Except VapcmBase.Fault B), (takeOld names m4).bind g = g (j', m5) := fun g => by rw [hj']; rfl
      rw [e5] at k1 k2
      dsimp only at k1 k2
      have bF := bE.trans (up b6)
      have hq6 := b6.tupM (mx hR5) hq5
      obtain ⟨dx6, tl6, as6, i6, a6, t6, r6, q6, kd6, lt6, j6, _⟩ := hR6.at_
      have hsc : SqT K H6 (He.ga K "SEMICOLON") (vis [((59 : Nat) : Int)]) := u_SEMICOLON T H6
      refine ⟨_, rfl, x, dx6, _, rfl, j6, rfl, x, nl, kl, ul, He.ga K "SEMICOLON", m5, names, unk, 59, rfl, hR6, hsc, fun f hf => ?_, fun m6 hm6' H7 b7 hR7 => ?_⟩
      · rw [hf] at k1
        exact (k1 f rfl).fault bF
      have hl6 := takeSign_len hm6'
      have bG := bF.trans (up b7)
      have hq7 := b7.tupM (mx hR6) hq6
      obtain ⟨dx7, tl7, as7, i7, a7, t7, r7, q7, kd7, lt7, j7, _⟩ := hR7.at_
      obtain ⟨ns7, n7, n8⟩ := hR7.nm
      have nl7 := n8.len
      rw [List.length_map] at nl7
      refine ⟨_, rfl, x, _, dx7, _, _, rfl, j7, c_Reader T, n_Reader_names T, lr_names _ _ _ _, .inl ⟨rfl, _, SqL.of n7⟩, _, rfl, nl, _, _, rfl, rfl, n7, small_lt (by rw [vr_len]; omega), ?_⟩
      rw [vr_snoc]
      have hR8 := hR7.addN n7 hq7 hn40
      have b8 : But [nl] H7 (upd H7 nl (.lst (vr (ns7 ++ [q])))) := But.upd (But.refl _) (by simp)
      have bH := bG.trans (b8.more (M := [x, nl]) (by simp))
      generalize upd H7 nl (.lst (vr (ns7 ++ [q]))) = H8 at *
      refine ⟨_, rfl, _, rfl, small_size (by simp), fun e he => ?_⟩
      have s9 : Same H8 (upd H8 e (.tup [.int (i' : Int), .int (j' : Int)])) := Same.new he
      simp only [List.length_cons, List.drop_succ_cons, List.drop_zero] at hl1
      exact k2 b i' j' m6 (by rw [hm6']; rfl) _ e (bH.trans (But.of s9)) (hR8.same s9) (SqT.of upd_same) (by simp only [List.length_cons]; omega) hil hjl
end SPW
end
section
set_option Elab.async false
set_option linter.all false
namespace SPW
open SP (ni EndOk grow ci)
open VapcmBase (Bytes PTok Toks RESERVED word takeName takeSign PName Fault)
open Vapcma (Form takeFormula newName takeOld takeAxioms takeRows takeGoals readText Text_)
theorem takeAxioms_eq (n : Nat) (as_ : List Vapcma.Axiom) (l : Toks) (h : VapcmBase.next (.name (word "axiom")) l = true) :
    takeAxioms (n + 1) as_ l = (axStep (as_.map fun a => a.name) as_.length l).bind fun x => takeAxioms n (as_ ++ [⟨x.1.1, x.1.2⟩]) x.2 := by
  rw [takeAxioms]
  unfold axStep VapcmBase.nextWord
  rw [if_pos h, if_pos h]
  show (if 6 ≤ as_.length then _ else _) = _
  by_cases c : 6 ≤ as_.length
  · rw [if_pos c, if_pos c]
    rfl
  · rw [if_neg c, if_neg c]
    cases newName (as_.map fun a => a.name) (l.drop 1) with
    | error f => rfl
    | ok x =>
      show (takeSign 58 x.2).bind _ = ((takeSign 58 x.2).bind _).bind _
      cases takeSign 58 x.2 with
      | error f => rfl
      | ok r =>
        show (takeFormula r).bind _ = ((takeFormula r).map _).bind _
        cases takeFormula r with
        | error f => rfl
        | ok f => rfl
theorem takeAxioms_end (n : Nat) (as_ : List Vapcma.Axiom) (l : Toks) (h : VapcmBase.next (.name (word "axiom")) l = false) (hne : as_ ≠ []) : takeAxioms (n + 1) as_ l = .ok (as_, l) := by
  rw [takeAxioms]
  unfold VapcmBase.nextWord
  rw [if_neg (by rw [h]; decide), if_neg]
  cases as_ with
  | nil => exact absurd rfl hne
  | cons a r => simp
theorem takeAxioms_none (n : Nat) (l : Toks) (h : VapcmBase.next (.name (word "axiom")) l = false) : takeAxioms (n + 1) [] l = .error ⟨3, VapcmBase.here l⟩ := by
  rw [takeAxioms]
  unfold VapcmBase.nextWord
  rw [if_neg (by rw [h]; decide)]
  rfl
theorem takeRows_eq (names : List Bytes) (n : Nat) (rs : List Vapcma.Row) (l : Toks) (h : VapcmBase.next (.name (word "row")) l = true) :
    takeRows names (n + 1) rs l = (rwStep (names ++ rs.map fun r => r.name) rs.length l).bind fun x => takeRows names n (rs ++ [⟨x.1.1, x.1.2.1, x.1.2.2⟩]) x.2 := by
  rw [takeRows]
  unfold rwStep VapcmBase.nextWord
  rw [if_pos h, if_pos h]
  show (if 24 ≤ rs.length then _ else _) = _
  by_cases c : 24 ≤ rs.length
  · rw [if_pos c, if_pos c]
    rfl
  · rw [if_neg c, if_neg c]
    generalize names ++ rs.map (fun r => r.name) = old
    dsimp only
    cases newName old (l.drop 1) with
    | error f => rfl
    | ok x =>
      show (takeSign 58 x.2).bind _ = ((takeSign 58 x.2).bind _).bind _
      cases takeSign 58 x.2 with
      | error f => rfl
      | ok r =>
        show (takeOld old r).bind _ = ((takeOld old r).bind _).bind _
        cases takeOld old r with
        | error f => rfl
        | ok i =>
          show (takeSign 44 i.2).bind _ = ((takeSign 44 i.2).bind _).bind _
          cases takeSign 44 i.2 with
          | error f => rfl
          | ok r2 =>
            show (takeOld old r2).bind _ = ((takeOld old r2).bind _).bind _
            cases takeOld old r2 with
            | error f => rfl
            | ok j =>
              show (takeSign 59 j.2).bind _ = ((takeSign 59 j.2).map _).bind _
              cases takeSign 59 j.2 with
              | error f => rfl
              | ok m => rfl
theorem takeRows_end (names : List Bytes) (n : Nat) (rs : List Vapcma.Row) (l : Toks) (h : VapcmBase.next (.name (word "row")) l = false) : takeRows names (n + 1) rs l = .ok (rs, l) := by
  rw [takeRows]
  unfold VapcmBase.nextWord
  rw [if_neg (by rw [h]; decide)]
theorem takeGoals_eq (n : Nat) (gs : List Form) (l : Toks) (h : VapcmBase.next (.name (word "goal")) l = true) :
    takeGoals (n + 1) gs l = (goStep gs.length l).bind fun x => takeGoals n (gs ++ [x.1]) x.2 := by
  have hl : VapcmBase.next .last l = false := by
    cases l with
    | nil => rfl
    | cons t r =>
      have h : VapcmBase.tokEq t.tok (.name (word "goal")) = true := h
      show VapcmBase.tokEq t.tok .last = false
      cases e : t.tok with
      | name b => rfl
      | num b => rfl
      | sign b => rfl
      | last => rw [e] at h; simp [VapcmBase.tokEq] at h
  rw [takeGoals, if_neg (by rw [hl]; decide)]
  unfold goStep VapcmBase.nextWord
  rw [if_pos h, if_pos h]
  show (if 4 ≤ gs.length then _ else _) = _
  by_cases c : 4 ≤ gs.length
  · rw [if_pos c, if_pos c]
    rfl
  · rw [if_neg c, if_neg c]
theorem takeGoals_end (n : Nat) (gs : List Form) (l : Toks) (h : VapcmBase.next (.name (word "goal")) l = false) : takeGoals (n + 1) gs l = if VapcmBase.next .last l = true then .ok gs else .error ⟨3, VapcmBase.here l⟩ := by
  rw [takeGoals]
  by_cases c : VapcmBase.next .last l = true
  · rw [if_pos c, if_pos c]
  · rw [if_neg c, if_neg c]
    unfold VapcmBase.nextWord
    rw [if_neg (by rw [h]; decide)]
    rfl
theorem readText_eq (l : Toks) : readText l = (takeAxioms (l.length + 1) [] l).bind fun a => (takeRows (a.1.map fun x => x.name) (a.2.length + 1) [] a.2).bind fun r => (takeGoals (r.2.length + 1) [] r.2).map fun g => ⟨a.1, r.1, g⟩ := rfl
end SPW
end
section
set_option Elab.async false
set_option linter.all false
set_option maxRecDepth 100000
set_option maxHeartbeats 4000000
namespace SPW
open PySem PySem.Spec PyProof.Rows L2
open SP (ni EndOk grow ci)
open VapcmBase (Bytes PTok Toks RESERVED word)
variable {P : Program} {w : World} {K : PySem.W.Frag} {mg : Str → Option Value} {base : Heap}
theorem pr1 (a b : V) : putF "at" b [("tokens", a)] = ([("tokens", a), ("at", b)] : List (Str × V)) := rfl
theorem pr2 (a b c : V) : putF "names" c [("tokens", a), ("at", b)] = ([("tokens", a), ("at", b), ("names", c)] : List (Str × V)) := rfl
theorem pr3 (a b c d : V) : putF "unknowns" d [("tokens", a), ("at", b), ("names", c)] = ([("tokens", a), ("at", b), ("names", c), ("unknowns", d)] : List (Str × V)) := rfl
/-- Reader(tokens) -/
def sp_Reader_init (K : PySem.W.Frag) : Sp := fun vs H Q _ => ∃ (x dx tl : Addr) (as : List Addr) (ts : Toks), vs = [.ref x, .ref tl] ∧ H x = some (.ins (He.ga K "Reader") dx []) ∧ H tl = some (.lst (vr as)) ∧ ToksAt K H as ts ∧ EndOk ts ∧ ts.length ≤ 5000 ∧
  ∀ H' nl ul, But [x] H H' → H nl = none → H ul = none → Rd K H' x nl tl ul ts [] [] → Q .non H'
abbrev N_Reader_init : List Str := ["self", "tokens"]
theorem sc_Reader_init : FnScope N_Reader_init ["self", "tokens"] (defScope s_Reader_init) := ⟨rfl, rfl, rfl, by decide +kernel, rfl, by decide +kernel, by decide +kernel⟩
theorem g_Reader_init (T : Tx K mg) : GMk P w K mg base CX0 1 "Reader" (He.ga K "Reader") ["self", "tokens"] (sp_Reader_init K) := by
  refine gmk0 (f_Reader_init T) (k_Reader T) (t_Reader T) sc_Reader_init (fun _ _ _ _ _ _ us hl => match us, hl with | [_, _], _ => rfl) (fun vs H Q E h => ?_) (fun f cdv A outer s H vs Q E hr h => ⟨_, (pss_cons (ps_fldK K (pv 0) (pv 1))
  (pss_cons (ps_fldK K (pv 0) pe_int1)
  (pss_cons (ps_fldK K (pv 0) (pe_lst pa_nil1))
  (pss_one (ps_fldK K (pv 0) (pe_lst pa_nil1)))))), ?_⟩)
  · obtain ⟨x, dx, tl, as, ts, rfl, _⟩ := h
    rfl
  · obtain ⟨x, dx, tl, as, ts, rfl, hx, htl, hts, hen, hln, k⟩ := h
    have ix : InsAt H x := ⟨_, _, _, hx⟩
    have up : ∀ (H1 : Hp) (fs : List (Str × V)), But [x] H H1 → But [x] H (upd H1 x (.ins (He.ga K "Reader") dx fs)) := fun H1 fs b => But.upd b (by simp)
    have hxt : x ≠ tl := fun e => by rw [e, htl] at hx; cases hx
    refine ⟨_, rfl, _, rfl, x, _, dx, _, rfl, hx, c_Reader T, n_Reader_tokens T, (by decide : ([] : List (Str × V)).length < 1000), ?_⟩
    refine ⟨_, rfl, x, _, dx, _, rfl, upd_same, c_Reader T, n_Reader_at T, (show (1 : Nat) < 1000 by decide), ?_⟩
    rw [upd_upd, show putF "at" (V.int 0) (putF "tokens" (V.ref tl) []) = _ from pr1 _ _]
    have b1 := up H [("tokens", .ref tl), ("at", .int 0)] (But.refl H)
    have hx1 : upd H x (.ins (He.ga K "Reader") dx [("tokens", .ref tl), ("at", .int 0)]) x = _ := upd_same
    generalize upd H x (.ins (He.ga K "Reader") dx [("tokens", .ref tl), ("at", .int 0)]) = H1 at b1 hx1 ⊢
    refine ⟨small_size (by simp), fun nl hnl => ?_⟩
    have hxn : x ≠ nl := ne_of_none hx1 hnl
    have hnlH : H nl = none := by
      cases e : H nl with
      | none => rfl
      | some u => rw [b1 _ _ (by simpa using Ne.symm hxn) e] at hnl; cases hnl
    have hx2 : upd H1 nl (.lst []) x = _ := (upd_ne hxn).trans hx1
    refine ⟨_, rfl, x, _, dx, _, rfl, hx2, c_Reader T, n_Reader_names T, (show (2 : Nat) < 1000 by decide), ?_⟩
    rw [pr2]
    have b3 := up _ [("tokens", .ref tl), ("at", .int 0), ("names", .ref nl)] (b1.new (p := nl) (o := .lst []) hnlH)
    have hx3 : upd (upd H1 nl (.lst [])) x (.ins (He.ga K "Reader") dx [("tokens", .ref tl), ("at", .int 0), ("names", .ref nl)]) x = _ := upd_same
    have hn3 : upd (upd H1 nl (.lst [])) x (.ins (He.ga K "Reader") dx [("tokens", .ref tl), ("at", .int 0), ("names", .ref nl)]) nl = some (.lst []) := (upd_ne (Ne.symm hxn)).trans upd_same
    generalize upd (upd H1 nl (.lst [])) x (.ins (He.ga K "Reader") dx [("tokens", .ref tl), ("at", .int 0), ("names", .ref nl)]) = H3 at b3 hx3 hn3 ⊢
    refine ⟨small_size (by simp), fun ul hul => ?_⟩
    have hxu : x ≠ ul := ne_of_none hx3 hul
    have hnu : nl ≠ ul := ne_of_none hn3 hul
    have hulH : H ul = none := by
      cases e : H ul with
      | none => rfl
      | some u => rw [b3 _ _ (by simpa using Ne.symm hxu) e] at hul; cases hul
    have hx4 : upd H3 ul (.lst []) x = _ := (upd_ne hxu).trans hx3
    refine ⟨_, rfl, x, _, dx, _, rfl, hx4, c_Reader T, n_Reader_unknowns T, (show (3 : Nat) < 1000 by decide), ?_⟩
    rw [pr3]
    have b5 := up _ (rdF tl 0 nl ul) (b3.new (p := ul) (o := .lst []) hulH)
    refine k _ nl ul b5 hnlH hulH ⟨⟨dx, tl, as, ts, 0, upd_same, b5 _ _ (by simpa using Ne.symm hxt) htl, ?_, rfl, ?_, rfl⟩, hen, hln, ⟨[], ?_, .nil⟩, ⟨[], ?_, .nil⟩, hnu, by simp, by simp; omega⟩
    · exact b5.toksM (fun a ha => by
        have : a = x := by simpa using ha
        exact this ▸ .inr ⟨_, _, _, hx⟩) hts
    · simp only [List.mem_cons, List.not_mem_nil, or_false, not_or]
      exact ⟨Ne.symm hxt, ne_of_none htl hnlH, ne_of_none htl hulH⟩
    · rw [upd_ne (Ne.symm hxn), upd_ne hnu]
      exact hn3
    · rw [upd_ne (Ne.symm hxu)]
      exact upd_same
end SPW
end
section
set_option autoImplicit false
set_option linter.all false
namespace SPW
open SP (ni EndOk grow ci TOk formOf_normal token_consV)
open VapcmBase (Bytes PTok Toks RESERVED word takeName takeSign PName Fault token lex tokens)
open Vapcma (Form size normal formOf rawNames takeFormula takeForm takePart newName takeOld takeAxioms takeRows takeGoals readText Text_)
/-! ### what's left is an end of what was there -/
theorem suf_drop {l : Toks} (k : Nat) : l.drop k <:+ l := List.drop_suffix k l
theorem takeSign_suf {c : Nat} {l m : Toks} (h : takeSign c l = .ok m) : m <:+ l := by
  rw [(SP.takeSign_ok h).2]
  exact suf_drop 1
theorem takeName_suf {l m : Toks} {n : PName} (h : takeName l = .ok (n, m)) : m <:+ l ∧ ∃ t ∈ l, t.tok = .name n.name := by
  obtain ⟨p, b, el, _, en⟩ := SP.takeName_ok h
  subst en
  rw [el]
  exact ⟨List.suffix_cons _ _, ⟨p, .name b⟩, by simp, rfl⟩
theorem take_suf : ∀ n, (∀ d l r m, takePart n d l = .ok (r, m) → m <:+ l) ∧ ∀ d l r m, takeForm n d l = .ok (r, m) → m <:+ l
  | 0 => by
    refine ⟨fun d l r m h => ?_, fun d l r m h => ?_⟩
    · rw [takePart.eq_def] at h
      cases h
    · rw [takeForm.eq_def] at h
      cases h
  | n + 1 => by
    obtain ⟨ih1, ih2⟩ := take_suf n
    refine ⟨fun d l r m h => ?_, fun d l r m h => ?_⟩
    · rw [takePart_eq] at h
      split at h
      · split at h
        · cases h
        · cases hp : takePart n (d + 1) (l.drop 1) with
          | error f => rw [hp] at h; cases h
          | ok x =>
            obtain ⟨r1, m1⟩ := x
            rw [hp] at h
            cases h
            exact (ih1 _ _ _ _ hp).trans (suf_drop 1)
      · split at h
        · split at h
          · cases h
          · cases hp : takeForm n (d + 1) (l.drop 1) with
            | error f => rw [hp] at h; cases h
            | ok x =>
              obtain ⟨r1, m1⟩ := x
              rw [hp] at h
              have h : Except.map (fun m => (r1, m)) (takeSign 41 m1) = .ok (r, m) := h
              cases hs : takeSign 41 m1 with
              | error f => rw [hs] at h; cases h
              | ok m2 =>
                rw [hs] at h
                cases h
                exact (takeSign_suf hs).trans ((ih2 _ _ _ _ hp).trans (suf_drop 1))
        · cases hp : takeName l with
          | error f => rw [hp] at h; cases h
          | ok x =>
            obtain ⟨r1, m1⟩ := x
            rw [hp] at h
            cases h
            exact (takeName_suf hp).1
    · rw [takeForm_eq] at h
      cases hp : takePart n d l with
      | error f => rw [hp] at h; cases h
      | ok x =>
        obtain ⟨r1, m1⟩ := x
        rw [hp] at h
        have h : (if VapcmBase.next (.sign 62) m1 = true then (if 40 ≤ d then .error ⟨10, VapcmBase.here m1⟩ else (takeForm n (d + 1) (m1.drop 1)).map fun y => (Vapcma.Raw.imp r1 y.1, y.2)) else .ok (r1, m1)) = .ok (r, m) := h
        split at h
        · split at h
          · cases h
          · cases hq : takeForm n (d + 1) (m1.drop 1) with
            | error f => rw [hq] at h; cases h
            | ok y =>
              obtain ⟨r2, m2⟩ := y
              rw [hq] at h
              cases h
              exact ((ih2 _ _ _ _ hq).trans (suf_drop 1)).trans (ih1 _ _ _ _ hp)
        · cases h
          exact ih1 _ _ _ _ hp
theorem takeFormula_ok {l m : Toks} {F : Form} (h : takeFormula l = .ok (F, m)) : m <:+ l ∧ normal F = F ∧ size F ≤ 40 := by
  rw [takeFormula_eq] at h
  cases hp : takeForm (2 * l.length + 2) 0 l with
  | error f => rw [hp] at h; cases h
  | ok x =>
    obtain ⟨r, m1⟩ := x
    rw [hp] at h
    have h : (takeSign 59 m1).bind (fun m => if 40 < size (formOf (rawNames r).eraseDups r) then Except.error ⟨9, VapcmBase.here l⟩ else .ok (formOf (rawNames r).eraseDups r, m)) = .ok (F, m) := h
    cases hs : takeSign 59 m1 with
    | error f => rw [hs] at h; cases h
    | ok m2 =>
      rw [hs] at h
      have h : (if 40 < size (formOf (rawNames r).eraseDups r) then Except.error (⟨9, VapcmBase.here l⟩ : Fault) else .ok (formOf (rawNames r).eraseDups r, m2)) = .ok (F, m) := h
      split at h
      · cases h
      · rename_i c
        cases h
        exact ⟨(takeSign_suf hs).trans ((take_suf _).2 _ _ _ _ hp), formOf_normal r, by omega⟩
theorem newName_suf {old : List Bytes} {l m : Toks} {b : Bytes} (h : newName old l = .ok (b, m)) : m <:+ l ∧ ∃ t ∈ l, t.tok = .name b := by
  rw [newName_eq] at h
  cases hn : takeName l with
  | error f => rw [hn] at h; cases h
  | ok x =>
    obtain ⟨n, m2⟩ := x
    rw [hn] at h
    dsimp only at h
    split at h
    · cases h
    · cases h
      exact takeName_suf hn
theorem takeOld_suf {old : List Bytes} {l m : Toks} {k : Nat} (h : takeOld old l = .ok (k, m)) : m <:+ l := by
  rw [takeOld_eq] at h
  cases hn : takeName l with
  | error f => rw [hn] at h; cases h
  | ok x =>
    obtain ⟨n, m2⟩ := x
    rw [hn] at h
    dsimp only at h
    split at h
    · cases h
      exact (takeName_suf hn).1
    · cases h
/-- names that aren't too long -/
def NmOk (l : Toks) : Prop := ∀ t ∈ l, ∀ b, t.tok = .name b → b.length ≤ 16
theorem NmOk.suf {l m : Toks} (h : NmOk l) (s : m <:+ l) : NmOk m := fun t ht => h t (s.subset ht)
theorem token_nm {l : Bytes} {b : Bytes} {k : Nat} (h : token l = some (.name b, k)) : b.length ≤ 16 := by
  cases l with
  | nil => cases h
  | cons c r =>
    rw [token_consV] at h
    split at h
    · split at h
      · cases h
      · rename_i hl
        cases h
        omega
    · split at h
      · cases q : VapcmBase.numberOf ((c :: r).takeWhile VapcmBase.isDigit) with
        | none => rw [q] at h; cases h
        | some n => rw [q] at h; cases h
      · split at h
        · cases h
        · cases h
theorem lex_nm : ∀ (n i : Nat) (b : Bytes) (l : Toks), lex n i b = .ok l → NmOk l
  | 0, i, b, l, h => by
    cases h
    intro t ht b hb
    simp at ht
    rw [ht] at hb
    cases hb
  | n + 1, i, [], l, h => by
    cases h
    intro t ht b hb
    simp at ht
    rw [ht] at hb
    cases hb
  | n + 1, i, c :: r, l, h => by
    rw [lex_cons] at h
    split at h
    · exact lex_nm n _ _ l h
    · split at h
      · exact lex_nm n _ _ l h
      · cases ht : token (c :: r) with
        | none => rw [ht] at h; cases h
        | some x =>
          rw [ht] at h
          obtain ⟨x, k⟩ := x
          have h : Except.map (fun l => (⟨i, x⟩ : PTok) :: l) (lex n (i + k) ((c :: r).drop k)) = .ok l := h
          cases hr : lex n (i + k) ((c :: r).drop k) with
          | error f => rw [hr] at h; cases h
          | ok l2 =>
            rw [hr] at h
            cases h
            intro t htm b hb
            rcases List.mem_cons.mp htm with rfl | htm
            · have hb : x = .name b := hb
              rw [hb] at ht
              exact token_nm ht
            · exact lex_nm n _ _ l2 hr t htm b hb
theorem tokens_nm {b : Bytes} {l : Toks} (h : tokens b = .ok l) : NmOk l := by
  unfold VapcmBase.tokens at h
  split at h
  · cases h
  · exact lex_nm _ _ _ _ h
end SPW
end
section
set_option autoImplicit false
set_option linter.all false
namespace SPW
open SP (ni EndOk grow ci TOk formOf_normal)
open VapcmBase (Bytes PTok Toks RESERVED word takeName takeSign PName Fault tokens)
open Vapcma (Form size normal takeFormula newName takeOld takeAxioms takeRows takeGoals readText Text_)
theorem axStep_ok {names : List Bytes} {many : Nat} {l m : Toks} {b : Bytes} {F : Form} (h : axStep names many l = .ok ((b, F), m)) : many < 6 ∧ m <:+ l ∧ normal F = F ∧ size F ≤ 40 ∧ ∃ t ∈ l, t.tok = .name b := by
  unfold axStep at h
  split at h
  · split at h
    · cases h
    · rename_i hm
      cases h1 : newName names (l.drop 1) with
      | error f => rw [h1] at h; cases h
      | ok x =>
        obtain ⟨b1, m1⟩ := x
        rw [h1] at h
        have h : (takeSign 58 m1).bind (fun r => (takeFormula r).map fun f => ((b1, f.1), f.2)) = .ok ((b, F), m) := h
        cases h2 : takeSign 58 m1 with
        | error f => rw [h2] at h; cases h
        | ok m2 =>
          rw [h2] at h
          have h : (takeFormula m2).map (fun f => ((b1, f.1), f.2)) = .ok ((b, F), m) := h
          cases h3 : takeFormula m2 with
          | error f => rw [h3] at h; cases h
          | ok y =>
            obtain ⟨F1, m3⟩ := y
            rw [h3] at h
            cases h
            obtain ⟨q1, t, ht, e⟩ := newName_suf h1
            obtain ⟨q2, q3, q4⟩ := takeFormula_ok h3
            exact ⟨by omega, q2.trans ((takeSign_suf h2).trans (q1.trans (suf_drop 1))), q3, q4, t, (suf_drop 1).subset ht, e⟩
  · cases h
theorem goStep_ok {many : Nat} {l m : Toks} {F : Form} (h : goStep many l = .ok (F, m)) : many < 4 ∧ m <:+ l ∧ normal F = F ∧ size F ≤ 40 := by
  unfold goStep at h
  split at h
  · split at h
    · cases h
    · obtain ⟨q2, q3, q4⟩ := takeFormula_ok h
      exact ⟨by omega, q2.trans (suf_drop 1), q3, q4⟩
  · cases h
theorem rwStep_ok {names : List Bytes} {many : Nat} {l m : Toks} {b : Bytes} {i j : Nat} (h : rwStep names many l = .ok ((b, i, j), m)) : many < 24 ∧ m <:+ l ∧ i < names.length ∧ j < names.length ∧ ∃ t ∈ l, t.tok = .name b := by
  unfold rwStep at h
  split at h
  · split at h
    · cases h
    · rename_i hm
      cases h1 : newName names (l.drop 1) with
      | error f => rw [h1] at h; cases h
      | ok x =>
        obtain ⟨b1, m1⟩ := x
        rw [h1] at h
        have h : (takeSign 58 m1).bind (fun r => (takeOld names r).bind fun i => (takeSign 44 i.2).bind fun r => (takeOld names r).bind fun j => (takeSign 59 j.2).map fun m => ((b1, i.1, j.1), m)) = .ok ((b, i, j), m) := h
        cases h2 : takeSign 58 m1 with
        | error f => rw [h2] at h; cases h
        | ok m2 =>
          rw [h2] at h
          have h : (takeOld names m2).bind (fun i => (takeSign 44 i.2).bind fun r => (takeOld names r).bind fun j => (takeSign 59 j.2).map fun m => ((b1, i.1, j.1), m)) = .ok ((b, i, j), m) := h
          cases h3 : takeOld names m2 with
          | error f => rw [h3] at h; cases h
          | ok y =>
            obtain ⟨i1, m3⟩ := y
            rw [h3] at h
            have h : (takeSign 44 m3).bind (fun r => (takeOld names r).bind fun j => (takeSign 59 j.2).map fun m => ((b1, i1, j.1), m)) = .ok ((b, i, j), m) := h
            cases h4 : takeSign 44 m3 with
            | error f => rw [h4] at h; cases h
            | ok m4 =>
              rw [h4] at h
              have h : (takeOld names m4).bind (fun j => (takeSign 59 j.2).map fun m => ((b1, i1, j.1), m)) = .ok ((b, i, j), m) := h
              cases h5 : takeOld names m4 with
              | error f => rw [h5] at h; cases h
              | ok z =>
                obtain ⟨j1, m5⟩ := z
                rw [h5] at h
                have h : (takeSign 59 m5).map (fun m => ((b1, i1, j1), m)) = .ok ((b, i, j), m) := h
                cases h6 : takeSign 59 m5 with
                | error f => rw [h6] at h; cases h
                | ok m6 =>
                  rw [h6] at h
                  cases h
                  obtain ⟨q1, t, ht, e⟩ := newName_suf h1
                  exact ⟨by omega, (takeSign_suf h6).trans ((takeOld_suf h5).trans ((takeSign_suf h4).trans ((takeOld_suf h3).trans ((takeSign_suf h2).trans (q1.trans (suf_drop 1)))))), (takeOld_len h3).2, (takeOld_len h5).2, t, (suf_drop 1).subset ht, e⟩
  · cases h
def AxOk (as_ : List Vapcma.Axiom) : Prop := as_.length ≤ 6 ∧ ∀ a ∈ as_, normal a.f = a.f ∧ size a.f ≤ 40 ∧ a.name.length ≤ 16
theorem axOk_snoc {as_ : List Vapcma.Axiom} (h : AxOk as_) {l m : Toks} (hN : NmOk l) {b : Bytes} {F : Form} {names : List Bytes} (hs : axStep names as_.length l = .ok ((b, F), m)) : AxOk (as_ ++ [⟨b, F⟩]) ∧ NmOk m := by
  obtain ⟨h1, h2, h3, h4, t, ht, e⟩ := axStep_ok hs
  refine ⟨⟨by simp; omega, fun a ha => ?_⟩, hN.suf h2⟩
  rcases List.mem_append.mp ha with z | z
  · exact h.2 a z
  · have : a = ⟨b, F⟩ := by simpa using z
    subst this
    exact ⟨h3, h4, hN t ht b e⟩
def RwOk (n : Nat) (rs : List Vapcma.Row) : Prop := rs.length ≤ 24 ∧ (∀ (k : Nat) (r : Vapcma.Row), rs[k]? = some r → r.i < n + k ∧ r.j < n + k) ∧ ∀ r ∈ rs, r.name.length ≤ 16
theorem rwOk_snoc {n : Nat} {rs : List Vapcma.Row} (h : RwOk n rs) {l m : Toks} (hN : NmOk l) {b : Bytes} {i j : Nat} {names : List Bytes} (hn : names.length = n + rs.length) (hs : rwStep names rs.length l = .ok ((b, i, j), m)) : RwOk n (rs ++ [⟨b, i, j⟩]) ∧ NmOk m := by
  obtain ⟨h1, h2, h3, h4, t, ht, e⟩ := rwStep_ok hs
  refine ⟨⟨by simp; omega, fun k r hr => ?_, fun r hr => ?_⟩, hN.suf h2⟩
  · rw [List.getElem?_append] at hr
    split at hr
    · exact h.2.1 k r hr
    · rename_i hk
      have hk2 : k - rs.length = 0 := by
        rcases Nat.eq_zero_or_pos (k - rs.length) with z | z
        · exact z
        · rw [List.getElem?_eq_none (by simp; omega)] at hr
          cases hr
      rw [hk2] at hr
      have hr := (Option.some.inj hr).symm
      subst hr
      dsimp only
      omega
  · rcases List.mem_append.mp hr with z | z
    · exact h.2.2 r z
    · have : r = ⟨b, i, j⟩ := by simpa using z
      subst this
      exact hN t ht b e
def GoOk (gs : List Form) : Prop := gs.length ≤ 4 ∧ ∀ g ∈ gs, normal g = g ∧ size g ≤ 40
theorem goOk_snoc {gs : List Form} (h : GoOk gs) {l m : Toks} {F : Form} (hs : goStep gs.length l = .ok (F, m)) : GoOk (gs ++ [F]) := by
  obtain ⟨h1, h2, h3, h4⟩ := goStep_ok hs
  refine ⟨by simp; omega, fun g hg => ?_⟩
  rcases List.mem_append.mp hg with z | z
  · exact h.2 g z
  · have : g = F := by simpa using z
    subst this
    exact ⟨h3, h4⟩
theorem tok_of {as_ : List Vapcma.Axiom} {rs : List Vapcma.Row} {gs : List Form} (h1 : AxOk as_) (h2 : RwOk as_.length rs) (h3 : GoOk gs) : TOk ⟨as_, rs, gs⟩ :=
  ⟨fun a ha => ⟨(h1.2 a ha).1, (h1.2 a ha).2.1⟩, fun g hg => h3.2 g hg, h1.1, h2.1, h3.1, h2.2.1, fun a ha => (h1.2 a ha).2.2, h2.2.2⟩
end SPW
end
section
set_option Elab.async false
set_option linter.all false
set_option maxRecDepth 100000
set_option maxHeartbeats 4000000
namespace SPW
open PySem PySem.Spec PyProof.Rows L2
open SP (ni EndOk grow ci TOk)
open VapcmBase (Bytes PTok Toks RESERVED word tokens)
open Vapcma (Form takeAxioms takeRows takeGoals readText Text_)
variable {P : Program} {w : World} {K : PySem.W.Frag} {mg : Str → Option Value} {base : Heap}
theorem same_but {H H' H'' : Hp} {x nl : Addr} (s : Same H H') (b : But [x, nl] H' H'') (hx : H x = none) (hn : H nl = none) : Same H H'' := fun a u e => b a u (by
  simp only [List.mem_cons, List.not_mem_nil, or_false, not_or]
  exact ⟨ne_of_none e hx, ne_of_none e hn⟩) (s a u e)
theorem takeAxioms_first (n : Nat) (l : Toks) : takeAxioms (n + 1) [] l = (axStep [] 0 l).bind fun x => takeAxioms n [⟨x.1.1, x.1.2⟩] x.2 := by
  cases h : VapcmBase.next (.name (word "axiom")) l with
  | true => exact takeAxioms_eq n [] l h
  | false =>
    rw [takeAxioms_none n l h]
    unfold axStep
    rw [if_neg (by rw [h]; decide)]
    rfl
/-- a text whose lists are new against a heap -/
def TextNew (K : PySem.W.Frag) (H0 H : Hp) (x : Addr) (t : Text_) : Prop := ∃ dx nm pa gl fo st, TextIn K H x dx nm pa gl fo st t ∧ H0 nm = none ∧ H0 pa = none ∧ H0 gl = none ∧ H0 fo = none ∧ H0 st = none
theorem TextNew.at_ {H0 H : Hp} {x : Addr} {t : Text_} (h : TextNew K H0 H x t) : TextAt K H x t := by
  obtain ⟨dx, nm, pa, gl, fo, st, h, _⟩ := h
  exact ⟨dx, nm, pa, gl, fo, st, h⟩
theorem TextNew.same {H0 H H' : Hp} {x : Addr} {t : Text_} (h : TextNew K H0 H x t) (s : Same H H') : TextNew K H0 H' x t := by
  obtain ⟨dx, nm, pa, gl, fo, st, h, r⟩ := h
  exact ⟨dx, nm, pa, gl, fo, st, h.same s, r⟩
/-- read_text(letters) -/
def sp_read_text (K : PySem.W.Frag) : Sp := fun vs H Q E => ∃ (a : Addr) (b : Bytes), vs = [.ref a] ∧ SqL K H a (vis (ni b)) ∧ b.length ≤ 100000 ∧
  (∀ f, Vapcma.read b = .error f → FaultAt K E H (f.code : Int) (f.place : Int)) ∧ ∀ t, Vapcma.read b = .ok t → ∀ H' p, Same H H' → TextNew K H H' p t → Q (.ref p) H'
abbrev N_read_text : List Str := ["letters", "reader", "axioms", "pairs", "goals"]
theorem sc_read_text : FnScope N_read_text ["letters"] (defScope s_read_text) := ⟨rfl, rfl, rfl, by decide +kernel, rfl, by decide +kernel, by decide +kernel⟩
theorem g_read_text (T : Tx K mg) : GFn P w K mg base (L2.CX P w) 90 "read_text" ["letters"] (sp_read_text K) := by
  have g_scan : GFn P w K mg base (L2.CX P w) 5 "scan" ["letters"] (sp_scan K) := g_scan T
  have g_Reader_init : GMk P w K mg base CX0 1 "Reader" (He.ga K "Reader") ["self", "tokens"] (sp_Reader_init K) := g_Reader_init T
  have g_Reader_axiom : GMe P w K mg base (L2.CX P w) 89 (He.ga K "Reader") "axiom" ["self", "many"] (sp_axiom K) := g_Reader_axiom T
  have g_Reader_row : GMe P w K mg base (L2.CX P w) 89 (He.ga K "Reader") "row" ["self", "many"] (sp_row K) := g_Reader_row T
  have g_Reader_goal : GMe P w K mg base (L2.CX P w) 89 (He.ga K "Reader") "goal" ["self", "many"] (sp_goal K) := g_Reader_goal T
  have g_Reader_is_next : GMe P w K mg base CX0 1 (He.ga K "Reader") "is_next" ["self", "kind", "letters"] (sp_Reader_is_next K) := g_Reader_is_next T
  have g_Reader_is_end : GMe P w K mg base CX0 1 (He.ga K "Reader") "is_end" ["self"] (sp_Reader_is_end K) := g_Reader_is_end T
  have g_Reader_here : GMe P w K mg base CX0 1 (He.ga K "Reader") "here" ["self"] (sp_Reader_here K) := g_Reader_here T
  have g_ProofText_init : GMk P w K mg base CX0 9 "ProofText" (He.ga K "ProofText") ["self", "names", "axiom_formulas", "pairs", "goals"] (sp_ProofText_init K) := g_ProofText_init T
  refine gfnX (f_read_text T) (t_read_text T) sc_read_text (fun _ _ _ _ _ _ us hl => match us, hl with | [_], _ => rfl) (fun vs H Q E h => ?_) (fun f cdv A outer s H vs Q E hr h => ⟨_, (pss_cons (ps_set (i := 1) sc_read_text.nd rfl (Or.inl rfl) (pe_mk g_Reader_init (hr.mono (by omega)) pass0 (pa_cons (pe_fn g_scan (hr.mono (by omega)) (passR (takes_of rfl rfl rfl rfl)) (pa_cons (pv 0) pa_nil1)) pa_nil1)))
  (pss_cons (ps_set (i := 2) sc_read_text.nd rfl (Or.inl rfl) (pe_lst (pa_cons (pe_me (pv 1) (c_Reader T) g_Reader_axiom (hr.mono (by omega)) (passR (takes_of rfl rfl rfl rfl)) (pa_cons pe_int1 pa_nil1)) pa_nil1)))
  (pss_cons (ps_while (passes_of rfl) (pt_val (pe_me (pv 1) (c_Reader T) g_Reader_is_next (hr.mono (by omega)) pass0 (pa_cons (pe_ci1 (t_WORD T)) (pa_cons (pe_ca1 (t_AXIOM T)) pa_nil1))))
  (pss_one (ps_expr (pe_bmK K PySem.F.plainAttrs_list PySem.F.slot_list_append PySem.F.type_list_append mt_append (pv 2) (pa_cons (pe_me (pv 1) (c_Reader T) g_Reader_axiom (hr.mono (by omega)) (passR (takes_of rfl rfl rfl rfl)) (pa_cons (pe_callB (call_lenK K) (by rfl) (t_len T) PySem.boot_len (pa_cons (pv 2) pa_nil1)) pa_nil1)) pa_nil1)))))
  (pss_cons (ps_set (i := 3) sc_read_text.nd rfl (Or.inl rfl) (pe_lst pa_nil1))
  (pss_cons (ps_while (passes_of rfl) (pt_val (pe_me (pv 1) (c_Reader T) g_Reader_is_next (hr.mono (by omega)) pass0 (pa_cons (pe_ci1 (t_WORD T)) (pa_cons (pe_ca1 (t_ROW T)) pa_nil1))))
  (pss_one (ps_expr (pe_bmK K PySem.F.plainAttrs_list PySem.F.slot_list_append PySem.F.type_list_append mt_append (pv 3) (pa_cons (pe_me (pv 1) (c_Reader T) g_Reader_row (hr.mono (by omega)) (passR (takes_of rfl rfl rfl rfl)) (pa_cons (pe_callB (call_lenK K) (by rfl) (t_len T) PySem.boot_len (pa_cons (pv 3) pa_nil1)) pa_nil1)) pa_nil1)))))
  (pss_cons (ps_set (i := 4) sc_read_text.nd rfl (Or.inl rfl) (pe_lst pa_nil1))
  (pss_cons (ps_while (passes_of rfl) (pt_val (pe_me (pv 1) (c_Reader T) g_Reader_is_next (hr.mono (by omega)) pass0 (pa_cons (pe_ci1 (t_WORD T)) (pa_cons (pe_ca1 (t_GOAL T)) pa_nil1))))
  (pss_one (ps_expr (pe_bmK K PySem.F.plainAttrs_list PySem.F.slot_list_append PySem.F.type_list_append mt_append (pv 4) (pa_cons (pe_me (pv 1) (c_Reader T) g_Reader_goal (hr.mono (by omega)) (passR (takes_of rfl rfl rfl rfl)) (pa_cons (pe_callB (call_lenK K) (by rfl) (t_len T) PySem.boot_len (pa_cons (pv 4) pa_nil1)) pa_nil1)) pa_nil1)))))
  (pss_cons (ps_if (pt_not (pt_val (pe_me0 (pv 1) (c_Reader T) g_Reader_is_end (hr.mono (by omega)) pass0))) (pss_one (ps_raise rfl (takes_of rfl rfl rfl rfl) (pmk_fault T (hr.mono (by omega)) (pa_cons pe_int1 (pa_cons (pe_me0 (pv 1) (c_Reader T) g_Reader_here (hr.mono (by omega)) pass0) pa_nil1)))))
  pss_nil)
  (pss_one (ps_ret (pe_mk g_ProofText_init (hr.mono (by omega)) pass0 (pa_cons (pe_callTy (call_listK K) (by rfl) (t_list T) (by decide +kernel) (pa_cons (pe_fldK K (pv 1)) pa_nil1)) (pa_cons (pv 2) (pa_cons (pv 3) (pa_cons (pv 4) pa_nil1))))))))))))))), ?_⟩)
  · obtain ⟨a, b, rfl, _⟩ := h
    rfl
  · obtain ⟨a, b, rfl, hA, hz, k1, k2⟩ := h
    refine ⟨_, rfl, a, b, rfl, hA, hz, fun f hf => k1 f (by unfold Vapcma.read; rw [hf]; rfl), fun ts hts H1 tl as s1 ftl htl htk => ?_⟩
    have hrd : Vapcma.read b = readText ts := by unfold Vapcma.read; rw [hts]; rfl
    rw [hrd, readText_eq] at k1 k2
    obtain ⟨hen, hln⟩ := SP.tokens_end hts
    have hnm := tokens_nm hts
    intro x dx hx hdx hne
    have s2 : Same H1 (upd (upd H1 dx (.own x)) x (.ins (He.ga K "Reader") dx [])) := (Same.new hdx).mut hx
    have hxH : H x = none := s1.free hx
    refine ⟨x, dx, tl, as, ts, rfl, upd_same, s2 _ _ htl, htk.same s2, hen, by omega, fun H3 nl ul b3 hnl0 hul0 hR => ⟨rfl, ?_⟩⟩
    have hnlH : H nl = none := s1.free (s2.free hnl0)
    have s3 : Same H H3 := (But.cutS b3 (s1.trans s2) hxH).same
    obtain ⟨dx3, tl3, as3, i3, a3, t3, r3, q3, kd3, lt3, j3, _⟩ := hR.at_
    -- the first axiom
    rw [takeAxioms_first] at k1 k2
    refine ⟨_, rfl, x, dx3, _, rfl, j3, rfl, x, nl, tl, ul, ts, [], [], 0, rfl, hR, by decide, by decide, fun f hf => ?_, fun b1 F1 m1 hs1 H4 p4 ul4 unk4 b4 hul4 hR4 hp4 hl4 => ?_⟩
    · rw [hf] at k1
      have := k1 f rfl
      exact fun d H' bb hd => this d H' (same_but s3 bb hxH hnlH) hd
    obtain ⟨hax1, hnm1⟩ := axOk_snoc (as_ := []) ⟨by simp, fun a h => by simp at h⟩ hnm hs1
    have e1 : ∀ {B : Type} (g : (Bytes × Form) × Toks → Except VapcmBase.Fault B), (axStep [] 0 ts).bind g = g ((b1, F1), m1) := fun g => by rw [hs1]; rfl
    rw [e1] at k1 k2
    dsimp only at k1 k2
    have s4 : Same H H4 := same_but s3 b4 hxH hnlH
    refine ⟨small_size (by simp), fun al hal => ?_⟩
    have halH : H al = none := s4.free hal
    have s5 : Same H4 (upd H4 al (.lst (vr [p4]))) := Same.new hal
    have hal5 : upd H4 al (.lst (vr [p4])) al = some (.lst (vr [p4])) := upd_same
    have hR5 := hR4.same s5
    have hp5 := s5.tup hp4
    have s45 := s4.trans s5
    obtain ⟨dx4, tl4, as4, i4, a4, t4, r4, q4, kd4, lt4, j4, _⟩ := hR4.at_
    have hxal : x ≠ al := ne_of_none j4 hal
    have hnal : nl ≠ al := by
      obtain ⟨ns, n1, _⟩ := hR4.nm
      exact ne_of_none n1 hal
    have htal : tl ≠ al := by
      obtain ⟨_, _, _, _, _, _, n1, _, _, _, e⟩ := hR4.ex
      exact ne_of_none (e ▸ n1) hal
    show tSeq _ _ _ _ (upd H4 al (.lst (vr [p4])))
    generalize upd H4 al (.lst (vr [p4])) = H5 at s5 hal5 hR5 hp5 s45 ⊢
    refine wh_by (fun m σ' H' => ∃ (l : Toks) (as_ : List Vapcma.Axiom) (fas : List Addr) (ul : Addr) (unk : List Bytes) (n : Nat), σ' = [some (.ref a), some (.ref x), some (.ref al), none, none] ∧ Same H H' ∧ Rd K H' x nl tl ul l (as_.map fun a : Vapcma.Axiom => a.name) unk ∧ AxOk as_ ∧ as_ ≠ [] ∧ NmOk l ∧
        H' al = some (.lst (vr fas)) ∧ TupsAt K H' fas (as_.map fun a : Vapcma.Axiom => ci a.f) ∧ l.length < n ∧ (takeAxioms ts.length [⟨b1, F1⟩] m1 = takeAxioms n as_ l) ∧ m = l.length) _
      ⟨m1, [⟨b1, F1⟩], [p4], ul4, unk4, ts.length, rfl, s45, hR5, hax1, by simp, hnm1, hal5, .cons hp5 .nil, hl4, rfl, rfl⟩ ?_
    rintro mm σ' H' ⟨l, as_, fas, ul', unk', n, rfl, s6, hR6, hax6, hne6, hnm6, hal6, hfas6, hn6, heq6, rfl⟩
    obtain ⟨n, rfl⟩ : ∃ n', n = n' + 1 := ⟨n - 1, by omega⟩
    obtain ⟨dx6, tl6, as6, i6, a6, t6, r6, q6, kd6, lt6, j6, _⟩ := hR6.at_
    have hwx : SqT K H' (He.ga K "AXIOM") (vis (ni (word "axiom"))) := u_AXIOM T H'
    refine ⟨_, rfl, x, dx6, _, rfl, j6, rfl, x, nl, tl, ul', He.ga K "AXIOM", l, _, unk', .name (word "axiom"), 1, _, rfl, hR6, .inl ⟨_, rfl, res_axiom, rfl, rfl⟩, hwx, _, rfl, ?_⟩
    cases hnx : VapcmBase.next (.name (word "axiom")) l with
    | true =>
      refine if_true_of rfl ?_
      refine ⟨_, fun _ _ h => h, ?_⟩
      rw [heq6, takeAxioms_eq n as_ l hnx] at k1 k2
      have hmany : (vr fas).length = as_.length := by
        have := hfas6.len
        rw [List.length_map] at this
        rw [vr_len, this]
      have hnames : (as_.map fun a : Vapcma.Axiom => a.name).length < 40 := by
        rw [List.length_map]
        have := hax6.1
        omega
      refine ⟨_, rfl, .inl ⟨rfl, _, SqL.of hal6⟩, _, rfl, x, dx6, _, rfl, j6, rfl, _, rfl, al, _, rfl, .inl (SqL.of hal6), ?_⟩
      refine ⟨x, nl, tl, ul', l, _, unk', (vr fas).length, rfl, hR6, by rw [hmany]; exact hax6.1, hnames, fun f hf => ?_, fun b7 F7 m7 hs7 H7 p7 ul7 unk7 b7' hul7 hR7 hp7 hl7 => ?_⟩
      · rw [hmany] at hf
        rw [hf] at k1
        have := k1 f rfl
        exact fun d H'' bb hd => this d H'' (same_but s6 bb hxH hnlH) hd
      · rw [hmany] at hs7
        obtain ⟨hax7, hnm7⟩ := axOk_snoc hax6 hnm6 hs7
        have e7 : ∀ {B : Type} (g : (Bytes × Form) × Toks → Except VapcmBase.Fault B), (axStep (as_.map fun a : Vapcma.Axiom => a.name) as_.length l).bind g = g ((b7, F7), m7) := fun g => by rw [hs7]; rfl
        have s7 : Same H H7 := same_but s6 b7' hxH hnlH
        have nal : al ∉ [x, nl] := by simp [Ne.symm hxal, Ne.symm hnal]
        have hal7 := b7' _ _ nal hal6
        have mu7 : Mu H' [x, nl] := fun a ha => hR6.mu a (by simp at ha; rcases ha with z | z <;> simp [z])
        have hfas7 := b7'.tupsM mu7 hfas6
        have hfl := hax6.1
        refine ⟨al, _, _, rfl, rfl, hal7, small_lt (by rw [hmany]; omega), ?_⟩
        rw [vr_snoc]
        have b8 : But [al] H7 (upd H7 al (.lst (vr (fas ++ [p7])))) := But.upd (But.refl _) (by simp)
        have m8 : Mu H7 [al] := fun a ha => by
          have : a = al := by simpa using ha
          exact this ▸ .inl ⟨_, hal7⟩
        have hR8 : Rd K (upd H7 al (.lst (vr (fas ++ [p7])))) x nl tl ul7 m7 ((as_.map fun a : Vapcma.Axiom => a.name) ++ [b7]) unk7 := by
          exact hR7.but b8 ⟨_, hal7⟩ (Ne.symm hnal) (fun e => by rw [← e, hal6] at hul7; cases hul7) (Ne.symm htal)
        refine ⟨m7.length, hl7, m7, as_ ++ [⟨b7, F7⟩], fas ++ [p7], ul7, unk7, n, rfl, s7.mut halH, ?_, hax7, by simp, hnm7, upd_same, ?_, by omega, ?_, rfl⟩
        · rw [List.map_append]
          exact hR8
        · rw [List.map_append]
          exact TupsAt.snoc (b8.tupM m8 hp7) (b8.tupsM m8 hfas7)
        · rw [heq6, takeAxioms_eq n as_ l hnx, e7]
    | false =>
      refine if_false_of rfl ?_
      rw [heq6, takeAxioms_end n as_ l hnx hne6] at k1 k2
      have k1' : ∀ f, ((takeRows (as_.map fun a : Vapcma.Axiom => a.name) (l.length + 1) [] l).bind fun r => (takeGoals (r.2.length + 1) [] r.2).map fun g => (⟨as_, r.1, g⟩ : Text_)) = .error f → FaultAt K E H (f.code : Int) (f.place : Int) := k1
      have k2' : ∀ t, ((takeRows (as_.map fun a : Vapcma.Axiom => a.name) (l.length + 1) [] l).bind fun r => (takeGoals (r.2.length + 1) [] r.2).map fun g => (⟨as_, r.1, g⟩ : Text_)) = .ok t → ∀ H' p, Same H H' → TextNew K H H' p t → Q (.ref p) H' := k2
      clear k1 k2 heq6 hrd
      clear hn6 hnx
      refine ⟨small_size (by simp), fun pl hpl => ?_⟩
      have t7 : Same H' (upd H' pl (.lst [])) := Same.new hpl
      have hpl7 : upd H' pl (.lst []) pl = some (.lst []) := upd_same
      have hal7 := t7 _ _ hal6
      have hfas7 := TupsAt.same t7 hfas6
      have hR7 := hR6.same t7
      have s7 := s6.trans t7
      have plH : H pl = none := s6.free hpl
      have hplnl : pl ≠ nl := by
        obtain ⟨_, n1, _⟩ := hR6.nm
        exact Ne.symm (ne_of_none n1 hpl)
      have hplul : pl ≠ ul' := by
        obtain ⟨_, n1, _⟩ := hR6.un
        exact Ne.symm (ne_of_none n1 hpl)
      have hpltl : pl ≠ tl := by
        obtain ⟨_, _, _, _, _, _, n1, _, _, _, e⟩ := hR6.ex
        exact Ne.symm (ne_of_none (e ▸ n1) hpl)
      have hplx : pl ≠ x := Ne.symm (ne_of_none j6 hpl)
      have hplal : pl ≠ al := Ne.symm (ne_of_none hal6 hpl)
      generalize upd H' pl (.lst []) = H7 at t7 hpl7 hal7 hfas7 hR7 s7 ⊢
      refine wh_by (fun m σ' H' => ∃ (l2 : Toks) (rs : List Vapcma.Row) (ps : List Addr) (n : Nat), σ' = [some (.ref a), some (.ref x), some (.ref al), some (.ref pl), none] ∧ Same H H' ∧ Rd K H' x nl tl ul' l2 ((as_.map fun a : Vapcma.Axiom => a.name) ++ rs.map fun r : Vapcma.Row => r.name) unk' ∧ RwOk as_.length rs ∧ NmOk l2 ∧
        H' al = some (.lst (vr fas)) ∧ TupsAt K H' fas (as_.map fun a : Vapcma.Axiom => ci a.f) ∧ H' pl = some (.lst (vr ps)) ∧ TupsAt K H' ps (rs.map pr) ∧ l2.length < n ∧
        (takeRows (as_.map fun a : Vapcma.Axiom => a.name) (l.length + 1) [] l = takeRows (as_.map fun a : Vapcma.Axiom => a.name) n rs l2) ∧ m = l2.length) _
        ⟨l, [], [], l.length + 1, rfl, s7, by rw [List.map_nil, List.append_nil]; exact hR7, ⟨by simp, fun k r e => by simp at e, fun r e => by simp at e⟩, hnm6, hal7, hfas7, hpl7, .nil, by omega, rfl, rfl⟩ ?_
      rintro mm σ' H8 ⟨l2, rs, ps, n2, rfl, s8, hR8, hrw8, hnm8, hal8, hfas8, hpl8, hps8, hn8, heq8, rfl⟩
      obtain ⟨n2, rfl⟩ : ∃ n', n2 = n' + 1 := ⟨n2 - 1, by omega⟩
      obtain ⟨dx8, tl8, as8, i8, a8, t8, r8, q8, kd8, lt8, j8, _⟩ := hR8.at_
      have hwr : SqT K H8 (He.ga K "ROW") (vis (ni (word "row"))) := u_ROW T H8
      refine ⟨_, rfl, x, dx8, _, rfl, j8, rfl, x, nl, tl, ul', He.ga K "ROW", l2, _, unk', .name (word "row"), 1, _, rfl, hR8, .inl ⟨_, rfl, res_row, rfl, rfl⟩, hwr, _, rfl, ?_⟩
      have hlen8 : ((as_.map fun a : Vapcma.Axiom => a.name) ++ rs.map fun r : Vapcma.Row => r.name).length = as_.length + rs.length := by simp
      have hax6' := hax6.1
      have hrw8' := hrw8.1
      have nal : al ∉ [x, nl] := by simp [Ne.symm hxal, Ne.symm hnal]
      have npl : pl ∉ [x, nl] := by simp [hplx, hplnl]
      have mu8 : Mu H8 [x, nl] := fun a ha => hR8.mu a (by simp at ha; rcases ha with z | z <;> simp [z])
      cases hnx : VapcmBase.next (.name (word "row")) l2 with
      | true =>
        refine if_true_of rfl ?_
        refine ⟨_, fun _ _ h => h, ?_⟩
        rw [heq8, takeRows_eq _ n2 rs l2 hnx] at k1' k2'
        have hmany : (vr ps).length = rs.length := by
          have := hps8.len
          rw [List.length_map] at this
          rw [vr_len, this]
        refine ⟨_, rfl, .inl ⟨rfl, _, SqL.of hpl8⟩, _, rfl, x, dx8, _, rfl, j8, rfl, _, rfl, pl, _, rfl, .inl (SqL.of hpl8), ?_⟩
        refine ⟨x, nl, tl, ul', l2, _, unk', (vr ps).length, rfl, hR8, by rw [hmany]; exact hrw8.1, by omega, fun f hf => ?_, fun b9 i9 j9 m9 hs9 H9 p9 b9' hR9 hp9 hl9 _ _ => ?_⟩
        · rw [hmany] at hf
          rw [hf] at k1'
          have := k1' f rfl
          exact fun d H'' bb hd => this d H'' (same_but s8 bb hxH hnlH) hd
        · rw [hmany] at hs9
          obtain ⟨hrw9, hnm9⟩ := rwOk_snoc hrw8 hnm8 hlen8 hs9
          have e9 : ∀ {B : Type} (g : (Bytes × Nat × Nat) × Toks → Except VapcmBase.Fault B), (rwStep ((as_.map fun a : Vapcma.Axiom => a.name) ++ rs.map fun r : Vapcma.Row => r.name) rs.length l2).bind g = g ((b9, i9, j9), m9) := fun g => by rw [hs9]; rfl
          have s9 : Same H H9 := same_but s8 b9' hxH hnlH
          have hal9 := b9' _ _ nal hal8
          have hpl9 := b9' _ _ npl hpl8
          have hfas9 := b9'.tupsM mu8 hfas8
          have hps9 := b9'.tupsM mu8 hps8
          refine ⟨pl, _, _, rfl, rfl, hpl9, small_lt (by rw [hmany]; omega), ?_⟩
          rw [vr_snoc]
          have bA : But [pl] H9 (upd H9 pl (.lst (vr (ps ++ [p9])))) := But.upd (But.refl _) (by simp)
          have mA : Mu H9 [pl] := fun a ha => by
            have : a = pl := by simpa using ha
            exact this ▸ .inl ⟨_, hpl9⟩
          have hRA := hR9.but bA ⟨_, hpl9⟩ hplnl hplul hpltl
          refine ⟨m9.length, hl9, m9, rs ++ [⟨b9, i9, j9⟩], ps ++ [p9], n2, rfl, s9.mut plH, ?_, hrw9, hnm9, bA _ _ (by simpa using Ne.symm hplal) hal9, bA.tupsM mA hfas9, upd_same, ?_, by omega, ?_, rfl⟩
          · rw [List.map_append, ← List.append_assoc]
            exact hRA
          · rw [List.map_append]
            exact TupsAt.snoc (bA.tupM mA hp9) (bA.tupsM mA hps9)
          · rw [heq8, takeRows_eq _ n2 rs l2 hnx, e9]
      | false =>
        refine if_false_of rfl ?_
        rw [heq8, takeRows_end _ n2 rs l2 hnx] at k1' k2'
        have k1 : ∀ f, ((takeGoals (l2.length + 1) [] l2).map fun g => (⟨as_, rs, g⟩ : Text_)) = .error f → FaultAt K E H (f.code : Int) (f.place : Int) := k1'
        have k2 : ∀ t, ((takeGoals (l2.length + 1) [] l2).map fun g => (⟨as_, rs, g⟩ : Text_)) = .ok t → ∀ H' p, Same H H' → TextNew K H H' p t → Q (.ref p) H' := k2'
        clear k1' k2' heq8
        clear hn8 hnx
        refine ⟨small_size (by simp), fun gl hgl => ?_⟩
        have t9 : Same H8 (upd H8 gl (.lst [])) := Same.new hgl
        have hgl9 : upd H8 gl (.lst []) gl = some (.lst []) := upd_same
        have hal9 := t9 _ _ hal8
        have hpl9 := t9 _ _ hpl8
        have hfas9 := TupsAt.same t9 hfas8
        have hps9 := TupsAt.same t9 hps8
        have hR9 := hR8.same t9
        have s9 := s8.trans t9
        have glH : H gl = none := s8.free hgl
        have hglnl : gl ≠ nl := by
          obtain ⟨_, n1, _⟩ := hR8.nm
          exact Ne.symm (ne_of_none n1 hgl)
        have hgltl : gl ≠ tl := by
          obtain ⟨_, _, _, _, _, _, n1, _, _, _, e⟩ := hR8.ex
          exact Ne.symm (ne_of_none (e ▸ n1) hgl)
        have hglx : gl ≠ x := Ne.symm (ne_of_none j8 hgl)
        have hglal : gl ≠ al := Ne.symm (ne_of_none hal8 hgl)
        have hglpl : gl ≠ pl := Ne.symm (ne_of_none hpl8 hgl)
        generalize upd H8 gl (.lst []) = H9 at t9 hgl9 hal9 hpl9 hfas9 hps9 hR9 s9 ⊢
        refine wh_by (fun m σ' H' => ∃ (l3 : Toks) (gs : List Form) (gas : List Addr) (ul : Addr) (unk : List Bytes) (n : Nat), σ' = [some (.ref a), some (.ref x), some (.ref al), some (.ref pl), some (.ref gl)] ∧ Same H H' ∧ Rd K H' x nl tl ul l3 ((as_.map fun a : Vapcma.Axiom => a.name) ++ rs.map fun r : Vapcma.Row => r.name) unk ∧ GoOk gs ∧
          H' al = some (.lst (vr fas)) ∧ TupsAt K H' fas (as_.map fun a : Vapcma.Axiom => ci a.f) ∧ H' pl = some (.lst (vr ps)) ∧ TupsAt K H' ps (rs.map pr) ∧ H' gl = some (.lst (vr gas)) ∧ TupsAt K H' gas (gs.map ci) ∧ l3.length < n ∧
          (takeGoals (l2.length + 1) [] l2 = takeGoals n gs l3) ∧ m = l3.length) _
          ⟨l2, [], [], ul', unk', l2.length + 1, rfl, s9, hR9, ⟨by simp, fun g e => by simp at e⟩, hal9, hfas9, hpl9, hps9, hgl9, .nil, by omega, rfl, rfl⟩ ?_
        rintro mm σ' HA ⟨l3, gs, gas, ulA, unkA, n3, rfl, sA, hRA, hgoA, halA, hfasA, hplA, hpsA, hglA, hgasA, hnA, heqA, rfl⟩
        obtain ⟨n3, rfl⟩ : ∃ n', n3 = n' + 1 := ⟨n3 - 1, by omega⟩
        obtain ⟨dxA, tlA, asA, iA, aA, tA, rA, qA, kdA, ltA, jA, _⟩ := hRA.at_
        have hwg : SqT K HA (He.ga K "GOAL") (vis (ni (word "goal"))) := u_GOAL T HA
        refine ⟨_, rfl, x, dxA, _, rfl, jA, rfl, x, nl, tl, ulA, He.ga K "GOAL", l3, _, unkA, .name (word "goal"), 1, _, rfl, hRA, .inl ⟨_, rfl, res_goal, rfl, rfl⟩, hwg, _, rfl, ?_⟩
        have hgoA' := hgoA.1
        have ngl : gl ∉ [x, nl] := by simp [hglx, hglnl]
        have muA : Mu HA [x, nl] := fun a ha => hRA.mu a (by simp at ha; rcases ha with z | z <;> simp [z])
        cases hnx : VapcmBase.next (.name (word "goal")) l3 with
        | true =>
          refine if_true_of rfl ?_
          refine ⟨_, fun _ _ h => h, ?_⟩
          rw [heqA, takeGoals_eq n3 gs l3 hnx] at k1 k2
          have hmany : (vr gas).length = gs.length := by
            have := hgasA.len
            rw [List.length_map] at this
            rw [vr_len, this]
          refine ⟨_, rfl, .inl ⟨rfl, _, SqL.of hglA⟩, _, rfl, x, dxA, _, rfl, jA, rfl, _, rfl, gl, _, rfl, .inl (SqL.of hglA), ?_⟩
          refine ⟨x, nl, tl, ulA, l3, _, unkA, (vr gas).length, rfl, hRA, by rw [hmany]; exact hgoA.1, fun f hf => ?_, fun F9 m9 hs9 HB pB ulB unkB bB hulB hRB hpB hlB => ?_⟩
          · rw [hmany] at hf
            rw [hf] at k1
            have := k1 f rfl
            exact fun d H'' bb hd => this d H'' (same_but sA bb hxH hnlH) hd
          · rw [hmany] at hs9
            have hgoB := goOk_snoc hgoA hs9
            have eB : ∀ {B : Type} (g : Form × Toks → Except VapcmBase.Fault B), (goStep gs.length l3).bind g = g (F9, m9) := fun g => by rw [hs9]; rfl
            have sB : Same H HB := same_but sA bB hxH hnlH
            have halB := bB _ _ nal halA
            have hplB := bB _ _ npl hplA
            have hglB := bB _ _ ngl hglA
            have hfasB := bB.tupsM muA hfasA
            have hpsB := bB.tupsM muA hpsA
            have hgasB := bB.tupsM muA hgasA
            refine ⟨gl, _, _, rfl, rfl, hglB, small_lt (by rw [hmany]; omega), ?_⟩
            rw [vr_snoc]
            have bC : But [gl] HB (upd HB gl (.lst (vr (gas ++ [pB])))) := But.upd (But.refl _) (by simp)
            have mC : Mu HB [gl] := fun a ha => by
              have : a = gl := by simpa using ha
              exact this ▸ .inl ⟨_, hglB⟩
            have hRC := hRB.but bC ⟨_, hglB⟩ hglnl (fun e => by rw [← e, hglA] at hulB; cases hulB) hgltl
            refine ⟨m9.length, hlB, m9, gs ++ [F9], gas ++ [pB], ulB, unkB, n3, rfl, sB.mut glH, hRC, hgoB, bC _ _ (by simpa using Ne.symm hglal) halB, bC.tupsM mC hfasB, bC _ _ (by simpa using Ne.symm hglpl) hplB, bC.tupsM mC hpsB, upd_same, ?_, by omega, ?_, rfl⟩
            · rw [List.map_append]
              exact TupsAt.snoc (bC.tupM mC hpB) (bC.tupsM mC hgasB)
            · rw [heqA, takeGoals_eq n3 gs l3 hnx, eB]
        | false =>
          refine if_false_of rfl ?_
          rw [heqA, takeGoals_end n3 gs l3 hnx] at k1 k2
          refine ⟨_, rfl, x, dxA, _, rfl, jA, rfl, x, nl, tl, ulA, l3, _, unkA, rfl, hRA, _, rfl, ?_⟩
          cases hend : VapcmBase.next .last l3 with
          | false =>
            rw [if_neg (by rw [hend]; decide)] at k1
            refine if_true_of rfl ?_
            refine ⟨_, rfl, x, dxA, _, rfl, jA, rfl, x, nl, tl, ulA, l3, _, unkA, rfl, hRA, ?_⟩
            exact mkF (fun d H2 s hd => k1 _ rfl d H2 (sA.trans s) hd)
          | true =>
            rw [if_pos hend] at k2
            refine if_false_of rfl ?_
            obtain ⟨ns, n1, n2⟩ := hRA.nm
            refine ⟨_, rfl, x, _, dxA, _, _, rfl, jA, c_Reader T, n_Reader_names T, lr_names _ _ _ _, nl, _, rfl, .inl (SqL.of n1), fun cl hcl => ?_⟩
            refine ⟨_, rfl, _, rfl, _, rfl, ?_⟩
            intro xo dxo hxo hdxo hneo
            have s10 : Same HA (upd HA cl (.lst (vr ns))) := Same.new hcl
            have hcl10 : upd HA cl (.lst (vr ns)) cl = some (.lst (vr ns)) := upd_same
            generalize upd HA cl (.lst (vr ns)) = HB at s10 hcl10 hxo hdxo ⊢
            have s11 : Same HB (upd (upd HB dxo (.own xo)) xo (.ins (He.ga K "ProofText") dxo [])) := (Same.new hdxo).mut hxo
            have s12 := s10.trans s11
            have s13 := (sA.trans s10).trans s11
            have hxoH : H xo = none := (sA.trans s10).free hxo
            refine ⟨xo, dxo, cl, al, pl, gl, ⟨as_, rs, gs⟩, fas, rfl, upd_same, tok_of hax6 hrw8 hgoA, ⟨⟨ns, SqL.of (s11 _ _ hcl10), TupsAt.same s12 ?_⟩, ⟨ps, SqL.of (s12 _ _ hplA), TupsAt.same s12 hpsA⟩, ⟨gas, SqL.of (s12 _ _ hglA), TupsAt.same s12 hgasA⟩⟩, SqL.of (s12 _ _ halA), TupsAt.same s12 hfasA, fun HC bC ⟨foC, stC, hIC, hfoC, hstC⟩ => ⟨rfl, ?_⟩⟩
            · show TupsAt K HA ns (((as_.map fun a : Vapcma.Axiom => a.name) ++ rs.map fun r : Vapcma.Row => r.name).map ni)
              exact n2
            · exact k2 _ rfl HC xo (But.cutS bC s13 hxoH).same ⟨dxo, cl, pl, gl, foC, stC, hIC, sA.free hcl, plH, glH, s13.free hfoC, s13.free hstC⟩
end SPW
end
section
set_option Elab.async false
set_option linter.all false
set_option autoImplicit false
namespace SPW
open PySem PySem.Spec PyProof.Rows L2
open SP (ci co TOk rowsOf JOk ni)
open Vapcma (Form Text_ formulas count formulaAt instanceOf matchBy)
open Vapcmb (looked itemsOf withItems neededRows jobOf peakOf leastPeak leastOrder firstAsGeneral targetItems treeTotal shorten)
open VapcmbNeutral (encode)
/-- what a call is answered -/
def ans (t : Text_) (c : Vapcmb.Call) : List Int := encode (looked t c)
def ansO (o : Option Text_) (c : Vapcmb.Call) : List Int := match o with
  | none => [-1]
  | some t => ans t c
def tn (l : List Int) : List Nat := l.map Int.toNat
theorem itemsIn_mem {n : Nat} {l : List Int} (h : itemsIn n l = true) {z : Int} (hz : z ∈ l) : 0 ≤ z ∧ z < (n : Int) := by
  unfold itemsIn at h
  rw [List.all_eq_true] at h
  have := h z hz
  rw [Bool.and_eq_true, decide_eq_true_eq, decide_eq_true_eq] at this
  exact this
theorem itemsIn_tn {n : Nat} {l : List Int} (h : itemsIn n l = true) : (∀ z ∈ tn l, z < n) ∧ l = (tn l).map (fun n : Nat => (n : Int)) := by
  refine ⟨fun z hz => ?_, ?_⟩
  · obtain ⟨y, hy, rfl⟩ := List.mem_map.mp hz
    have := itemsIn_mem h hy
    omega
  · unfold tn
    rw [List.map_map]
    have : l.map ((fun n : Nat => (n : Int)) ∘ Int.toNat) = l.map id := List.map_congr_left fun z hz => by
      have := itemsIn_mem h hz
      show ((z.toNat : Nat) : Int) = z
      omega
    rw [this, List.map_id]
/-- the items as the Spec has them -/
def isOf (t : Text_) (l : List Int) : List Nat := (List.range (count t)).filter fun k : Nat => l.contains (k : Int)
theorem isOf_mem {t : Text_} {l : List Int} (h : itemsIn (count t) l = true) (k : Nat) : k ∈ tn l ↔ k ∈ isOf t l := by
  unfold isOf tn
  rw [List.mem_map, List.mem_filter, List.mem_range, List.contains_iff_mem]
  constructor
  · rintro ⟨z, hz, rfl⟩
    have := itemsIn_mem h hz
    exact ⟨by omega, by rw [show ((z.toNat : Nat) : Int) = z by omega]; exact hz⟩
  · rintro ⟨h1, h2⟩
    exact ⟨_, h2, by omega⟩
theorem with_no {t : Text_} {l : List Int} {f : List Nat → VapcmBase.Answer} (h : itemsIn (count t) l = false) : Vapcmb.withItems t l f = VapcmBase.one (-2) := by
  unfold Vapcmb.withItems
  rw [SP.itemsOf_not h]
theorem with_yes {t : Text_} {l : List Int} {f : List Nat → VapcmBase.Answer} (h : itemsIn (count t) l = true) : Vapcmb.withItems t l f = f (isOf t l) := by
  unfold Vapcmb.withItems
  rw [SP.itemsOf_all h]
  rfl
theorem nats_eq (l : List Nat) : Vapcmb.nats l = l.map (fun n : Nat => (n : Int)) := rfl
theorem ans_prune_no {t : Text_} {l : List Int} (h : itemsIn (count t) l = false) : ans t (.prune l) = [-2] := by
  show encode (Vapcmb.withItems t l _) = _
  rw [with_no h]
  rfl
theorem ans_prune {t : Text_} {l : List Int} (h : itemsIn (count t) l = true) : ans t (.prune l) = ((rowsOf t (tn l)).length : Int) :: (rowsOf t (tn l)).map (fun n : Nat => (n : Int)) := by
  show encode (Vapcmb.withItems t l _) = _
  rw [with_yes h, SP.neededRows_eq t (tn l) (isOf t l) (isOf_mem h)]
  rfl
theorem job_of {t : Text_} {l : List Int} (h : itemsIn (count t) l = true) : JobOf t (tn l) (jobOf t (isOf t l)) := by
  refine ⟨(SP.neededRows_eq t (tn l) (isOf t l) (isOf_mem h)).symm, fun k hk => ?_⟩
  have hk : k ∈ neededRows t (isOf t l) := hk
  rw [← SP.neededRows_eq t (tn l) (isOf t l) (isOf_mem h)] at hk
  obtain ⟨i, r, e, _⟩ := SP.rowsOf_mem hk
  show ((isOf t l).filter fun i => decide (t.axioms.length ≤ i)).contains k = _
  rw [Bool.eq_iff_iff, List.contains_iff_mem, List.contains_iff_mem, List.mem_filter, isOf_mem h]
  simp only [decide_eq_true_eq]
  exact ⟨fun z => z.1, fun z => ⟨z, by omega⟩⟩
theorem ans_order_no1 {t : Text_} {il l : List Int} (h : itemsIn (count t) il = false) : ans t (.order il l) = [-2] := by
  show encode (Vapcmb.withItems t il _) = _
  rw [with_no h]
  rfl
theorem ans_order_no2 {t : Text_} {il l : List Int} (h : itemsIn (count t) il = true) (h2 : itemsIn (count t) l = false) : ans t (.order il l) = [-2] := by
  show encode (Vapcmb.withItems t il _) = _
  rw [with_yes h]
  rw [SP.itemsOf_not h2]
  rfl
theorem ans_order {t : Text_} {il l : List Int} (h : itemsIn (count t) il = true) (h2 : itemsIn (count t) l = true) : ans t (.order il l) = peakAns (peakOf t (jobOf t (isOf t il)) (tn l)) := by
  show encode (Vapcmb.withItems t il _) = _
  rw [with_yes h]
  rw [SP.itemsOf_all h2]
  show encode (match peakOf t (jobOf t (isOf t il)) (tn l) with
    | none => VapcmBase.one 0
    | some m => ⟨1, Vapcmb.nats [m]⟩) = _
  cases peakOf t (jobOf t (isOf t il)) (tn l) with
  | none => rfl
  | some m => rfl
theorem ans_least_no {t : Text_} {l : List Int} (h : itemsIn (count t) l = false) : ans t (.least l) = [-2] := by
  show encode (Vapcmb.withItems t l _) = _
  rw [with_no h]
  rfl
theorem ans_least {t : Text_} {l : List Int} (h : itemsIn (count t) l = true) (hl : (jobOf t (isOf t l)).rows.length ≤ 8 → (leastOrder t (jobOf t (isOf t l))).length = (jobOf t (isOf t l)).rows.length) : ans t (.least l) = leastAns t (jobOf t (isOf t l)) := by
  show encode (Vapcmb.withItems t l _) = _
  rw [with_yes h]
  show encode (if 8 < (jobOf t (isOf t l)).rows.length then VapcmBase.one (-7) else ⟨(leastPeak t (jobOf t (isOf t l)) : Int), Vapcmb.listRow (leastOrder t (jobOf t (isOf t l)))⟩) = _
  unfold leastAns
  generalize jobOf t (isOf t l) = j at hl ⊢
  by_cases c : 8 < j.rows.length
  · rw [if_pos c, if_pos c]
    rfl
  · rw [if_neg c, if_neg c]
    show _ :: ((leastOrder t j).length : Int) :: _ = _
    rw [hl (by omega)]
    rfl
/-! ### a form is an instance of itself -/
def IdS (s : List (Nat × Form)) : Prop := ∀ x ∈ s, x.2 = .var x.1
theorem match_self : ∀ (f : Form) (s : List (Nat × Form)), IdS s → ∃ s', matchBy f f s = some s' ∧ IdS s'
  | .var v, s, h => by
    cases e : s.find? fun x => x.1 == v with
    | none =>
      refine ⟨s ++ [(v, .var v)], by simp only [matchBy, e], fun x hx => ?_⟩
      rcases List.mem_append.mp hx with z | z
      · exact h x z
      · have : x = (v, .var v) := by simpa using z
        rw [this]
    | some x =>
      have h1 := List.find?_some e
      have h2 := h x (List.mem_of_find?_eq_some e)
      have h3 : x.1 = v := by simpa using h1
      exact ⟨s, by simp only [matchBy, e]; rw [if_pos (by rw [h2, h3])], h⟩
  | .imp a b, s, h => by
    obtain ⟨s1, e1, h1⟩ := match_self a s h
    obtain ⟨s2, e2, h2⟩ := match_self b s1 h1
    exact ⟨s2, by simp only [matchBy, e1, Option.bind_some, e2], h2⟩
  | .neg a, s, h => by
    obtain ⟨s1, e1, h1⟩ := match_self a s h
    exact ⟨s1, by simp only [matchBy, e1], h1⟩
theorem inst_self (f : Form) : instanceOf f f = true := by
  obtain ⟨s, e, _⟩ := match_self f [] (fun x hx => by simp at hx)
  unfold instanceOf
  rw [e]
  rfl
theorem first_some {fs : List (Option Form)} {F : Form} (h : some F ∈ fs) : ∃ k, firstAsGeneral fs F = some k := by
  have : (firstAsGeneral fs F).isSome = true := by
    unfold firstAsGeneral
    rw [List.findIdx?_isSome, List.any_eq_true]
    exact ⟨some F, h, by simp [inst_self]⟩
  exact Option.isSome_iff_exists.mp this
/-! ### general -/
theorem itemsIn_one (n : Nat) (i : Int) : itemsIn n [i] = decide (0 ≤ i ∧ i < (n : Int)) := by
  simp [itemsIn]
theorem ans_general_no {t : Text_} {i : Int} (h : itemsIn (count t) [i] = false) : ans t (.general i) = [-2] := by
  rw [itemsIn_one, decide_eq_false_iff_not] at h
  show encode (Vapcma.withFormula t i _) = _
  unfold Vapcma.withFormula Vapcma.withItem VapcmBase.index
  rw [if_neg h]
  rfl
theorem ans_general_none {t : Text_} {i : Int} (h : itemsIn (count t) [i] = true) (hf : (formulas t)[i.toNat]?.getD none = none) : ans t (.general i) = [-5] := by
  rw [itemsIn_one, decide_eq_true_eq] at h
  show encode (Vapcma.withFormula t i _) = _
  unfold Vapcma.withFormula Vapcma.withItem VapcmBase.index
  rw [if_pos h]
  dsimp only
  rw [show formulaAt t i.toNat = none from hf]
  rfl
theorem ans_general {t : Text_} {i : Int} {F : Form} (h : itemsIn (count t) [i] = true) (hf : (formulas t)[i.toNat]?.getD none = some F) : ans t (.general i) = [genI (formulas t) F, (((formulas t).countP fun g => g == some F : Nat) : Int)] := by
  rw [itemsIn_one, decide_eq_true_eq] at h
  have hm : some F ∈ formulas t := by
    cases e : (formulas t)[i.toNat]? with
    | none => rw [e] at hf; cases hf
    | some x =>
      rw [e] at hf
      have hf : x = some F := hf
      subst hf
      exact List.mem_of_getElem? e
  obtain ⟨k, hk⟩ := first_some hm
  show encode (Vapcma.withFormula t i _) = _
  unfold Vapcma.withFormula Vapcma.withItem VapcmBase.index
  rw [if_pos h]
  dsimp only
  rw [show formulaAt t i.toNat = some F from hf]
  dsimp only
  unfold genI
  rw [hk]
  rfl
theorem count_co (fs : List (Option Form)) (F : Form) : ((fs.map co).map dI).countP (fun z => PyData.eqv z (dI (ci F))) = fs.countP fun g => g == some F := by
  rw [List.map_map, List.countP_map]
  refine List.countP_congr fun x _ => ?_
  show PyData.eqv (dI (co x)) (dI (ci F)) = true ↔ _
  rw [eqv_dI, decide_eq_true_eq, beq_iff_eq]
  constructor
  · intro h
    exact SP.co_inj (b := some F) h
  · intro h
    rw [h]
    rfl
/-! ### the others -/
theorem ans_shown (t : Text_) : ans t .shown = ((ni (Vapcma.shown t)).length : Int) :: ni (Vapcma.shown t) := by
  rw [SP.ni_len]
  rfl
theorem ans_short (t : Text_) : ans t .short = ((ni (Vapcma.shown (shorten t))).length : Int) :: ni (Vapcma.shown (shorten t)) := by
  rw [SP.ni_len]
  rfl
theorem ans_totals (t : Text_) : ans t .totals = [((targetItems t).length : Int), ((rowsOf t (targetItems t)).length : Int), ((treeTotal t : Nat) : Int)] := by
  rw [SP.neededRows_eq t (targetItems t) (targetItems t) fun _ => Iff.rfl]
  rfl
theorem ans_shorten (t : Text_) : ans t .shorten = [((shorten t).rows.length : Int), (t.rows.length : Int), ((treeTotal t : Nat) : Int), ((treeTotal (shorten t) : Nat) : Int)] ++ ((shorten t).rows.map pr).flatten := by
  show ((shorten t).rows.length : Int) :: (Vapcmb.nats [t.rows.length, treeTotal t, treeTotal (shorten t)] ++ (shorten t).rows.flatMap fun r => Vapcmb.nats [r.i, r.j]) = _
  rw [List.flatMap]
  rfl
end SPW
end
section
set_option Elab.async false
set_option linter.all false
set_option maxRecDepth 100000
set_option maxHeartbeats 4000000
namespace SPW
open PySem PySem.Spec PyProof.Rows L2
open SP (ci co TOk rowsOf ni)
open Vapcma (Form Text_ formulas count shown)
open Vapcmb (targetItems treeTotal shorten)
variable {P : Program} {w : World} {K : PySem.W.Frag} {mg : Str → Option Value} {base : Heap}
/-- counted(numbers) -/
def sp_counted (K : PySem.W.Frag) : Sp := fun vs H Q _ => ∃ (a : Addr) (l : List Int), vs = [.ref a] ∧ H a = some (.lst (vis l)) ∧ l.length ≤ 16000000 ∧ ∀ H' p, Same H H' → H p = none → H' p = some (.lst (vis ((l.length : Int) :: l))) → Q (.ref p) H'
abbrev N_counted : List Str := ["numbers"]
theorem sc_counted : FnScope N_counted ["numbers"] (defScope s_counted) := ⟨rfl, rfl, rfl, by decide +kernel, rfl, by decide +kernel, by decide +kernel⟩
theorem g_counted (T : Tx K mg) : GFn P w K mg base CX0 1 "counted" ["numbers"] (sp_counted K) := by
  refine gfn0 (f_counted T) (t_counted T) sc_counted (fun _ _ _ _ _ _ us hl => match us, hl with | [_], _ => rfl) (fun vs H Q E h => ?_) (fun f cdv A outer s H vs Q E hr h => ⟨_, (pss_one (ps_ret (pe_op op_cat (pe_lst (pa_cons (pe_callB (call_lenK K) (by rfl) (t_len T) PySem.boot_len (pa_cons (pv 0) pa_nil1)) pa_nil1)) (pv 0)))), ?_⟩)
  · obtain ⟨a, l, rfl, _⟩ := h
    rfl
  · obtain ⟨a, l, rfl, ha, hl, k⟩ := h
    refine ⟨_, rfl, a, _, rfl, .inl (SqL.of ha), ?_⟩
    refine ⟨small_size (by simp), fun q hq => ?_⟩
    have s1 : Same H (upd H q (.lst [V.int ((vis l).length : Nat)])) := Same.new hq
    refine ⟨_, rfl, q, a, _, _, rfl, rfl, upd_same, s1 _ _ ha, small_size (by rw [vis_len]; simp; omega), fun p hp => ?_⟩
    refine k _ p (s1.trans (Same.new hp)) (s1.free hp) ?_
    rw [upd_same, vis_len]
    rfl
/-- prune(text, numbers) -/
def sp_prune (K : PySem.W.Frag) : Sp := fun vs H Q _ => ∃ (x a : Addr) (t : Text_) (l : List Int), vs = [.ref x, .ref a] ∧ TextAt K H x t ∧ SqL K H a (vis l) ∧ l.length ≤ 100000 ∧ ∀ H' p, Same H H' → H' p = some (.lst (vis (ans t (.prune l)))) → Q (.ref p) H'
abbrev N_prune : List Str := ["text", "numbers"]
theorem sc_prune : FnScope N_prune ["text", "numbers"] (defScope s_prune) := ⟨rfl, rfl, rfl, by decide +kernel, rfl, by decide +kernel, by decide +kernel⟩
theorem g_prune (T : Tx K mg) : GFn P w K mg base CX0 3 "prune" ["text", "numbers"] (sp_prune K) := by
  have g_are_items : GFn P w K mg base CX0 1 "are_items" ["text", "numbers"] (sp_are_items K) := g_are_items T
  have g_needed : GFn P w K mg base CX0 2 "needed" ["text", "numbers"] (sp_needed K) := g_needed T
  have g_counted : GFn P w K mg base CX0 1 "counted" ["numbers"] (sp_counted K) := g_counted T
  refine gfn0 (f_prune T) (t_prune T) sc_prune (fun _ _ _ _ _ _ us hl => match us, hl with | [_, _], _ => rfl) (fun vs H Q E h => ?_) (fun f cdv A outer s H vs Q E hr h => ⟨_, (pss_cons (ps_if (pt_not (pt_val (pe_fn g_are_items (hr.mono (by omega)) pass0 (pa_cons (pv 0) (pa_cons (pv 1) pa_nil1))))) (pss_one (ps_ret (pe_lst (pa_cons (pe_un un_neg pe_int1) pa_nil1))))
  pss_nil)
  (pss_one (ps_ret (pe_fn g_counted (hr.mono (by omega)) pass0 (pa_cons (pe_fn g_needed (hr.mono (by omega)) pass0 (pa_cons (pv 0) (pa_cons (pv 1) pa_nil1))) pa_nil1))))), ?_⟩)
  · obtain ⟨x, a, t, l, rfl, _⟩ := h
    rfl
  · obtain ⟨x, a, t, l, rfl, hT, ha, hl, k⟩ := h
    refine ⟨_, rfl, _, rfl, x, a, t, l, rfl, hT, ha, hl, fun H1 s1 => ?_⟩
    refine ⟨_, rfl, ?_⟩
    cases c : itemsIn (count t) l with
    | false =>
      refine if_true_of rfl ?_
      refine ⟨_, rfl, small_size (by simp), fun q hq => ?_⟩
      refine k _ q (s1.trans (Same.new hq)) ?_
      rw [ans_prune_no c]
      exact upd_same
    | true =>
      refine if_false_of rfl ?_
      obtain ⟨h1, h2⟩ := itemsIn_tn c
      refine ⟨_, rfl, _, rfl, x, a, t, tn l, rfl, hT.same s1, ?_, h1, fun H2 p s2 fp hp => ?_⟩
      · rw [vn_vis, ← h2]
        exact s1.seq ha
      · rw [vn_vis] at hp
        obtain ⟨_, _, _, _, _, _, hI⟩ := hT
        have hlen := SP.rowsOf_len (t := t) (tn l)
        have nr := hI.ok.nr
        refine ⟨p, _, rfl, hp, by rw [List.length_map]; omega, fun H3 q s3 fq hq => ?_⟩
        refine k H3 q ((s1.trans s2).trans s3) ?_
        rw [ans_prune c, hq, List.length_map]
/-- general(text, item) -/
def sp_general (K : PySem.W.Frag) : Sp := fun vs H Q _ => ∃ (x : Addr) (t : Text_) (i : Int), vs = [.ref x, .int i] ∧ TextAt K H x t ∧ ∀ H' p, Same H H' → H' p = some (.lst (vis (ans t (.general i)))) → Q (.ref p) H'
abbrev N_general : List Str := ["text", "item", "formula"]
theorem sc_general : FnScope N_general ["text", "item"] (defScope s_general) := ⟨rfl, rfl, rfl, by decide +kernel, rfl, by decide +kernel, by decide +kernel⟩
theorem g_general (T : Tx K mg) : GFn P w K mg base CX0 4 "general" ["text", "item"] (sp_general K) := by
  have g_are_items : GFn P w K mg base CX0 1 "are_items" ["text", "numbers"] (sp_are_items K) := g_are_items T
  have g_first_general : GFn P w K mg base CX0 3 "first_general" ["formulas", "f"] (sp_first_general K) := g_first_general T
  refine gfn0 (f_general T) (t_general T) sc_general (fun _ _ _ _ _ _ us hl => match us, hl with | [_, _], _ => rfl) (fun vs H Q E h => ?_) (fun f cdv A outer s H vs Q E hr h => ⟨_, (pss_cons (ps_if (pt_not (pt_val (pe_fn g_are_items (hr.mono (by omega)) pass0 (pa_cons (pv 0) (pa_cons (pe_lst (pa_cons (pv 1) pa_nil1)) pa_nil1))))) (pss_one (ps_ret (pe_lst (pa_cons (pe_un un_neg pe_int1) pa_nil1))))
  pss_nil)
  (pss_cons (ps_set (i := 2) sc_general.nd rfl (Or.inl rfl) (pe_ix (ix_listK K) (pe_fldK K (pv 0)) (pv 1) (fun _ _ => rfl)))
  (pss_cons (ps_if (pt_cmpR (op_eqDK K hr.units) (pv 2) (pe_ca1 (t_NO_FORMULA T)) (nomark _)) (pss_one (ps_ret (pe_lst (pa_cons (pe_un un_neg pe_int1) pa_nil1))))
  pss_nil)
  (pss_one (ps_ret (pe_lst (pa_cons (pe_fn g_first_general (hr.mono (by omega)) pass0 (pa_cons (pe_fldK K (pv 0)) (pa_cons (pv 2) pa_nil1))) (pa_cons (pe_bmK K PySem.F.plainAttrs_list PySem.F.slot_list_count PySem.F.type_list_count (mt_countDK K hr.units65) (pe_fldK K (pv 0)) (pa_cons (pv 2) pa_nil1)) pa_nil1)))))))), ?_⟩)
  · obtain ⟨x, t, i, rfl, _⟩ := h
    rfl
  · obtain ⟨x, t, i, rfl, hT, k⟩ := h
    refine ⟨_, rfl, _, rfl, small_size (by simp), fun q hq => ?_⟩
    have s1 : Same H (upd H q (.lst [V.int i])) := Same.new hq
    have hq1 : upd H q (.lst [V.int i]) q = some (.lst (vis [i])) := upd_same
    generalize upd H q (.lst [V.int i]) = H1 at s1 hq1 ⊢
    refine ⟨x, q, t, [i], rfl, hT.same s1, SqL.of hq1, by simp, fun H2 s2 => ?_⟩
    have s12 := s1.trans s2
    refine ⟨_, rfl, ?_⟩
    cases c : itemsIn (count t) [i] with
    | false =>
      refine if_true_of rfl ?_
      refine ⟨_, rfl, small_size (by simp), fun p hp => ?_⟩
      refine k _ p (s12.trans (Same.new hp)) ?_
      rw [ans_general_no c]
      exact upd_same
    | true =>
      refine if_false_of rfl ?_
      obtain ⟨dx, nm, pa, gl, fo, st, hI⟩ := hT.same s12
      obtain ⟨as, f1, f2⟩ := hI.fo.ex
      obtain ⟨i1, i2⟩ := itemsIn_mem c (z := i) (by simp)
      have hilt : i.toNat < (formulas t).length := by rw [SP.formulas_len]; omega
      obtain ⟨fa, a1, a2⟩ := FsAt.at_ f2 hilt
      have ei : ((i.toNat : Nat) : Int) = i := by omega
      rw [ei] at a1
      refine ⟨_, rfl, x, _, dx, _, _, rfl, hI.at_, c_ProofText T, n_ProofText_formulas T, lk_formulas _ _ _ _ _ _, _, rfl, fo, _, i, _, rfl, rfl, f1, a1, ?_⟩
      refine ⟨_, rfl, _, _, dp_tup a2, dp_tup (l := []) (u_NO_FORMULA T _), dI_shaped _, dI_shaped _, _, rfl, ?_⟩
      rw [eqv_dI]
      cases hF : (formulas t)[i.toNat]?.getD none with
      | none =>
        refine if_true_of rfl ?_
        refine ⟨_, rfl, small_size (by simp), fun p hp => ?_⟩
        refine k _ p (s12.trans (Same.new hp)) ?_
        rw [ans_general_none c hF]
        exact upd_same
      | some F =>
        rw [hF] at a2
        refine if_false_of (decide_eq_false (SP.ci_ne F)) ?_
        refine ⟨_, rfl, x, _, dx, _, _, rfl, hI.at_, c_ProofText T, n_ProofText_formulas T, lk_formulas _ _ _ _ _ _, _, rfl, fo, fa, formulas t, F, rfl, hI.fo, a2, fun H3 s3 => ?_⟩
        have hI3 := hI.same s3
        have a3 := s3.tup a2
        obtain ⟨as3, g1, g2⟩ := hI3.fo.ex
        refine ⟨_, rfl, x, _, dx, _, _, rfl, hI3.at_, c_ProofText T, n_ProofText_formulas T, lk_formulas _ _ _ _ _ _, .inl ⟨rfl, _, g1⟩, _, rfl, fo, .ref fa, dI (ci F), ((formulas t).map co).map dI, rfl, rfl, dp_tupsL g1 g2, dp_tup a3, tups_shaped _, dI_shaped _, ?_⟩
        refine ⟨small_size (by simp), fun p hp => ?_⟩
        refine k _ p ((s12.trans s3).trans (Same.new hp)) ?_
        rw [ans_general c hF, count_co]
        exact upd_same
end SPW
end
section
set_option Elab.async false
set_option linter.all false
set_option maxRecDepth 100000
set_option maxHeartbeats 4000000
namespace SPW
open PySem PySem.Spec PyProof.Rows L2
open SP (ci co TOk rowsOf ni)
open Vapcma (Form Text_ formulas count shown)
open Vapcmb (targetItems treeTotal shorten jobOf)
variable {P : Program} {w : World} {K : PySem.W.Frag} {mg : Str → Option Value} {base : Heap}
/-- shorten(text) -/
def sp_shorten (K : PySem.W.Frag) : Sp := fun vs H Q _ => ∃ (x : Addr) (t : Text_), vs = [.ref x] ∧ TextAt K H x t ∧ ∀ H' p, Same H H' → H' p = some (.lst (vis (ans t .shorten))) → Q (.ref p) H'
abbrev N_shorten : List Str := ["text", "short", "out", "first", "second"]
theorem sc_shorten : FnScope N_shorten ["text"] (defScope s_shorten) := ⟨rfl, rfl, rfl, by decide +kernel, rfl, by decide +kernel, by decide +kernel⟩
theorem g_shorten (T : Tx K mg) : GFn P w K mg base CX0 13 "shorten" ["text"] (sp_shorten K) := by
  have g_shortened : GFn P w K mg base CX0 12 "shortened" ["text"] (sp_shortened K) := g_shortened T
  have g_total_steps : GFn P w K mg base CX0 5 "total_steps" ["text"] (sp_total_steps K) := g_total_steps T
  refine gfn0 (f_shorten T) (t_shorten T) sc_shorten (fun _ _ _ _ _ _ us hl => match us, hl with | [_], _ => rfl) (fun vs H Q E h => ?_) (fun f cdv A outer s H vs Q E hr h => ⟨_, (pss_cons (ps_set (i := 1) sc_shorten.nd rfl (Or.inl rfl) (pe_fn g_shortened (hr.mono (by omega)) pass0 (pa_cons (pv 0) pa_nil1)))
  (pss_cons (ps_set (i := 2) sc_shorten.nd rfl (Or.inl rfl) (pe_lst (pa_cons (pe_callB (call_lenK K) (by rfl) (t_len T) PySem.boot_len (pa_cons (pe_fldK K (pv 1)) pa_nil1)) (pa_cons (pe_callB (call_lenK K) (by rfl) (t_len T) PySem.boot_len (pa_cons (pe_fldK K (pv 0)) pa_nil1)) (pa_cons (pe_fn g_total_steps (hr.mono (by omega)) pass0 (pa_cons (pv 0) pa_nil1)) (pa_cons (pe_fn g_total_steps (hr.mono (by omega)) pass0 (pa_cons (pv 1) pa_nil1)) pa_nil1))))))
  (pss_cons (ps_for PassesOwn.never rfl (pi_listK K (pe_fldK K (pv 1))) (pg_tupK K (n := 2) rfl (pgs_cons (pg_name (i := 3) sc_shorten.nd rfl (Or.inl rfl)) (pgs_cons (pg_name (i := 4) sc_shorten.nd rfl (Or.inl rfl)) pgs_nil)))
  (pss_cons (ps_expr (pe_bmK K PySem.F.plainAttrs_list PySem.F.slot_list_append PySem.F.type_list_append mt_append (pv 2) (pa_cons (pv 3) pa_nil1)))
  (pss_one (ps_expr (pe_bmK K PySem.F.plainAttrs_list PySem.F.slot_list_append PySem.F.type_list_append mt_append (pv 2) (pa_cons (pv 4) pa_nil1))))))
  (pss_one (ps_ret (pv 2)))))), ?_⟩)
  · obtain ⟨x, t, rfl, _⟩ := h
    rfl
  · obtain ⟨x, t, rfl, hT, k⟩ := h
    refine ⟨_, rfl, x, t, rfl, hT, fun H1 y s1 hY => ?_⟩
    obtain ⟨dy, nm, pa, gl, fo, st, hI⟩ := hY
    obtain ⟨ps, p1, p2⟩ := hI.parts.pa
    obtain ⟨dx, nmx, pax, glx, fox, stx, hX⟩ := hT.same s1
    obtain ⟨px, q1, q2⟩ := hX.parts.pa
    have hlp := p2.len
    have hlq := q2.len
    rw [List.length_map] at hlp hlq
    have nrs := hI.ok.nr
    refine ⟨_, rfl, y, _, dy, _, _, rfl, hI.at_, c_ProofText T, n_ProofText_pairs T, lk_pairs _ _ _ _ _ _, pa, _, rfl, .inl p1, ?_⟩
    refine ⟨_, rfl, x, _, dx, _, _, rfl, hX.at_, c_ProofText T, n_ProofText_pairs T, lk_pairs _ _ _ _ _ _, pax, _, rfl, .inl q1, ?_⟩
    refine ⟨_, rfl, x, t, rfl, ⟨dx, nmx, pax, glx, fox, stx, hX⟩, fun H2 s2 => ?_⟩
    refine ⟨_, rfl, y, shorten t, rfl, ⟨dy, nm, pa, gl, fo, st, hI.same s2⟩, fun H3 s3 => ?_⟩
    refine ⟨small_size (by simp), fun o ho => ?_⟩
    have s13 := (s1.trans s2).trans s3
    have sI := s2.trans s3
    have s4 : Same H3 (upd H3 o (.lst [V.int ((vr ps).length : Nat), V.int ((vr px).length : Nat), V.int (treeTotal t : Nat), V.int (treeTotal (shorten t) : Nat)])) := Same.new ho
    have ho4 : upd H3 o (.lst [V.int ((vr ps).length : Nat), V.int ((vr px).length : Nat), V.int (treeTotal t : Nat), V.int (treeTotal (shorten t) : Nat)]) o = some (.lst (vis [((shorten t).rows.length : Int), (t.rows.length : Int), ((treeTotal t : Nat) : Int), ((treeTotal (shorten t) : Nat) : Int)])) := by
      rw [upd_same, vr_len, vr_len, hlp, hlq]
      rfl
    generalize upd H3 o (.lst [V.int ((vr ps).length : Nat), V.int ((vr px).length : Nat), V.int (treeTotal t : Nat), V.int (treeTotal (shorten t) : Nat)]) = H4 at s4 ho4 ⊢
    have s14 := s13.trans s4
    have hoH : H o = none := s13.free ho
    have hI4 := (hI.same sI).same s4
    refine ⟨_, rfl, y, _, dy, _, _, rfl, hI4.at_, c_ProofText T, n_ProofText_pairs T, lk_pairs _ _ _ _ _ _, pa, rfl, ⟨_, s4.seq (sI.seq p1)⟩, ?_⟩
    have ho1 : H1 o = none := sI.free ho
    refine for_list (K := K) (a := pa) (xs := vr ps) (fun i σ' H' => ∃ (v3 v4 : Option V), σ' = [some (.ref x), some (.ref y), some (.ref o), v3, v4] ∧ Same H1 H' ∧ H' o = some (.lst (vis ([((shorten t).rows.length : Int), (t.rows.length : Int), ((treeTotal t : Nat) : Int), ((treeTotal (shorten t) : Nat) : Int)] ++ (((shorten t).rows.take i).map pr).flatten))))
      ⟨none, none, rfl, sI.trans s4, by rw [ho4]; rfl⟩ (fun i σ' H' _ ⟨_, _, _, s, _⟩ => s.seq p1) ?_ ?_
    · rintro i xv σ' H' hx ⟨v3, v4, rfl, s5, ho5⟩
      obtain ⟨c, hc, rfl⟩ := vr_inv hx
      have hir : i < (shorten t).rows.length := by have := (List.getElem?_eq_some_iff.mp hc).1; omega
      obtain ⟨l, hl, hcl⟩ := (TupsAt.same s5 p2).get hc
      have hrow := SP.get_of_lt hir
      generalize (shorten t).rows[i] = r at hrow
      rw [List.getElem?_map, hrow] at hl
      have hl := Option.some.inj hl
      subst hl
      have hfl : (((shorten t).rows.take i).map pr).flatten.length ≤ 48 := by
        have e : ∀ rs : List Vapcma.Row, (rs.map pr).flatten.length = 2 * rs.length := by
          intro rs
          induction rs with
          | nil => rfl
          | cons a l ih => rw [List.map_cons, List.flatten_cons, List.length_append, ih, List.length_cons]; show 2 + _ = _; omega
        rw [e, List.length_take]
        omega
      refine ⟨c, _, rfl, hcl, rfl, _, _, rfl, _, _, rfl, rfl, ?_⟩
      refine ⟨_, rfl, .inl ⟨rfl, _, SqL.of ho5⟩, _, rfl, o, _, _, rfl, rfl, ho5, small_lt (by rw [vis_len]; simp only [List.length_append, List.length_cons, List.length_nil]; omega), ?_⟩
      refine ⟨_, rfl, .inl ⟨rfl, _, SqL.of upd_same⟩, _, rfl, o, _, _, rfl, rfl, upd_same, small_lt (by rw [List.length_append, vis_len]; simp only [List.length_append, List.length_cons, List.length_nil]; omega), ?_⟩
      refine ⟨_, _, rfl, (s5.mut ho1).mut ho1, ?_⟩
      rw [upd_same, take_more hrow, List.map_append, List.flatten_append]
      simp [vis, pr]
    · rintro σ' H' ⟨v3, v4, rfl, s5, ho5⟩
      rw [vr_len, hlp, List.take_length] at ho5
      refine ⟨_, rfl, ?_⟩
      refine k H' o (s1.trans s5) ?_
      rw [ans_shorten, ho5]
/-- order(text, wished, told) -/
def sp_order (K : PySem.W.Frag) : Sp := fun vs H Q _ => ∃ (x a b : Addr) (t : Text_) (l m : List Int), vs = [.ref x, .ref a, .ref b] ∧ TextAt K H x t ∧ SqL K H a (vis l) ∧ SqL K H b (vis m) ∧ l.length ≤ 100000 ∧ m.length ≤ 100000 ∧ ∀ H' p, Same H H' → H' p = some (.lst (vis (ans t (.order l m)))) → Q (.ref p) H'
abbrev N_order : List Str := ["text", "wished", "told"]
theorem sc_order : FnScope N_order ["text", "wished", "told"] (defScope s_order) := ⟨rfl, rfl, rfl, by decide +kernel, rfl, by decide +kernel, by decide +kernel⟩
theorem g_order (T : Tx K mg) : GFn P w K mg base CX0 5 "order" ["text", "wished", "told"] (sp_order K) := by
  have g_are_items : GFn P w K mg base CX0 1 "are_items" ["text", "numbers"] (sp_are_items K) := g_are_items T
  have g_order_answer : GFn P w K mg base CX0 4 "order_answer" ["text", "wished", "order"] (sp_order_answer K) := g_order_answer T
  refine gfn0 (f_order T) (t_order T) sc_order (fun _ _ _ _ _ _ us hl => match us, hl with | [_, _, _], _ => rfl) (fun vs H Q E h => ?_) (fun f cdv A outer s H vs Q E hr h => ⟨_, (pss_cons (ps_if (PW.pt (pw_or (pt_not (pt_val (pe_fn g_are_items (hr.mono (by omega)) pass0 (pa_cons (pv 0) (pa_cons (pv 1) pa_nil1))))) (pw_or1 (pt_not (pt_val (pe_fn g_are_items (hr.mono (by omega)) pass0 (pa_cons (pv 0) (pa_cons (pv 2) pa_nil1)))))))) (pss_one (ps_ret (pe_lst (pa_cons (pe_un un_neg pe_int1) pa_nil1))))
  pss_nil)
  (pss_one (ps_ret (pe_fn g_order_answer (hr.mono (by omega)) pass0 (pa_cons (pv 0) (pa_cons (pv 1) (pa_cons (pv 2) pa_nil1))))))), ?_⟩)
  · obtain ⟨x, a, b, t, l, m, rfl, _⟩ := h
    rfl
  · obtain ⟨x, a, b, t, l, m, rfl, hT, ha, hb, hl, hm, k⟩ := h
    refine ⟨_, rfl, _, rfl, x, a, t, l, rfl, hT, ha, hl, fun H1 s1 => ?_⟩
    refine ⟨_, rfl, ?_⟩
    cases c : itemsIn (count t) l with
    | false =>
      refine if_true_of rfl ?_
      refine if_true_of rfl ?_
      refine ⟨_, rfl, small_size (by simp), fun q hq => ?_⟩
      refine k _ q (s1.trans (Same.new hq)) ?_
      rw [ans_order_no1 c]
      exact upd_same
    | true =>
      refine if_false_of rfl ?_
      refine ⟨_, rfl, _, rfl, x, b, t, m, rfl, hT.same s1, s1.seq hb, hm, fun H2 s2 => ?_⟩
      refine ⟨_, rfl, ?_⟩
      have s12 := s1.trans s2
      cases c2 : itemsIn (count t) m with
      | false =>
        refine if_true_of rfl ?_
        refine ⟨_, rfl, small_size (by simp), fun q hq => ?_⟩
        refine k _ q (s12.trans (Same.new hq)) ?_
        rw [ans_order_no2 c c2]
        exact upd_same
      | true =>
        refine if_false_of rfl ?_
        obtain ⟨h1, h2⟩ := itemsIn_tn c
        obtain ⟨h3, h4⟩ := itemsIn_tn c2
        refine ⟨_, rfl, _, rfl, _, rfl, x, a, b, t, tn l, tn m, jobOf t (isOf t l), rfl, hT.same s12, ?_, h1, ?_, job_of c, fun H3 p s3 fp hp => ?_⟩
        · rw [vn_vis, ← h2]
          exact s12.seq ha
        · rw [vn_vis, ← h4]
          exact s12.seq hb
        · refine k H3 p (s12.trans s3) ?_
          rw [ans_order c c2, hp]
/-- least(text, wished) -/
def sp_least (K : PySem.W.Frag) : Sp := fun vs H Q _ => ∃ (x a : Addr) (t : Text_) (l : List Int), vs = [.ref x, .ref a] ∧ TextAt K H x t ∧ SqL K H a (vis l) ∧ l.length ≤ 100000 ∧ ∀ H' p, Same H H' → H' p = some (.lst (vis (ans t (.least l)))) → Q (.ref p) H'
abbrev N_least : List Str := ["text", "wished"]
theorem sc_least : FnScope N_least ["text", "wished"] (defScope s_least) := ⟨rfl, rfl, rfl, by decide +kernel, rfl, by decide +kernel, by decide +kernel⟩
theorem g_least (T : Tx K mg) : GFn P w K mg base CX0 7 "least" ["text", "wished"] (sp_least K) := by
  have g_are_items : GFn P w K mg base CX0 1 "are_items" ["text", "numbers"] (sp_are_items K) := g_are_items T
  have g_least_answer : GFn P w K mg base CX0 6 "least_answer" ["text", "wished"] (sp_least_answer K) := g_least_answer T
  refine gfn0 (f_least T) (t_least T) sc_least (fun _ _ _ _ _ _ us hl => match us, hl with | [_, _], _ => rfl) (fun vs H Q E h => ?_) (fun f cdv A outer s H vs Q E hr h => ⟨_, (pss_cons (ps_if (pt_not (pt_val (pe_fn g_are_items (hr.mono (by omega)) pass0 (pa_cons (pv 0) (pa_cons (pv 1) pa_nil1))))) (pss_one (ps_ret (pe_lst (pa_cons (pe_un un_neg pe_int1) pa_nil1))))
  pss_nil)
  (pss_one (ps_ret (pe_fn g_least_answer (hr.mono (by omega)) pass0 (pa_cons (pv 0) (pa_cons (pv 1) pa_nil1)))))), ?_⟩)
  · obtain ⟨x, a, t, l, rfl, _⟩ := h
    rfl
  · obtain ⟨x, a, t, l, rfl, hT, ha, hl, k⟩ := h
    refine ⟨_, rfl, _, rfl, x, a, t, l, rfl, hT, ha, hl, fun H1 s1 => ?_⟩
    refine ⟨_, rfl, ?_⟩
    cases c : itemsIn (count t) l with
    | false =>
      refine if_true_of rfl ?_
      refine ⟨_, rfl, small_size (by simp), fun q hq => ?_⟩
      refine k _ q (s1.trans (Same.new hq)) ?_
      rw [ans_least_no c]
      exact upd_same
    | true =>
      refine if_false_of rfl ?_
      obtain ⟨h1, h2⟩ := itemsIn_tn c
      refine ⟨_, rfl, _, rfl, x, a, t, tn l, jobOf t (isOf t l), rfl, hT.same s1, ?_, h1, job_of c, fun H2 p s2 fp h8 hp => ?_⟩
      · rw [vn_vis, ← h2]
        exact s1.seq ha
      · refine k H2 p (s1.trans s2) ?_
        rw [ans_least c h8, hp]
/-- totals(text) -/
def sp_totals (K : PySem.W.Frag) : Sp := fun vs H Q _ => ∃ (x : Addr) (t : Text_), vs = [.ref x] ∧ TextAt K H x t ∧ ∀ H' p, Same H H' → H' p = some (.lst (vis (ans t .totals))) → Q (.ref p) H'
abbrev N_totals : List Str := ["text", "found"]
theorem sc_totals : FnScope N_totals ["text"] (defScope s_totals) := ⟨rfl, rfl, rfl, by decide +kernel, rfl, by decide +kernel, by decide +kernel⟩
theorem g_totals (T : Tx K mg) : GFn P w K mg base CX0 6 "totals" ["text"] (sp_totals K) := by
  have g_targets : GFn P w K mg base CX0 4 "targets" ["text"] (sp_targets K) := g_targets T
  have g_needed : GFn P w K mg base CX0 2 "needed" ["text", "numbers"] (sp_needed K) := g_needed T
  have g_total_steps : GFn P w K mg base CX0 5 "total_steps" ["text"] (sp_total_steps K) := g_total_steps T
  refine gfn0 (f_totals T) (t_totals T) sc_totals (fun _ _ _ _ _ _ us hl => match us, hl with | [_], _ => rfl) (fun vs H Q E h => ?_) (fun f cdv A outer s H vs Q E hr h => ⟨_, (pss_cons (ps_set (i := 1) sc_totals.nd rfl (Or.inl rfl) (pe_fn g_targets (hr.mono (by omega)) pass0 (pa_cons (pv 0) pa_nil1)))
  (pss_one (ps_ret (pe_lst (pa_cons (pe_callB (call_lenK K) (by rfl) (t_len T) PySem.boot_len (pa_cons (pv 1) pa_nil1)) (pa_cons (pe_callB (call_lenK K) (by rfl) (t_len T) PySem.boot_len (pa_cons (pe_fn g_needed (hr.mono (by omega)) pass0 (pa_cons (pv 0) (pa_cons (pv 1) pa_nil1))) pa_nil1)) (pa_cons (pe_fn g_total_steps (hr.mono (by omega)) pass0 (pa_cons (pv 0) pa_nil1)) pa_nil1))))))), ?_⟩)
  · obtain ⟨x, t, rfl, _⟩ := h
    rfl
  · obtain ⟨x, t, rfl, hT, k⟩ := h
    refine ⟨_, rfl, x, t, rfl, hT, fun H1 f s1 ff hf => ?_⟩
    refine ⟨_, rfl, f, _, rfl, .inl (SqL.of hf), ?_⟩
    refine ⟨_, rfl, _, rfl, x, f, t, targetItems t, rfl, hT.same s1, SqL.of hf, fun z hz => targetItems_lt hz, fun H2 r s2 fr hr => ?_⟩
    refine ⟨r, _, rfl, .inl (SqL.of hr), ?_⟩
    refine ⟨_, rfl, x, t, rfl, (hT.same s1).same s2, fun H3 s3 => ?_⟩
    refine ⟨small_size (by simp), fun q hq => ?_⟩
    refine k _ q (((s1.trans s2).trans s3).trans (Same.new hq)) ?_
    rw [ans_totals, upd_same, vn_len, vn_len]
    rfl
end SPW
end
section
set_option Elab.async false
set_option linter.all false
set_option maxRecDepth 100000
set_option maxHeartbeats 4000000
namespace SPW
open PySem PySem.Spec PyProof.Rows L2
open SP (ci co TOk rowsOf ni)
open Vapcma (Form Text_ formulas count shown)
open Vapcmb (targetItems treeTotal shorten jobOf)
variable {P : Program} {w : World} {K : PySem.W.Frag} {mg : Str → Option Value} {base : Heap}
/-- the text that's held, or none -/
def HeldAt (K : PySem.W.Frag) (H : Hp) (v : V) (o : Option Text_) : Prop := match o with
  | none => v = .non
  | some t => ∃ x, v = .ref x ∧ TextAt K H x t
theorem HeldAt.same {H H' : Hp} {v : V} {o : Option Text_} (h : HeldAt K H v o) (s : Same H H') : HeldAt K H' v o := by
  cases o with
  | none => exact h
  | some t =>
    obtain ⟨x, e, h⟩ := h
    exact ⟨x, e, h.same s⟩
/-- lists of whole numbers -/
def ListsAt (K : PySem.W.Frag) (H : Hp) (as : List Addr) (ls : List (List Int)) : Prop := Paired (fun a l => SqL K H a (vis l)) as ls
theorem ListsAt.same {H H' : Hp} (e : Same H H') : ∀ {as : List Addr} {ls : List (List Int)}, ListsAt K H as ls → ListsAt K H' as ls
  | _, _, .nil => .nil
  | _, _, .cons h t => .cons (e.seq h) (ListsAt.same e t)
theorem ListsAt.snoc {H : Hp} {a : Addr} {l : List Int} (ha : SqL K H a (vis l)) : ∀ {as : List Addr} {ls : List (List Int)}, ListsAt K H as ls → ListsAt K H (as ++ [a]) (ls ++ [l])
  | _, _, .nil => .cons ha .nil
  | _, _, .cons h t => .cons h (ListsAt.snoc ha t)
/-- what a call is asked with, as lists -/
inductive CallIs : Int → List (List Int) → Vapcmb.Call → Prop
  | shown : CallIs 1 [] .shown
  | prune (l : List Int) : CallIs 2 [l] (.prune l)
  | general (x : Int) : CallIs 3 [[x]] (.general x)
  | shorten : CallIs 4 [] .shorten
  | short : CallIs 5 [] .short
  | order (l m : List Int) : CallIs 6 [l, m] (.order l m)
  | least (l : List Int) : CallIs 7 [l] (.least l)
  | totals : CallIs 8 [] .totals
/-- answer(text, call, rows) -/
def sp_answer (K : PySem.W.Frag) : Sp := fun vs H Q _ => ∃ (v : V) (r : Addr) (as : List Addr) (ls : List (List Int)) (o : Option Text_) (p : Int) (c : Vapcmb.Call), vs = [v, .int p, .ref r] ∧ HeldAt K H v o ∧ SqL K H r (vr as) ∧ ListsAt K H as ls ∧ CallIs p ls c ∧
  (∀ l ∈ ls, l.length ≤ 100000) ∧ (ansO o c).length ≤ 16000000 ∧ ∀ H' q, Same H H' → H' q = some (.lst (vis (ansO o c))) → Q (.ref q) H'
abbrev N_answer : List Str := ["text", "call", "rows"]
theorem sc_answer : FnScope N_answer ["text", "call", "rows"] (defScope s_answer) := ⟨rfl, rfl, rfl, by decide +kernel, rfl, by decide +kernel, by decide +kernel⟩
theorem g_answer (T : Tx K mg) : GFn P w K mg base CX0 84 "answer" ["text", "call", "rows"] (sp_answer K) := by
  have g_counted : GFn P w K mg base CX0 1 "counted" ["numbers"] (sp_counted K) := g_counted T
  have g_one_form : GFn P w K mg base CX0 83 "one_form" ["text"] (sp_one_form K) := g_one_form T
  have g_prune : GFn P w K mg base CX0 3 "prune" ["text", "numbers"] (sp_prune K) := g_prune T
  have g_general : GFn P w K mg base CX0 4 "general" ["text", "item"] (sp_general K) := g_general T
  have g_shorten : GFn P w K mg base CX0 13 "shorten" ["text"] (sp_shorten K) := g_shorten T
  have g_shortened : GFn P w K mg base CX0 12 "shortened" ["text"] (sp_shortened K) := g_shortened T
  have g_order : GFn P w K mg base CX0 5 "order" ["text", "wished", "told"] (sp_order K) := g_order T
  have g_least : GFn P w K mg base CX0 7 "least" ["text", "wished"] (sp_least K) := g_least T
  have g_totals : GFn P w K mg base CX0 6 "totals" ["text"] (sp_totals K) := g_totals T
  refine gfn0 (f_answer T) (t_answer T) sc_answer (fun _ _ _ _ _ _ us hl => match us, hl with | [_, _, _], _ => rfl) (fun vs H Q E h => ?_) (fun f cdv A outer s H vs Q E hr h => ⟨_, (pss_cons (ps_if (pt_cmpR op_isN (pv 0) pe_non1 (nomark _)) (pss_one (ps_ret (pe_lst (pa_cons (pe_un un_neg pe_int1) pa_nil1))))
  pss_nil)
  (pss_cons (ps_if (pt_cmpR op_eq (pv 1) (pe_ci1 (t_SHOWN T)) (nomark _)) (pss_one (ps_ret (pe_fn g_counted (hr.mono (by omega)) pass0 (pa_cons (pe_fn g_one_form (hr.mono (by omega)) pass0 (pa_cons (pv 0) pa_nil1)) pa_nil1))))
  pss_nil)
  (pss_cons (ps_if (pt_cmpR op_eq (pv 1) (pe_ci1 (t_PRUNE T)) (nomark _)) (pss_one (ps_ret (pe_fn g_prune (hr.mono (by omega)) pass0 (pa_cons (pv 0) (pa_cons (pe_ix (ix_listK K) (pv 2) pe_int1 (fun _ _ => rfl)) pa_nil1)))))
  pss_nil)
  (pss_cons (ps_if (pt_cmpR op_eq (pv 1) (pe_ci1 (t_GENERAL T)) (nomark _)) (pss_one (ps_ret (pe_fn g_general (hr.mono (by omega)) pass0 (pa_cons (pv 0) (pa_cons (pe_ix (ix_listK K) (pe_ix (ix_listK K) (pv 2) pe_int1 (fun _ _ => rfl)) pe_int1 (fun _ _ => rfl)) pa_nil1)))))
  pss_nil)
  (pss_cons (ps_if (pt_cmpR op_eq (pv 1) (pe_ci1 (t_SHORTEN T)) (nomark _)) (pss_one (ps_ret (pe_fn g_shorten (hr.mono (by omega)) pass0 (pa_cons (pv 0) pa_nil1))))
  pss_nil)
  (pss_cons (ps_if (pt_cmpR op_eq (pv 1) (pe_ci1 (t_SHORT T)) (nomark _)) (pss_one (ps_ret (pe_fn g_counted (hr.mono (by omega)) pass0 (pa_cons (pe_fn g_one_form (hr.mono (by omega)) pass0 (pa_cons (pe_fn g_shortened (hr.mono (by omega)) pass0 (pa_cons (pv 0) pa_nil1)) pa_nil1)) pa_nil1))))
  pss_nil)
  (pss_cons (ps_if (pt_cmpR op_eq (pv 1) (pe_ci1 (t_ORDER T)) (nomark _)) (pss_one (ps_ret (pe_fn g_order (hr.mono (by omega)) pass0 (pa_cons (pv 0) (pa_cons (pe_ix (ix_listK K) (pv 2) pe_int1 (fun _ _ => rfl)) (pa_cons (pe_ix (ix_listK K) (pv 2) pe_int1 (fun _ _ => rfl)) pa_nil1))))))
  pss_nil)
  (pss_cons (ps_if (pt_cmpR op_eq (pv 1) (pe_ci1 (t_LEAST T)) (nomark _)) (pss_one (ps_ret (pe_fn g_least (hr.mono (by omega)) pass0 (pa_cons (pv 0) (pa_cons (pe_ix (ix_listK K) (pv 2) pe_int1 (fun _ _ => rfl)) pa_nil1)))))
  pss_nil)
  (pss_one (ps_ret (pe_fn g_totals (hr.mono (by omega)) pass0 (pa_cons (pv 0) pa_nil1)))))))))))), ?_⟩)
  · obtain ⟨v, r, as, ls, o, p, c, rfl, _⟩ := h
    rfl
  · obtain ⟨v, r, as, ls, o, p, c, rfl, hv, hr, hls, hc, hll, hlen, k⟩ := h
    cases o with
    | none =>
      obtain rfl : v = .non := hv
      refine ⟨_, rfl, rfl, _, rfl, ?_⟩
      refine if_true_of rfl ?_
      refine ⟨_, rfl, small_size (by simp), fun q hq => ?_⟩
      exact k _ q (Same.new hq) upd_same
    | some t =>
      obtain ⟨x, rfl, hT⟩ := hv
      refine ⟨_, rfl, rfl, _, rfl, ?_⟩
      refine if_false_of rfl ?_
      cases hc with
      | shown =>
        refine ⟨_, rfl, rfl, _, rfl, ?_⟩
        refine if_true_of (int_eq _) ?_
        refine ⟨_, rfl, x, t, rfl, hT, fun H1 p s1 fp hp => ?_⟩
        have hlen : (ans t .shown).length ≤ 16000000 := hlen
        rw [ans_shown, List.length_cons] at hlen
        refine ⟨p, _, rfl, hp, by omega, fun H2 q s2 fq hq => k H2 q (s1.trans s2) ?_⟩
        show H2 q = some (.lst (vis (ans t .shown)))
        rw [ans_shown, hq]
      | prune l =>
        cases hls with
        | @cons a1 _ as1 _ h1 ht =>
          cases ht
          refine ⟨_, rfl, rfl, _, rfl, ?_⟩
          refine if_false_of (int_ne (by decide)) ?_
          refine ⟨_, rfl, rfl, _, rfl, ?_⟩
          refine if_true_of (int_eq _) ?_
          exact ⟨_, rfl, _, rfl, r, _, 0, .ref a1, rfl, rfl, hr, rfl, x, a1, t, l, rfl, hT, h1, hll l (by simp), fun H1 q s1 hq => k H1 q s1 hq⟩
      | general i =>
        cases hls with
        | @cons a1 _ as1 _ h1 ht =>
          cases ht
          refine ⟨_, rfl, rfl, _, rfl, ?_⟩
          refine if_false_of (int_ne (by decide)) ?_
          refine ⟨_, rfl, rfl, _, rfl, ?_⟩
          refine if_false_of (int_ne (by decide)) ?_
          refine ⟨_, rfl, rfl, _, rfl, ?_⟩
          refine if_true_of (int_eq _) ?_
          exact ⟨_, rfl, _, rfl, r, _, 0, .ref a1, rfl, rfl, hr, rfl, a1, _, 0, .int i, rfl, rfl, h1, rfl, x, t, i, rfl, hT, fun H1 q s1 hq => k H1 q s1 hq⟩
      | shorten =>
        refine ⟨_, rfl, rfl, _, rfl, ?_⟩
        refine if_false_of (int_ne (by decide)) ?_
        refine ⟨_, rfl, rfl, _, rfl, ?_⟩
        refine if_false_of (int_ne (by decide)) ?_
        refine ⟨_, rfl, rfl, _, rfl, ?_⟩
        refine if_false_of (int_ne (by decide)) ?_
        refine ⟨_, rfl, rfl, _, rfl, ?_⟩
        refine if_true_of (int_eq _) ?_
        exact ⟨_, rfl, x, t, rfl, hT, fun H1 q s1 hq => k H1 q s1 hq⟩
      | short =>
        refine ⟨_, rfl, rfl, _, rfl, ?_⟩
        refine if_false_of (int_ne (by decide)) ?_
        refine ⟨_, rfl, rfl, _, rfl, ?_⟩
        refine if_false_of (int_ne (by decide)) ?_
        refine ⟨_, rfl, rfl, _, rfl, ?_⟩
        refine if_false_of (int_ne (by decide)) ?_
        refine ⟨_, rfl, rfl, _, rfl, ?_⟩
        refine if_false_of (int_ne (by decide)) ?_
        refine ⟨_, rfl, rfl, _, rfl, ?_⟩
        refine if_true_of (int_eq _) ?_
        refine ⟨_, rfl, x, t, rfl, hT, fun H1 y s1 hY => ?_⟩
        refine ⟨y, shorten t, rfl, hY, fun H2 p s2 fp hp => ?_⟩
        have hlen : (ans t .short).length ≤ 16000000 := hlen
        rw [ans_short, List.length_cons] at hlen
        refine ⟨p, _, rfl, hp, by omega, fun H3 q s3 fq hq => k H3 q ((s1.trans s2).trans s3) ?_⟩
        show H3 q = some (.lst (vis (ans t .short)))
        rw [ans_short, hq]
      | order l m =>
        cases hls with
        | @cons a1 _ as1 _ h1 ht =>
          cases ht with
          | @cons a2 _ as2 _ h2 ht =>
            cases ht
            refine ⟨_, rfl, rfl, _, rfl, ?_⟩
            refine if_false_of (int_ne (by decide)) ?_
            refine ⟨_, rfl, rfl, _, rfl, ?_⟩
            refine if_false_of (int_ne (by decide)) ?_
            refine ⟨_, rfl, rfl, _, rfl, ?_⟩
            refine if_false_of (int_ne (by decide)) ?_
            refine ⟨_, rfl, rfl, _, rfl, ?_⟩
            refine if_false_of (int_ne (by decide)) ?_
            refine ⟨_, rfl, rfl, _, rfl, ?_⟩
            refine if_false_of (int_ne (by decide)) ?_
            refine ⟨_, rfl, rfl, _, rfl, ?_⟩
            refine if_true_of (int_eq _) ?_
            exact ⟨_, rfl, _, rfl, r, _, 0, .ref a1, rfl, rfl, hr, rfl, _, rfl, r, _, 1, .ref a2, rfl, rfl, hr, rfl, x, a1, a2, t, l, m, rfl, hT, h1, h2, hll l (by simp), hll m (by simp), fun H1 q s1 hq => k H1 q s1 hq⟩
      | least l =>
        cases hls with
        | @cons a1 _ as1 _ h1 ht =>
          cases ht
          refine ⟨_, rfl, rfl, _, rfl, ?_⟩
          refine if_false_of (int_ne (by decide)) ?_
          refine ⟨_, rfl, rfl, _, rfl, ?_⟩
          refine if_false_of (int_ne (by decide)) ?_
          refine ⟨_, rfl, rfl, _, rfl, ?_⟩
          refine if_false_of (int_ne (by decide)) ?_
          refine ⟨_, rfl, rfl, _, rfl, ?_⟩
          refine if_false_of (int_ne (by decide)) ?_
          refine ⟨_, rfl, rfl, _, rfl, ?_⟩
          refine if_false_of (int_ne (by decide)) ?_
          refine ⟨_, rfl, rfl, _, rfl, ?_⟩
          refine if_false_of (int_ne (by decide)) ?_
          refine ⟨_, rfl, rfl, _, rfl, ?_⟩
          refine if_true_of (int_eq _) ?_
          exact ⟨_, rfl, _, rfl, r, _, 0, .ref a1, rfl, rfl, hr, rfl, x, a1, t, l, rfl, hT, h1, hll l (by simp), fun H1 q s1 hq => k H1 q s1 hq⟩
      | totals =>
        refine ⟨_, rfl, rfl, _, rfl, ?_⟩
        refine if_false_of (int_ne (by decide)) ?_
        refine ⟨_, rfl, rfl, _, rfl, ?_⟩
        refine if_false_of (int_ne (by decide)) ?_
        refine ⟨_, rfl, rfl, _, rfl, ?_⟩
        refine if_false_of (int_ne (by decide)) ?_
        refine ⟨_, rfl, rfl, _, rfl, ?_⟩
        refine if_false_of (int_ne (by decide)) ?_
        refine ⟨_, rfl, rfl, _, rfl, ?_⟩
        refine if_false_of (int_ne (by decide)) ?_
        refine ⟨_, rfl, rfl, _, rfl, ?_⟩
        refine if_false_of (int_ne (by decide)) ?_
        refine ⟨_, rfl, rfl, _, rfl, ?_⟩
        refine if_false_of (int_ne (by decide)) ?_
        exact ⟨_, rfl, x, t, rfl, hT, fun H1 q s1 hq => k H1 q s1 hq⟩
end SPW
end
section
set_option Elab.async false
set_option linter.all false
set_option maxRecDepth 100000
set_option maxHeartbeats 4000000
namespace SPW
open PySem PySem.Spec PyProof.Rows L2
open SP (ci co TOk rowsOf ni)
variable {P : Program} {w : World} {K : PySem.W.Frag} {mg : Str → Option Value} {base : Heap}
/-! ### a call's shape -/
theorem shape_at {p : Int} {n k : Nat} (h : PyVapcmb.shape p = some (n, k)) :
    atI (vis [0, 0, 0, 1, 0, 0, 0, 0, 0]) p = some (.int (n : Int)) ∧ atI (vis [1, 0, 1, 0, 0, 0, 2, 1, 0]) p = some (.int (k : Int)) ∧ n ≤ 1 ∧ k ≤ 2 ∧ 0 ≤ p ∧ p ≤ 8 := by
  unfold PyVapcmb.shape at h
  repeat' split at h
  all_goals first
    | (cases h; subst p; exact ⟨rfl, rfl, by decide, by decide, by decide, by decide⟩)
    | cases h
theorem call_inv {p : Int} {r : List Int} {c : List (List Int)} {t : List Int} (h : PyFlat.call PyVapcmb.shape (p :: r) = some (c, t)) :
    ∃ n k rs, PyVapcmb.shape p = some (n, k) ∧ n ≤ r.length ∧ PyFlat.rows k (r.drop n) = some (rs, t) ∧ c = (p :: r.take n) :: rs := by
  unfold PyFlat.call at h
  split at h
  · cases h
  · rename_i p' r' e
    cases e
    split at h
    · cases h
    · rename_i n k hs
      split at h
      · cases h
      · rename_i hl
        split at h
        · cases h
        · rename_i rs t' hr
          cases h
          exact ⟨n, k, rs, hs, by omega, hr, rfl⟩
theorem rows_step {k : Nat} {m : List Int} {rs : List (List Int)} {t : List Int} (h : PyFlat.rows (k + 1) m = some (rs, t)) :
    ∃ (n : Nat) (r : List Int) (rs' : List (List Int)), m = (n : Int) :: r ∧ n ≤ r.length ∧ rs = r.take n :: rs' ∧ PyFlat.rows k (r.drop n) = some (rs', t) := by
  unfold PyFlat.rows at h
  split at h
  · cases h
  · rename_i x s hx
    split at h
    · cases h
    · rename_i xs t' hr
      cases h
      unfold PyFlat.row at hx
      split at hx
      · cases hx
      · rename_i n r
        split at hx
        · rename_i hn
          cases hx
          refine ⟨n.toNat, r, xs, ?_, hn.2, rfl, hr⟩
          have : ((n.toNat : Nat) : Int) = n := by omega
          rw [this]
        · cases hx
theorem rows_len : ∀ {k : Nat} {m : List Int} {rs : List (List Int)} {t : List Int}, PyFlat.rows k m = some (rs, t) → rs.length = k ∧ t.length ≤ m.length
  | 0, m, rs, t, h => by
    unfold PyFlat.rows at h
    cases h
    exact ⟨rfl, Nat.le_refl _⟩
  | k + 1, m, rs, t, h => by
    obtain ⟨n, r, rs', rfl, h1, rfl, h2⟩ := rows_step h
    obtain ⟨h3, h4⟩ := rows_len h2
    refine ⟨by rw [List.length_cons, h3], ?_⟩
    rw [List.length_drop] at h4
    rw [List.length_cons]
    omega
theorem sl_ints {H : Hp} {a : Addr} {l : List Int} {i j : Nat} {Q : VK} (h : SqL K H a (vis l)) (hij : i ≤ j) (hj : j ≤ l.length) (k : ∀ p, H p = none → Q (.ref p) (upd H p (.lst (vis ((l.drop i).take (j - i)))))) : rSlL K (.ref a) (some (i : Int)) (some (j : Int)) H Q := by
  refine ⟨a, _, rfl, h, fun p hp => ?_⟩
  have e : cutV (vis l) (some (i : Int)) (some (j : Int)) = vis ((l.drop i).take (j - i)) := by
    unfold cutV
    rw [HT.sIx_nat, HT.sIx_nat, vis_len, Nat.min_eq_left hj, Nat.min_eq_left (Nat.le_trans hij hj)]
    simp [vis, List.map_take, List.map_drop]
  rw [e]
  exact k p hp
theorem ListsAt.but {H H' : Hp} {p : Addr} (b : But [p] H H') : ∀ {as : List Addr} {ls : List (List Int)}, p ∉ as → ListsAt K H as ls → ListsAt K H' as ls
  | _, _, _, .nil => .nil
  | _, _, n, .cons h t => by
    rw [List.mem_cons, not_or] at n
    exact .cons (b.seqM (by simpa using Ne.symm n.1) h) (ListsAt.but b n.2 t)
theorem ListsAt.len {H : Hp} {as : List Addr} {ls : List (List Int)} (h : ListsAt K H as ls) : as.length = ls.length := Paired.length h
/-- read_call(calls, start) -/
def sp_read_call (K : PySem.W.Frag) : Sp := fun vs H Q _ => ∃ (a : Addr) (l : List Int) (s : Nat) (p : Int) (r t xs : List Int) (rs : List (List Int)), vs = [.ref a, .int (s : Int)] ∧ SqL K H a (vis l) ∧ l.length ≤ 100000 ∧ l.drop s = p :: r ∧
  PyFlat.call PyVapcmb.shape (p :: r) = some ((p :: xs) :: rs, t) ∧ ∀ H' q rl as (s' : Nat), Same H H' → SqT K H' q [.ref rl, .int (s' : Int)] → SqL K H' rl (vr as) → ListsAt K H' as (xs.map (fun x => [x]) ++ rs) → l.drop s' = t → s < s' → s' ≤ l.length → Q (.ref q) H'
abbrev N_read_call : List Str := ["calls", "start", "rows", "at", "turn", "behind"]
theorem sc_read_call : FnScope N_read_call ["calls", "start"] (defScope s_read_call) := ⟨rfl, rfl, rfl, by decide +kernel, rfl, by decide +kernel, by decide +kernel⟩
theorem g_read_call (T : Tx K mg) : GFn P w K mg base CX0 1 "read_call" ["calls", "start"] (sp_read_call K) := by
  refine gfn0 (f_read_call T) (t_read_call T) sc_read_call (fun _ _ _ _ _ _ us hl => match us, hl with | [_, _], _ => rfl) (fun vs H Q E h => ?_) (fun f cdv A outer s H vs Q E hr h => ⟨_, (pss_cons (ps_set (i := 2) sc_read_call.nd rfl (Or.inl rfl) (pe_lst pa_nil1))
  (pss_cons (ps_set (i := 3) sc_read_call.nd rfl (Or.inl rfl) (pe_op op_add (pv 1) pe_int1))
  (pss_cons (ps_for PassesOwn.never rfl (pi_range1 rfl (t_range T) (pa_cons (pe_ix (ix_tupK K) (pe_ca1 (t_NUMBERS T)) (pe_ix (ix_listK K) (pv 0) (pv 1) (fun _ _ => rfl)) (fun _ _ => rfl)) pa_nil1)) (pg_name (i := 4) sc_read_call.nd rfl (Or.inl rfl))
  (pss_cons (ps_expr (pe_bmK K PySem.F.plainAttrs_list PySem.F.slot_list_append PySem.F.type_list_append mt_append (pv 2) (pa_cons (pe_lst (pa_cons (pe_ix (ix_listK K) (pv 0) (pv 3) (fun _ _ => rfl)) pa_nil1)) pa_nil1)))
  (pss_one (ps_aug (i := 3) sc_read_call.nd rfl (Or.inl rfl) pe_int1 ip_add))))
  (pss_cons (ps_for PassesOwn.never rfl (pi_range1 rfl (t_range T) (pa_cons (pe_ix (ix_tupK K) (pe_ca1 (t_LISTS T)) (pe_ix (ix_listK K) (pv 0) (pv 1) (fun _ _ => rfl)) (fun _ _ => rfl)) pa_nil1)) (pg_name (i := 4) sc_read_call.nd rfl (Or.inl rfl))
  (pss_cons (ps_set (i := 5) sc_read_call.nd rfl (Or.inl rfl) (pe_op op_add (pe_op op_add (pv 3) pe_int1) (pe_ix (ix_listK K) (pv 0) (pv 3) (fun _ _ => rfl))))
  (pss_cons (ps_expr (pe_bmK K PySem.F.plainAttrs_list PySem.F.slot_list_append PySem.F.type_list_append mt_append (pv 2) (pa_cons (pe_slice (sl_listK K) (pv 0) (po_some (pe_op op_add (pv 3) pe_int1)) (po_some (pv 5))) pa_nil1)))
  (pss_one (ps_set (i := 3) sc_read_call.nd rfl (Or.inl rfl) (pv 5))))))
  (pss_one (ps_ret (pe_tup (pa_cons (pv 2) (pa_cons (pv 3) pa_nil1))))))))), ?_⟩)
  · obtain ⟨a, l, s, p, r, t, xs, rs, rfl, _⟩ := h
    rfl
  · obtain ⟨a, l, s, p, r, t, xs, rs, rfl, ha, hl, hd, hc, k⟩ := h
    obtain ⟨n, m, rs', hsh, hn, hrows, e⟩ := call_inv hc
    injection e with e1 e2
    injection e1 with e3 e4
    subst e2 e4
    obtain ⟨hN, hL, n1, m2, p0, p8⟩ := shape_at hsh
    obtain ⟨hls, hdr, hsl⟩ := drop_at hd
    have hrl : r.length + (s + 1) = l.length := by
      rw [← hdr, List.length_drop]
      omega
    refine ⟨small_size (by simp), fun rl hrl0 => ?_⟩
    have s1 : Same H (upd H rl (.lst [])) := Same.new hrl0
    have hrl1 : upd H rl (.lst []) rl = some (.lst []) := upd_same
    generalize upd H rl (.lst []) = H1 at s1 hrl1 ⊢
    refine ⟨_, rfl, _, _, rfl, rfl, ?_⟩
    refine ⟨_, rfl, _, rfl, a, _, _, .int p, rfl, rfl, s1.seq ha, vis_at hls, He.ga K "NUMBERS", _, p, .int (n : Int), rfl, rfl, u_NUMBERS T H1, hN, _, rfl, by omega, by omega, ?_⟩
    rw [Int.toNat_natCast]
    refine for_range (fun i σ' H' => ∃ (v4 v5 : Option V) (as : List Addr), σ' = [some (.ref a), some (.int (s : Int)), some (.ref rl), some (.int ((s + 1 + i : Nat) : Int)), v4, v5] ∧ Same H H' ∧ H' rl = some (.lst (vr as)) ∧ rl ∉ as ∧ ListsAt K H' as ((r.take i).map fun x => [x]))
      ⟨none, none, [], rfl, s1, hrl1, by simp, .nil⟩ ?_ ?_
    · rintro i σ' H' hi ⟨v4, v5, as, rfl, s2, hr2, hna, has2⟩
      have hri := SP.get_of_lt (Nat.lt_of_lt_of_le hi hn)
      generalize r[i] = x at hri
      have hlx : l[s + 1 + i]? = some x := by
        rw [← hdr, List.getElem?_drop] at hri
        exact hri
      have hal := has2.len
      rw [List.length_map, List.length_take] at hal
      refine ⟨_, rfl, .inl ⟨rfl, _, SqL.of hr2⟩, _, rfl, _, rfl, a, _, _, .int x, rfl, rfl, s2.seq ha, vis_at hlx, small_size (by simp), fun q hq => ?_⟩
      have s3 : Same H' (upd H' q (.lst [V.int x])) := Same.new hq
      have hq3 : upd H' q (.lst [V.int x]) q = some (.lst (vis [x])) := upd_same
      have hqr : q ≠ rl := Ne.symm (ne_of_none hr2 hq)
      generalize upd H' q (.lst [V.int x]) = H3 at s3 hq3 ⊢
      refine ⟨rl, _, _, rfl, rfl, s3 _ _ hr2, small_lt (by rw [vr_len]; omega), ?_⟩
      rw [vr_snoc]
      have b4 : But [rl] H3 (upd H3 rl (.lst (vr (as ++ [q])))) := But.upd (But.refl _) (by simp)
      refine ⟨_, rfl, _, _, rfl, rfl, ?_⟩
      refine ⟨some (.int (0 + (i : Int))), v5, as ++ [q], ?_, (s2.trans s3).mut hrl0, upd_same, by simp [hna, Ne.symm hqr], ?_⟩
      · have e : ((s + 1 + i : Nat) : Int) + 1 = ((s + 1 + (i + 1) : Nat) : Int) := by omega
        rw [← e]
        rfl
      · rw [take_more hri, List.map_append]
        exact ListsAt.snoc (SqL.of (b4 _ _ (by simpa using hqr) hq3)) (ListsAt.but b4 hna (ListsAt.same s3 has2))
    · rintro σ' H' ⟨v4, v5, as, rfl, s2, hr2, hna, has2⟩
      refine ⟨_, rfl, _, rfl, a, _, _, .int p, rfl, rfl, s2.seq ha, vis_at hls, He.ga K "LISTS", _, p, .int (m : Int), rfl, rfl, u_LISTS T H', hL, _, rfl, by omega, by omega, ?_⟩
      rw [Int.toNat_natCast]
      have hdn : l.drop (s + 1 + n) = r.drop n := by rw [← hdr, List.drop_drop]
      refine for_range (fun i σ' H' => ∃ (at_ : Nat) (v4 v5 : Option V) (as : List Addr) (ls : List (List Int)) (rest : List (List Int)), σ' = [some (.ref a), some (.int (s : Int)), some (.ref rl), some (.int (at_ : Int)), v4, v5] ∧ Same H H' ∧ H' rl = some (.lst (vr as)) ∧ rl ∉ as ∧
          ListsAt K H' as ls ∧ s < at_ ∧ at_ ≤ l.length ∧ i ≤ m ∧ PyFlat.rows (m - i) (l.drop at_) = some (rest, t) ∧ ls ++ rest = (r.take n).map (fun x => [x]) ++ rs ∧ ls.length = (r.take n).length + i)
        ⟨s + 1 + n, v4, v5, as, _, rs, rfl, s2, hr2, hna, has2, by omega, by omega, by omega, by rw [hdn]; exact hrows, rfl, by simp⟩ ?_ ?_
      · rintro i σ' H' hi ⟨at_, v4, v5, as, ls, rest, rfl, s2, hr2, hna, has2, hs1, hs2, hi2, hrw, hlr, hll⟩
        obtain ⟨j, ej⟩ : ∃ j, m - i = j + 1 := ⟨m - i - 1, by omega⟩
        rw [ej] at hrw
        obtain ⟨c, r', rs', e1, e2, rfl, e3⟩ := rows_step hrw
        obtain ⟨f1, f2, f3⟩ := drop_at e1
        have hr'l : r'.length + (at_ + 1) = l.length := by
          rw [← f2, List.length_drop]
          omega
        have hal := has2.len
        rw [hll, List.length_take] at hal
        refine ⟨_, rfl, _, _, rfl, rfl, _, rfl, _, rfl, a, _, _, .int (c : Int), rfl, rfl, s2.seq ha, vis_at f1, _, _, rfl, rfl, ?_⟩
        have eb : (at_ : Int) + 1 + (c : Int) = ((at_ + 1 + c : Nat) : Int) := by omega
        have ea : (at_ : Int) + 1 = ((at_ + 1 : Nat) : Int) := by omega
        dsimp only
        rw [eb]
        refine ⟨_, rfl, .inl ⟨rfl, _, SqL.of hr2⟩, _, rfl, _, rfl, _, _, rfl, rfl, _, rfl, _, rfl, _, rfl, ?_⟩
        rw [ea]
        refine sl_ints (s2.seq ha) (by omega) (by omega) fun q hq => ?_
        rw [f2, show at_ + 1 + c - (at_ + 1) = c by omega]
        have s3 : Same H' (upd H' q (.lst (vis (r'.take c)))) := Same.new hq
        have hq3 : upd H' q (.lst (vis (r'.take c))) q = some (.lst (vis (r'.take c))) := upd_same
        have hqr : q ≠ rl := Ne.symm (ne_of_none hr2 hq)
        generalize upd H' q (.lst (vis (r'.take c))) = H3 at s3 hq3 ⊢
        refine ⟨rl, _, _, rfl, rfl, s3 _ _ hr2, small_lt (by rw [vr_len]; omega), ?_⟩
        rw [vr_snoc]
        have b4 : But [rl] H3 (upd H3 rl (.lst (vr (as ++ [q])))) := But.upd (But.refl _) (by simp)
        refine ⟨_, rfl, ?_⟩
        refine ⟨at_ + 1 + c, some (.int (0 + (i : Int))), some (.int ((at_ + 1 + c : Nat) : Int)), as ++ [q], ls ++ [r'.take c], rs', rfl, (s2.trans s3).mut hrl0, upd_same, by simp [hna, Ne.symm hqr], ?_, by omega, by omega, by omega, ?_, ?_, ?_⟩
        · exact ListsAt.snoc (SqL.of (b4 _ _ (by simpa using hqr) hq3)) (ListsAt.but b4 hna (ListsAt.same s3 has2))
        · rw [show m - (i + 1) = j by omega, ← List.drop_drop, f2]
          exact e3
        · rw [← hlr, List.append_assoc]
          rfl
        · rw [List.length_append, hll]
          simp
          omega
      · rintro σ' H' ⟨at_, v4, v5, as, ls, rest, rfl, s2, hr2, hna, has2, hs1, hs2, hi2, hrw, hlr, hll⟩
        rw [Nat.sub_self] at hrw
        unfold PyFlat.rows at hrw
        cases hrw
        rw [List.append_nil] at hlr
        refine ⟨_, rfl, _, rfl, small_size (by simp), fun q hq => ?_⟩
        have s3 : Same H' (upd H' q (.tup [V.ref rl, V.int (at_ : Int)])) := Same.new hq
        refine k _ q rl as at_ (s2.trans s3) (SqT.of upd_same) (SqL.of (s3 _ _ hr2)) ?_ rfl hs1 hs2
        rw [← hlr]
        exact ListsAt.same s3 has2
end SPW
end
section
set_option Elab.async false
set_option linter.all false
set_option maxRecDepth 100000
set_option maxHeartbeats 4000000
namespace SPW
open PySem PySem.Spec PyProof.Rows L2
open SP (ci co TOk rowsOf ni)
open Vapcma (Text_)
open VapcmBase (Bytes)
open VapcmbNeutral (encode)
theorem pe_fnS {X : Cx} {CX : CXT} {k : Nat} {x : Str} {ps : List Str} {sp : Sp} {E : L2.St → XK} {p pos : Pos} {e : Expr} {es : List Expr} {t : TA} (G : GFn X.prog X.w X.K X.mg X.base CX k x ps sp) (hr : Room k X.A) (hx : ∀ σ, PassesAt CX X σ (E σ)) (ha : PA X (e :: es) t) (hg : Gl X x := by rfl) (hdb : (x == ("__debug__" : Str)) = false := by decide)
    (he : starEach (e :: es) X.env = (false, eval e X.env) :: starEach es X.env := by rfl) (hpl : (backTo pos (starEach es X.env)).any (·.1) = false := by rfl) :
    PE X (.Call (.Name x p) (e :: es) [] pos) (tCallS sp E t) := by
  obtain ⟨f, fd, hm, hk, hb, F⟩ := G.ex
  exact pe_callS F hr hg hm hk hb hx ha hdb he hpl
variable {P : Program} {w : World} {K : PySem.W.Frag} {mg : Str → Option Value} {base : Heap}
/-- what's held behind a load: what was held, or a text whose lists are new -/
def HeldNew (K : PySem.W.Frag) (H0 H : Hp) (v : V) (o : Option Text_) (v' : V) (o' : Option Text_) : Prop := (v' = v ∧ o' = o) ∨ ∃ x t, v' = .ref x ∧ o' = some t ∧ TextNew K H0 H x t
/-- load(held, letters) -/
def sp_load (K : PySem.W.Frag) : Sp := fun vs H Q _ => ∃ (v : V) (a : Addr) (b : Bytes) (o : Option Text_), vs = [v, .ref a] ∧ HeldAt K H v o ∧ SqL K H a (vis (ni b)) ∧ b.length ≤ 100000 ∧
  ∀ H' q v' p, Same H H' → SqT K H' q [v', .ref p] → HeldNew K H H' v o v' (Vapcmb.step o (.load b)).1 → H' p = some (.lst (vis (encode (Vapcmb.step o (.load b)).2))) → Q (.ref q) H'
abbrev N_load : List Str := ["held", "letters", "text", "fault"]
theorem sc_load : FnScope N_load ["held", "letters"] (defScope s_load) := ⟨rfl, rfl, rfl, by decide +kernel, rfl, by decide +kernel, by decide +kernel⟩
theorem g_load (T : Tx K mg) : GFn P w K mg base CX0 91 "load" ["held", "letters"] (sp_load K) := by
  have g_read_text : GFn P w K mg base (L2.CX P w) 90 "read_text" ["letters"] (sp_read_text K) := g_read_text T
  refine gfn0 (f_load T) (t_load T) sc_load (fun _ _ _ _ _ _ us hl => match us, hl with | [_, _], _ => rfl) (fun vs H Q E h => ?_) (fun f cdv A outer s H vs Q E hr h => ⟨_, (pss_cons (ps_try_as (i := 3) (Wout := fun _ _ _ _ => False) rfl rfl sc_load.nd rfl rfl ⟨rfl, by decide, Or.inl (t_Fault T)⟩ takes0
  (fun W pn xe tk _ => pss_one (ps_set (i := 2) sc_load.nd rfl (Or.inl rfl) (by exact (pe_fnS g_read_text (hr.mono (by omega)) (fun σ => passAt tk σ) (pa_cons (pv 1) pa_nil1)))))
  (fun a oe cls d pn hz hf => (pss_one (ps_ret (pe_tup (pa_cons (pv 0) (pa_cons (pe_lst (pa_cons pe_int1 (pa_cons (pe_xf (fault_xf T) (fault_nc T) hz hf (pv 3)) (pa_cons (pe_xf (fault_xf T) (fault_np T) hz hf (pv 3)) pa_nil1)))) pa_nil1)))))))
  (pss_one (ps_ret (pe_tup (pa_cons (pv 2) (pa_cons (pe_lst (pa_cons pe_int1 (pa_cons (pe_fldK K (pv 2)) (pa_cons (pe_callB (call_lenK K) (by rfl) (t_len T) PySem.boot_len (pa_cons (pe_fldK K (pv 2)) pa_nil1)) (pa_cons (pe_callB (call_lenK K) (by rfl) (t_len T) PySem.boot_len (pa_cons (pe_fldK K (pv 2)) pa_nil1)) pa_nil1))))) pa_nil1)))))), ?_⟩)
  · obtain ⟨v, a, b, o, rfl, _⟩ := h
    rfl
  · obtain ⟨v, a, b, o, rfl, hv, ha, hb, k⟩ := h
    refine ⟨_, rfl, a, b, rfl, ha, hb, fun f hf => ?_, fun t ht H1 p s1 hT => ?_⟩
    · intro d H1 s1 hd
      have e : Vapcmb.step o (.load b) = (o, VapcmBase.faulty f) := by
        show (match Vapcma.read b with
          | .ok t => (some t, (⟨1, Vapcma.nats [t.axioms.length, t.rows.length, t.goals.length]⟩ : VapcmBase.Answer))
          | .error f => (o, VapcmBase.faulty f)) = _
        rw [hf]
      rw [e] at k
      refine ⟨true, (fault_facts T).2.2.2.2.2.1, fun _ a0 ha0 => ?_, fun q => Bool.noConfusion q⟩
      refine ⟨_, rfl, _, rfl, rfl, rfl, d, _, _, rfl, hd, rfl, _, rfl, rfl, rfl, d, _, _, rfl, hd, rfl, small_size (by simp), fun l hl => ?_⟩
      refine ⟨small_size (by simp), fun q hq => ?_⟩
      have s2 : Same H1 (upd H1 l (.lst [V.int 0, V.int (f.code : Int), V.int (f.place : Int)])) := Same.new hl
      have s3 := s1.trans s2
      exact k _ q v l (s3.trans (Same.new hq)) (SqT.of upd_same) (.inl ⟨rfl, rfl⟩) ((upd_ne (ne_of_none upd_same hq)).trans upd_same)
    · have e : Vapcmb.step o (.load b) = (some t, ⟨1, Vapcma.nats [t.axioms.length, t.rows.length, t.goals.length]⟩) := by
        show (match Vapcma.read b with
          | .ok t => (some t, (⟨1, Vapcma.nats [t.axioms.length, t.rows.length, t.goals.length]⟩ : VapcmBase.Answer))
          | .error f => (o, VapcmBase.faulty f)) = _
        rw [ht]
      rw [e] at k
      have hT0 := hT
      have hT := hT.at_
      obtain ⟨dx, nm, pa, gl, fo, st, hI⟩ := hT
      obtain ⟨ps, p1, p2⟩ := hI.parts.pa
      obtain ⟨gs, g1, g2⟩ := hI.parts.gl
      have hlp := p2.len
      have hlg := g2.len
      rw [List.length_map] at hlp hlg
      refine ⟨_, rfl, _, rfl, p, _, dx, _, _, rfl, hI.at_, c_ProofText T, n_ProofText_axioms T, lk_axioms _ _ _ _ _ _, ?_⟩
      refine ⟨_, rfl, p, _, dx, _, _, rfl, hI.at_, c_ProofText T, n_ProofText_pairs T, lk_pairs _ _ _ _ _ _, pa, _, rfl, .inl p1, ?_⟩
      refine ⟨_, rfl, p, _, dx, _, _, rfl, hI.at_, c_ProofText T, n_ProofText_goals T, lk_goals _ _ _ _ _ _, gl, _, rfl, .inl g1, ?_⟩
      refine ⟨small_size (by simp), fun l hl => ?_⟩
      refine ⟨small_size (by simp), fun q hq => ?_⟩
      have s3 := s1.trans (Same.new (o := .lst [V.int 1, V.int (t.axioms.length : Int), V.int ((vr ps).length : Nat), V.int ((vr gs).length : Nat)]) hl)
      refine k _ q _ l (s3.trans (Same.new hq)) (SqT.of upd_same) (.inr ⟨p, t, rfl, rfl, (hT0.same (Same.new hl)).same (Same.new hq)⟩) ((upd_ne (ne_of_none upd_same hq)).trans (upd_same.trans ?_))
      rw [vr_len, vr_len, hlp, hlg]
      rfl
end SPW
end
section
set_option Elab.async false
set_option linter.all false
set_option autoImplicit false
namespace SPW
open PySem PySem.Spec PyProof.Rows L2
open SP (ci co TOk rowsOf ni)
open Vapcma (Form Text_)
open VapcmbNeutral (encode callOf bytesOf asked1)
open PyVapcmb (shape whole)
theorem whole_id (c : List (List Int)) : whole c = c := by
  unfold whole
  split <;> rfl
theorem map_whole (l : List (List (List Int))) : l.map whole = l := by
  rw [List.map_congr_left fun c _ => whole_id c, List.map_id']
theorem bytes_of {b : List Int} (h : b.all (fun z => VapcmbNeutral.natural z 8) = true) : NeutralIO.bytes b = true ∧ ni (bytesOf b) = b := by
  rw [List.all_eq_true] at h
  have key : ∀ z ∈ b, 0 ≤ z ∧ z < 256 := fun z hz => by
    have := h z hz
    unfold VapcmbNeutral.natural at this
    rw [Bool.and_eq_true, decide_eq_true_eq, decide_eq_true_eq] at this
    exact ⟨this.1, this.2⟩
  refine ⟨?_, ?_⟩
  · unfold NeutralIO.bytes
    rw [List.all_eq_true]
    intro z hz
    have := key z hz
    rw [Bool.and_eq_true, decide_eq_true_eq, decide_eq_true_eq]
    omega
  · unfold bytesOf ni
    rw [List.map_map]
    have : b.map ((fun c : UInt8 => (c.toNat : Int)) ∘ fun z : Int => UInt8.ofNat z.toNat) = b.map id := List.map_congr_left fun z hz => by
      have := key z hz
      show (((UInt8.ofNat z.toNat).toNat : Nat) : Int) = z
      rw [UInt8.toNat_ofNat']
      omega
    rw [this, List.map_id]
theorem len0 {A : Type} {l : List A} (h : l.length = 0) : l = [] := List.eq_nil_of_length_eq_zero h
theorem len1 {A : Type} {l : List A} (h : l.length = 1) : ∃ a, l = [a] := List.length_eq_one_iff.mp h
theorem len2 {A : Type} {l : List A} (h : l.length = 2) : ∃ a b, l = [a, b] := by
  match l, h with
  | [a, b], _ => exact ⟨a, b, rfl⟩
theorem list_asked {l : List Int} (h : (l.all VapcmbNeutral.whole60 && decide (l.length ≤ 2000)) = true) : l.length ≤ 100000 := by
  rw [Bool.and_eq_true, decide_eq_true_eq] at h
  omega
/-- a call within the bounds: load, or another one -/
theorem call_kind {p : Int} {n k : Nat} {xs : List Int} {rs : List (List Int)} (hs : shape p = some (n, k)) (hx : xs.length = n) (hr : rs.length = k) (ha : asked1 ((p :: xs) :: rs) = true) :
    (p = 0 ∧ ∃ b, rs = [b] ∧ xs = [] ∧ b.length ≤ 8192 ∧ ni (bytesOf b) = b ∧ callOf ((p :: xs) :: rs) = some (.load (bytesOf b))) ∨
    (p ≠ 0 ∧ ∃ c, CallIs p (xs.map (fun x => [x]) ++ rs) c ∧ callOf ((p :: xs) :: rs) = some c ∧ (∀ l ∈ xs.map (fun x => [x]) ++ rs, l.length ≤ 100000) ∧ ∀ b, c ≠ .load b) := by
  unfold shape at hs
  split at hs
  · subst p
    cases hs
    obtain rfl := len0 hx
    obtain ⟨b, rfl⟩ := len1 hr
    have ha : ((b.all (fun (z : Int) => VapcmbNeutral.natural z 8)) && decide (b.length ≤ 8192)) = true := ha
    rw [Bool.and_eq_true, decide_eq_true_eq] at ha
    obtain ⟨h1, h2⟩ := bytes_of ha.1
    refine .inl ⟨rfl, b, rfl, rfl, ha.2, h2, ?_⟩
    show (if NeutralIO.bytes b = true then some (Vapcmb.Call.load (bytesOf b)) else none) = _
    rw [if_pos h1]
  split at hs
  · subst p
    cases hs
    obtain rfl := len0 hx
    obtain rfl := len0 hr
    exact .inr ⟨by decide, _, .shown, rfl, by simp, fun _ => by simp⟩
  split at hs
  · subst p
    cases hs
    obtain rfl := len0 hx
    obtain ⟨l, rfl⟩ := len1 hr
    have ha : (l.all VapcmbNeutral.whole60 && decide (l.length ≤ 2000)) = true := ha
    exact .inr ⟨by decide, _, .prune l, rfl, by simpa using list_asked ha, fun _ => by simp⟩
  split at hs
  · subst p
    cases hs
    obtain ⟨x, rfl⟩ := len1 hx
    obtain rfl := len0 hr
    exact .inr ⟨by decide, _, .general x, rfl, by simp, fun _ => by simp⟩
  split at hs
  · subst p
    cases hs
    obtain rfl := len0 hx
    obtain rfl := len0 hr
    exact .inr ⟨by decide, _, .shorten, rfl, by simp, fun _ => by simp⟩
  split at hs
  · subst p
    cases hs
    obtain rfl := len0 hx
    obtain rfl := len0 hr
    exact .inr ⟨by decide, _, .short, rfl, by simp, fun _ => by simp⟩
  split at hs
  · subst p
    cases hs
    obtain rfl := len0 hx
    obtain ⟨l, m, rfl⟩ := len2 hr
    have ha : ((l.all VapcmbNeutral.whole60 && decide (l.length ≤ 2000)) && (m.all VapcmbNeutral.whole60 && decide (m.length ≤ 2000))) = true := ha
    rw [Bool.and_eq_true] at ha
    exact .inr ⟨by decide, _, .order l m, rfl, by simpa using ⟨list_asked ha.1, list_asked ha.2⟩, fun _ => by simp⟩
  split at hs
  · subst p
    cases hs
    obtain rfl := len0 hx
    obtain ⟨l, rfl⟩ := len1 hr
    have ha : (l.all VapcmbNeutral.whole60 && decide (l.length ≤ 2000)) = true := ha
    exact .inr ⟨by decide, _, .least l, rfl, by simpa using list_asked ha, fun _ => by simp⟩
  split at hs
  · subst p
    cases hs
    obtain rfl := len0 hx
    obtain rfl := len0 hr
    exact .inr ⟨by decide, _, .totals, rfl, by simp, fun _ => by simp⟩
  · cases hs
/-- what is answered from a state on -/
def outs (o : Option Text_) (raw : List (List (List Int))) : List Int := PyFlat.told (PyFlat.played VapcmbNeutral.step o raw)
theorem outs_nil (o : Option Text_) : outs o [] = [] := rfl
theorem outs_cons (o : Option Text_) (c : List (List Int)) (raw : List (List (List Int))) : outs o (c :: raw) = (((VapcmbNeutral.step o c).2.length : Int) :: (VapcmbNeutral.step o c).2) ++ outs (VapcmbNeutral.step o c).1 raw := by
  unfold outs PyFlat.told
  rw [PyFlat.played, List.flatMap_cons]
theorem step_load {o : Option Text_} {c : List (List Int)} {b : VapcmBase.Bytes} (h : callOf c = some (.load b)) : VapcmbNeutral.step o c = ((Vapcmb.step o (.load b)).1, encode (Vapcmb.step o (.load b)).2) := by
  unfold VapcmbNeutral.step
  rw [h]
theorem step_other {o : Option Text_} {c : List (List Int)} {k : Vapcmb.Call} (h : callOf c = some k) (hk : ∀ b, k ≠ .load b) : VapcmbNeutral.step o c = (o, ansO o k) := by
  unfold VapcmbNeutral.step
  rw [h]
  dsimp only
  cases o with
  | none =>
    have e : Vapcmb.step none k = (none, VapcmBase.one (-1)) := by
      cases k <;> first | rfl | exact absurd rfl (hk _)
    rw [e]
    rfl
  | some t =>
    have e : Vapcmb.step (some t) k = (some t, Vapcmb.looked t k) := by
      cases k <;> first | rfl | exact absurd rfl (hk _)
    rw [e]
    rfl
theorem calls_nil {f : Nat} {raw : List (List (List Int))} (h : PyFlat.calls shape f [] = some raw) : raw = [] := by
  cases f <;> (rw [PyFlat.calls] at h; cases h; rfl)
theorem calls_cons {f : Nat} {p : Int} {r : List Int} {raw : List (List (List Int))} (h : PyFlat.calls shape f (p :: r) = some raw) :
    ∃ f' c t cs, f = f' + 1 ∧ PyFlat.call shape (p :: r) = some (c, t) ∧ PyFlat.calls shape f' t = some cs ∧ raw = c :: cs := by
  cases f with
  | zero => rw [PyFlat.calls] at h; cases h
  | succ f =>
    rw [PyFlat.calls] at h
    split at h
    · cases h
    · rename_i c t hc
      split at h
      · cases h
      · rename_i cs hcs
        cases h
        exact ⟨f, c, t, cs, rfl, hc, hcs, rfl⟩
/-- what's asked -/
theorem asked_raw {l : List Int} (h : PyVapcmb.answers_asked l = true) : ∃ raw, PyFlat.calls shape l.length l = some raw ∧ (∀ c ∈ raw, asked1 c = true) ∧ PyVapcmb.answers l = outs none raw ∧ (outs none raw).length ≤ 10000000 := by
  unfold PyVapcmb.answers_asked at h
  split at h
  · cases h
  · rename_i raw hraw
    have e : PyVapcmb.answers l = outs none raw := by
      unfold PyVapcmb.answers PyVapcmb.calls
      rw [hraw]
      dsimp only
      rw [map_whole]
      rfl
    simp only [Bool.and_eq_true] at h
    obtain ⟨⟨_, h2⟩, h3⟩ := h
    rw [map_whole] at h2
    unfold VapcmbNeutral.asked at h2
    rw [Bool.and_eq_true, List.all_eq_true] at h2
    unfold PyFlat.short at h3
    rw [decide_eq_true_eq, e] at h3
    exact ⟨raw, hraw, h2.1, e, h3⟩
end SPW
end
section
set_option Elab.async false
set_option linter.all false
set_option maxRecDepth 100000
set_option maxHeartbeats 4000000
namespace SPW
open PySem PySem.Spec PyProof.Rows L2
open SP (ci co TOk rowsOf ni)
open Vapcma (Text_ formulas)
open VapcmbNeutral (encode callOf bytesOf asked1)
open PyVapcmb (shape whole)
variable {P : Program} {w : World} {K : PySem.W.Frag} {mg : Str → Option Value} {base : Heap}
/-- what's held, none of its lists being the one at D -/
def HeldApart (K : PySem.W.Frag) (H : Hp) (D : Addr) (v : V) (o : Option Text_) : Prop := match o with
  | none => v = .non
  | some t => ∃ x dx nm pa gl fo st, v = .ref x ∧ TextIn K H x dx nm pa gl fo st t ∧ D ∉ [nm, pa, gl, fo, st]
theorem HeldApart.at_ {H : Hp} {D : Addr} {v : V} {o : Option Text_} (h : HeldApart K H D v o) : HeldAt K H v o := by
  cases o with
  | none => exact h
  | some t =>
    obtain ⟨x, dx, nm, pa, gl, fo, st, e, h, _⟩ := h
    exact ⟨x, e, dx, nm, pa, gl, fo, st, h⟩
theorem HeldApart.same {H H' : Hp} {D : Addr} {v : V} {o : Option Text_} (h : HeldApart K H D v o) (s : Same H H') : HeldApart K H' D v o := by
  cases o with
  | none => exact h
  | some t =>
    obtain ⟨x, dx, nm, pa, gl, fo, st, e, h, n⟩ := h
    exact ⟨x, dx, nm, pa, gl, fo, st, e, h.same s, n⟩
theorem HeldApart.but {H H' : Hp} {D : Addr} {l : List V} {v : V} {o : Option Text_} (h : HeldApart K H D v o) (hD : H D = some (.lst l)) (b : But [D] H H') : HeldApart K H' D v o := by
  cases o with
  | none => exact h
  | some t =>
    obtain ⟨x, dx, nm, pa, gl, fo, st, e, h, n⟩ := h
    have m : Mu H [D] := fun a ha => by
      have : a = D := by simpa using ha
      exact this ▸ .inl ⟨_, hD⟩
    simp only [List.mem_cons, List.not_mem_nil, or_false, not_or] at n
    obtain ⟨n1, n2, n3, n4, n5⟩ := n
    have sq : ∀ {a : Addr} {xs : List V}, D ≠ a → SqL K H a xs → SqL K H' a xs := fun na h => b.seqM (by simpa using Ne.symm na) h
    obtain ⟨ok, hx, ⟨⟨ns, a1, a2⟩, ⟨ps, b1, b2⟩, ⟨gs, c1, c2⟩⟩, hfo, hst⟩ := h
    refine ⟨x, dx, nm, pa, gl, fo, st, e, ⟨ok, b _ _ ?_ hx, ⟨⟨ns, sq n1 a1, b.tupsM m a2⟩, ⟨ps, sq n2 b1, b.tupsM m b2⟩, ⟨gs, sq n3 c1, b.tupsM m c2⟩⟩, ?_, sq n5 hst⟩, by simp [n1, n2, n3, n4, n5]⟩
    · have : x ≠ D := fun z => by rw [z, hD] at hx; cases hx
      simpa using this
    · obtain ⟨⟨as, f1, f2⟩, f3, f4⟩ := hfo
      exact ⟨⟨as, sq n4 f1, b.tupsM m f2⟩, f3, f4⟩
theorem HeldNew.apart {H0 H : Hp} {D : Addr} {u : HO} {v v' : V} {o o' : Option Text_} (h : HeldNew K H0 H v o v' o') (ho : HeldApart K H0 D v o) (s : Same H0 H) (hD : H0 D = some u) : HeldApart K H D v' o' := by
  rcases h with ⟨rfl, rfl⟩ | ⟨x, t, rfl, rfl, dx, nm, pa, gl, fo, st, h, h1, h2, h3, h4, h5⟩
  · exact ho.same s
  · refine ⟨x, dx, nm, pa, gl, fo, st, rfl, h, ?_⟩
    simp only [List.mem_cons, List.not_mem_nil, or_false, not_or]
    exact ⟨ne_of_none hD h1, ne_of_none hD h2, ne_of_none hD h3, ne_of_none hD h4, ne_of_none hD h5⟩
/-- answers(calls) -/
def sp_answers (K : PySem.W.Frag) : Sp := fun vs H Q _ => ∃ (a : Addr) (l : List Int), vs = [.ref a] ∧ SqL K H a (vis l) ∧ l.length ≤ 16000 ∧ PyVapcmb.answers_asked l = true ∧ ∀ H' p, Same H H' → H' p = some (.lst (vis (PyVapcmb.answers l))) → Q (.ref p) H'
abbrev N_answers : List Str := ["calls", "text", "out", "at", "call", "rows", "told"]
theorem sc_answers : FnScope N_answers ["calls"] (defScope s_answers) := ⟨rfl, rfl, rfl, by decide +kernel, rfl, by decide +kernel, by decide +kernel⟩
theorem ok_answers (T : Tx K mg) {fd : FuncData} (F : FunD K "answers" "answers" (defArgs s_answers) (defBody s_answers) (defScope s_answers) [] [] (He.ga K "answers") fd) : FnOk P w K mg base CX0 92 (He.ga K "answers") fd ["calls"] (sp_answers K) := by
  have g_load : GFn P w K mg base CX0 91 "load" ["held", "letters"] (sp_load K) := g_load T
  have g_answer : GFn P w K mg base CX0 84 "answer" ["text", "call", "rows"] (sp_answer K) := g_answer T
  have g_read_call : GFn P w K mg base CX0 1 "read_call" ["calls", "start"] (sp_read_call K) := g_read_call T
  have g_counted : GFn P w K mg base CX0 1 "counted" ["numbers"] (sp_counted K) := g_counted T
  refine fn0 F sc_answers (fun vs H Q E h => ?_) (fun f cdv A outer s H vs Q E hr h => ⟨_, (pss_cons (ps_set (i := 1) sc_answers.nd rfl (Or.inl rfl) pe_non1)
  (pss_cons (ps_set (i := 2) sc_answers.nd rfl (Or.inl rfl) (pe_lst pa_nil1))
  (pss_cons (ps_set (i := 3) sc_answers.nd rfl (Or.inl rfl) pe_int1)
  (pss_cons (ps_while PassesOwn.never (pt_cmpR op_lt (pv 3) (pe_callB (call_lenK K) (by rfl) (t_len T) PySem.boot_len (pa_cons (pv 0) pa_nil1)) (nomark _))
  (pss_cons (ps_set (i := 4) sc_answers.nd rfl (Or.inl rfl) (pe_ix (ix_listK K) (pv 0) (pv 3) (fun _ _ => rfl)))
  (pss_cons (ps_asg (pe_fn g_read_call (hr.mono (by omega)) pass0 (pa_cons (pv 0) (pa_cons (pv 3) pa_nil1))) (pg_tupK K (n := 2) rfl (pgs_cons (pg_name (i := 5) sc_answers.nd rfl (Or.inl rfl)) (pgs_cons (pg_name (i := 3) sc_answers.nd rfl (Or.inl rfl)) pgs_nil))))
  (pss_cons (ps_if (pt_cmpR op_eq (pv 4) (pe_ci1 (t_LOAD T)) (nomark _)) (pss_one (ps_asg (pe_fn g_load (hr.mono (by omega)) pass0 (pa_cons (pv 1) (pa_cons (pe_ix (ix_listK K) (pv 5) pe_int1 (fun _ _ => rfl)) pa_nil1))) (pg_tupK K (n := 2) rfl (pgs_cons (pg_name (i := 1) sc_answers.nd rfl (Or.inl rfl)) (pgs_cons (pg_name (i := 6) sc_answers.nd rfl (Or.inl rfl)) pgs_nil)))))
  (pss_one (ps_set (i := 6) sc_answers.nd rfl (Or.inl rfl) (pe_fn g_answer (hr.mono (by omega)) pass0 (pa_cons (pv 1) (pa_cons (pv 4) (pa_cons (pv 5) pa_nil1)))))))
  (pss_one (ps_expr (pe_bmK K PySem.F.plainAttrs_list PySem.F.slot_list_extend PySem.F.type_list_extend mt_extend (pv 2) (pa_cons (pe_fn g_counted (hr.mono (by omega)) pass0 (pa_cons (pv 6) pa_nil1)) pa_nil1))))))))
  (pss_one (ps_ret (pv 2))))))), ?_⟩)
  · obtain ⟨a, l, rfl, _⟩ := h
    rfl
  · obtain ⟨a, l, rfl, ha, hl, hask, k⟩ := h
    obtain ⟨raw0, hraw0, hin0, hans, hshort⟩ := asked_raw hask
    rw [hans] at k
    refine ⟨small_size (by simp), fun D hD => ?_⟩
    have s0 : Same H (upd H D (.lst [])) := Same.new hD
    have hD0 : upd H D (.lst []) D = some (.lst []) := upd_same
    generalize upd H D (.lst []) = H0 at s0 hD0 ⊢
    refine wh_by (fun m σ' H' => ∃ (s : Nat) (v : V) (v4 v5 v6 : Option V) (o : Option Text_) (done : List Int) (raw : List (List (List Int))) (f : Nat), σ' = [some (.ref a), some v, some (.ref D), some (.int (s : Int)), v4, v5, v6] ∧ Same H H' ∧ H' D = some (.lst (vis done)) ∧
        HeldApart K H' D v o ∧ s ≤ l.length ∧ PyFlat.calls shape f (l.drop s) = some raw ∧ (∀ c ∈ raw, asked1 c = true) ∧ done ++ outs o raw = outs none raw0 ∧ m = l.length - s) _
      ⟨0, .non, none, none, none, none, [], raw0, l.length, rfl, s0, hD0, rfl, by omega, hraw0, hin0, rfl, rfl⟩ ?_
    rintro m σ' H' ⟨s, v, v4, v5, v6, o, done, raw, f, rfl, s1, hD1, hv1, hs1, hraw1, hin1, hdone, rfl⟩
    refine ⟨_, rfl, _, rfl, a, _, rfl, .inl (s1.seq ha), _, _, rfl, rfl, _, rfl, ?_⟩
    rw [vis_len]
    by_cases c2 : s < l.length
    · refine if_true_of (decide_eq_true (by omega)) ?_
      refine ⟨_, fun _ _ h => h, ?_⟩
      have hls := SP.get_of_lt c2
      have hdrop : l.drop s = l[s] :: l.drop (s + 1) := List.drop_eq_getElem_cons c2
      generalize l[s] = p at hls hdrop
      generalize l.drop (s + 1) = r at hdrop
      rw [hdrop] at hraw1
      obtain ⟨f', c, t, cs, rfl, hcall, hcs, rfl⟩ := calls_cons hraw1
      obtain ⟨n, kk, rs, hsh, hn, hrows, rfl⟩ := call_inv hcall
      have hasked := hin1 _ List.mem_cons_self
      obtain ⟨hrl1, _⟩ := rows_len hrows
      have hkind := call_kind hsh (by rw [List.length_take]; omega) hrl1 hasked
      have hsz : done.length + 1 + (VapcmbNeutral.step o ((p :: r.take n) :: rs)).2.length ≤ 10000000 := by
        rw [← hdone, outs_cons, List.length_append, List.length_append, List.length_cons] at hshort
        omega
      refine ⟨_, rfl, _, rfl, a, _, _, .int p, rfl, rfl, s1.seq ha, vis_at hls, ?_⟩
      refine ⟨_, rfl, _, rfl, a, l, s, p, r, t, r.take n, rs, rfl, s1.seq ha, by omega, hdrop, hcall, fun H2 q rl as s' s2 hq hrl has hdt hlt hle => ?_⟩
      refine ⟨q, _, rfl, hq, rfl, _, _, rfl, _, _, rfl, rfl, ?_⟩
      refine ⟨_, rfl, rfl, _, rfl, ?_⟩
      have s12 := s1.trans s2
      have hD2 := s2 _ _ hD1
      have hv2 := hv1.same s2
      rcases hkind with ⟨rfl, b, rfl, e0, hb8, hnb, hcof⟩ | ⟨hp0, cc, his, hcof, hll, hnl⟩
      · refine if_true_of (int_eq _) ?_
        rw [e0] at has
        have hst := step_load (o := o) hcof
        cases has with
        | @cons b1 _ as1 _ h1 ht =>
          cases ht
          refine ⟨_, rfl, _, rfl, rl, _, 0, .ref b1, rfl, rfl, hrl, rfl, v, b1, bytesOf b, o, rfl, hv2.at_, by rw [hnb]; exact h1, ?_, fun H3 q2 v' pt s3 hq2 hnew hpt => ?_⟩
          · have := congrArg List.length hnb
            rw [SP.ni_len] at this
            omega
          refine ⟨q2, _, rfl, hq2, rfl, _, _, rfl, _, _, rfl, rfl, ?_⟩
          have hv3 := hnew.apart hv2 s3 hD2
          have hD3 := s3 _ _ hD2
          have s13 := s12.trans s3
          have e1 : (Vapcmb.step o (.load (bytesOf b))).1 = (VapcmbNeutral.step o ((0 :: r.take n) :: [b])).1 := by rw [hst]
          have e2 : encode (Vapcmb.step o (.load (bytesOf b))).2 = (VapcmbNeutral.step o ((0 :: r.take n) :: [b])).2 := by rw [hst]
          rw [e1] at hv3
          rw [e2] at hpt
          refine ⟨_, rfl, .inl ⟨rfl, _, SqL.of hD3⟩, _, rfl, pt, _, rfl, hpt, by omega, fun H4 q4 s4 fq4 hq4 => ?_⟩
          have hD4 := s4 _ _ hD3
          refine ⟨D, q4, _, _, rfl, rfl, hD4, hq4, small_size (by rw [vis_len, vis_len, List.length_cons]; omega), ?_⟩
          have b5 : But [D] H4 (upd H4 D (.lst (vis done ++ vis (((VapcmbNeutral.step o ((0 :: r.take n) :: [b])).2.length : Int) :: (VapcmbNeutral.step o ((0 :: r.take n) :: [b])).2)))) := But.upd (But.refl _) (by simp)
          refine ⟨l.length - s', by omega, s', v', some (.int 0), some (.ref rl), some (.ref pt), (VapcmbNeutral.step o ((0 :: r.take n) :: [b])).1, done ++ (((VapcmbNeutral.step o ((0 :: r.take n) :: [b])).2.length : Int) :: (VapcmbNeutral.step o ((0 :: r.take n) :: [b])).2), cs, f', rfl, (s13.trans s4).mut hD, by rw [upd_same, vis_append], (hv3.same s4).but hD4 b5, hle, by rw [hdt]; exact hcs, fun c hc => hin1 c (List.mem_cons_of_mem _ hc), by rw [List.append_assoc, ← outs_cons]; exact hdone, rfl⟩
      · refine if_false_of (int_ne hp0) ?_
        have hst := step_other (o := o) hcof hnl
        have e1 : o = (VapcmbNeutral.step o ((p :: r.take n) :: rs)).1 := by rw [hst]
        have e2 : ansO o cc = (VapcmbNeutral.step o ((p :: r.take n) :: rs)).2 := by rw [hst]
        refine ⟨_, rfl, _, rfl, _, rfl, v, rl, as, _, o, p, cc, rfl, hv2.at_, hrl, has, his, hll, by rw [e2]; omega, fun H3 pt s3 hpt => ?_⟩
        have hv3 := hv2.same s3
        have hD3 := s3 _ _ hD2
        have s13 := s12.trans s3
        rw [e2] at hpt
        have hv3 : HeldApart K H3 D v (VapcmbNeutral.step o ((p :: r.take n) :: rs)).1 := by rw [← e1]; exact hv3
        refine ⟨_, rfl, .inl ⟨rfl, _, SqL.of hD3⟩, _, rfl, pt, _, rfl, hpt, by omega, fun H4 q4 s4 fq4 hq4 => ?_⟩
        have hD4 := s4 _ _ hD3
        refine ⟨D, q4, _, _, rfl, rfl, hD4, hq4, small_size (by rw [vis_len, vis_len, List.length_cons]; omega), ?_⟩
        have b5 : But [D] H4 (upd H4 D (.lst (vis done ++ vis (((VapcmbNeutral.step o ((p :: r.take n) :: rs)).2.length : Int) :: (VapcmbNeutral.step o ((p :: r.take n) :: rs)).2)))) := But.upd (But.refl _) (by simp)
        refine ⟨l.length - s', by omega, s', v, some (.int p), some (.ref rl), some (.ref pt), (VapcmbNeutral.step o ((p :: r.take n) :: rs)).1, done ++ (((VapcmbNeutral.step o ((p :: r.take n) :: rs)).2.length : Int) :: (VapcmbNeutral.step o ((p :: r.take n) :: rs)).2), cs, f', rfl, (s13.trans s4).mut hD, by rw [upd_same, vis_append], (hv3.same s4).but hD4 b5, hle, by rw [hdt]; exact hcs, fun c hc => hin1 c (List.mem_cons_of_mem _ hc), by rw [List.append_assoc, ← outs_cons]; exact hdone, rfl⟩
    · refine if_false_of (decide_eq_false (by omega)) ?_
      rw [List.drop_eq_nil_of_le (by omega)] at hraw1
      obtain rfl := calls_nil hraw1
      rw [outs_nil, List.append_nil] at hdone
      refine ⟨_, rfl, ?_⟩
      rw [hdone] at hD1
      exact k H' D s1 hD1
end SPW
end
set_option maxRecDepth 100000
set_option maxHeartbeats 4000000
namespace SPW
open PySem PySem.Spec PyProof.Rows L2
/-- a Spec row's end where the written part is told with the state -/
theorem end_spec {r : PySem.W.OpenSpec} {k : Nat} {q : Program} {loose : List Str} {XP : (Str → Option Value) → Heap → Prop} {YP : World → Heap → Prop} {d : DefRec} {ps : List Str}
    (said : r.wellSaid = true) (nodf : d.params.defaults = []) (nargs : r.args.length = ps.length) (room : Room k callerA)
    (F : ∀ (w : World) (mg : Str → Option Value) (fa : Addr) (h : Heap), YP w h → h.Ns mainGlobals mg → mg d.name = some (.ref fa) → ∃ (K : PySem.W.Frag) (fd : FuncData) (sp : Sp), K.In h ∧
      (∀ (s : Shared) (us : List Value), us.length = ps.length → BindsTo s fd ⟨us, []⟩ (ps.zip us)) ∧
      (∀ (H : Hp) (xs : List V) (a : PySem.W.Codec.denoteAll r.args), OnlyF H → PySem.W.Codec.withinAll r.args a = true → PySem.W.Codec.app r.args r.asked a = true → DwAll K H xs (PySem.W.Codec.encAll r.args a) →
        sp xs H (fun v H' => Dw K H' v (r.ret.enc (PySem.W.Codec.app r.args r.f a))) fun _ _ _ => False) ∧
      ∀ base : Heap, K.In base → base.Ns mainGlobals mg → FnOk r.prog w K mg base CX0 k fa fd ps sp) : PySem.W.WalkOS q loose XP YP r d [] (fun f vs => PySem.call f vs) := by
  intro w s0 s1 mg mb G Y fa o pm cd doc dV kV ho hd hcd hD hmg hg args vals as hpre hlay hrd hwl hlo
  obtain ⟨a, e1, e2⟩ := PySem.W.os_pre_some hpre
  obtain ⟨e3, hwi⟩ := PySem.W.Codec.encAll_of_decAll r.args args a e1
  subst e3
  obtain ⟨K, fd, sp, KX, hb, hsp, hF⟩ := F w mg fa _ Y G.T.g hmg
  have run1 := spec_call (R := []) (cl := PySem.classAt s0.heap) (d0 := r.ret.enc (PySem.W.Codec.app r.args r.f a)) KX G.T.g G.T.b G.T.builtins G.T.nolimit hg hwl (pl_encAll _ _) (layable_weight hlay) room hF hb (by rw [encAll_len]; exact nargs) (fun H xs hO hS => hsp H xs a hO hwi e2 hS) fun _ _ _ z => z
  refine PySem.W.enter_call (codeAny_mono run1 fun r' s' hq => ?_)
  obtain ⟨u, as', rfl, h1, h2, h3, h4⟩ := hq
  exact ⟨.inl ⟨u, _, as', rfl, fun _ => rfl, h1, (PySem.W.OpenSpec.post_iff said hwi _ _).mpr rfl, fun z => Bool.noConfusion (show false = true from z)⟩, h2, h3, h4⟩
theorem facts {P : Program} {w : World} {K : PySem.W.Frag} {h : Heap} {mg : Str → Option Value} {f : Addr} (X : K.In h) (G : h.Ns mainGlobals mg) (hfa : mg ("answers" : Str) = some (.ref f)) (c : SaysY K) :
    ∃ fd : FuncData, (∀ (s : Shared) (us : List Value), us.length = (["calls"] : List Str).length → BindsTo s fd ⟨us, []⟩ ((["calls"] : List Str).zip us)) ∧ ∀ base : Heap, FnOk P w K mg base CX0 92 f fd ["calls"] (sp_answers K) := by
  have T : Tx K mg := ⟨c, h, X, G⟩
  obtain ⟨fd, F⟩ := f_answers T
  have e := hfa.symm.trans (t_answers T)
  cases e
  have b := FunD.bindsA (ps := ["calls"]) F fun _ _ _ _ _ _ us hl => match us, hl with | [_], _ => rfl
  exact ⟨fd, b, fun base => ok_answers T F⟩
theorem args_len {l : List Int} (h : PySem.W.Codec.withinAll R.args (l, ()) = true) : l.length ≤ 16000 := by
  have h1 : ((decide (0 ≤ l.length) && decide (l.length ≤ 16000)) && l.all (PySem.W.Codec.int (_root_.Int.negSucc 999999999999999999) (_root_.Int.ofNat 1000000000000000000)).within && true) = true := h
  rw [Bool.and_eq_true, Bool.and_eq_true, Bool.and_eq_true] at h1
  exact of_decide_eq_true h1.1.1.2
theorem the_call : PySem.W.WalkOS qv loose (PySem.W.XL qv []) hk.says R dAns [] (fun f vs => PySem.call f vs) := by
  refine end_spec (k := 92) (ps := ["calls"]) z_said (by rfl) (by rfl) ⟨rfl, by decide, by decide⟩ ?F
  intro w mg fa h Y G hmg0
  obtain ⟨K, KX, c⟩ := Y
  have hmg : mg ("answers" : Str) = some (.ref fa) := by
    rw [← z_name]
    exact hmg0
  obtain ⟨fd, hb, hF⟩ := facts (P := R.prog) (w := w) KX G hmg c
  refine ⟨K, fd, sp_answers K, KX, hb, fun H xs a hO hwi hask hx => ?_, fun base _ _ => hF base⟩
  cases hx with
  | cons h1 h2 =>
    cases h2
    cases h1 with
    | lst hs ha =>
      have e := L2.ints_dw a.1 _ ha
      subst e
      exact ⟨_, a.1, rfl, hs, args_len hwi, hask, fun H' p _ hp => .lst (L2.SqL.of hp) (L2.dw_ints _)⟩
end SPW
open PySem PySem.W PySem.Calls PyProof.Rows
theorem PySem.Challenge.cw_shortproofs_s01_answers_holds : PySem.Challenge.rw_shortproofs_s01_answers.Holds := by
  w_on
  exact HandSHeadRun.head_spec (r := SPW.R) (q := SPW.qv) (H := SPW.hk) (ob := SPW.ob) (M := 6000) (loose := SPW.loose) (d := SPW.dAns) (kwd := []) SPW.ob_eq SPW.z_opening SPW.z_fence SPW.run SPW.z_def SPW.z_the SPW.z_kw os_shapes SPW.z_said SPW.z_ok SPW.z_bare SPW.z_some SPW.the_call
#print axioms PySem.Challenge.cw_shortproofs_s01_answers_holds

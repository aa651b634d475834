import PyProof.Rows.All
import Wide.All
import OpenK.AllK
import Wide.FinOn
import PyProof.EqAt
import PyProof.EqKinds
import PyProof.TupleCall
import KE.KStateDown
import KE.KDictKeyed
import KE.KDictLaw
import KE.KDictCopyH
import KE.KDictList
import KE.SortKeyHeap
import KE.SortData
import KE.SortLaws
import KE.LtData
import KE.IntText
import KE.IntTextLaws
import KE.KIntText
import KE.KSuper
import KE.KExcSuper
import PyProof.StrOps2
import HandS.ForMost
import HandS.Exc
import HandS.TryOnly
import HandS.ExcOwn
import HandS.ExcInit
import HandS.ExcSuper
import HandS.ExcField
import HandS.WordsExc
import HandS.More
import HandS.IsInst
import HandS.Deep
import HandS.Conv
import HandS.SortKw
import HandS.TupAny
import HandS.Defaults
import HandS.Steps
import HandS.Evl
import HandS.Head0
import HandS.Head1
import HandS.Head2
import HandS.HeadEnd
import HandS.HeadHook1
import HandS.HeadHook2
import PySem.Challenge.RW_everymending_k32_whole_any_book_text
set_option Elab.async false
set_option linter.all false
set_option maxRecDepth 100000
set_option maxHeartbeats 4000000
set_option pp.maxSteps 600
namespace Ev
open PySem PySem.Spec PyProof.Rows L2
/-! ### the text by places -/
def topS (i : Nat) : Stmt := PySem.Challenge.pw_everymending_k32_whole_any_book_text.main.body.getD i (.Pass ⟨0, 0, 0, 0⟩)
abbrev s_is_word : Stmt := topS 7
abbrev n_is_word : List Str := ["text", "char"]
theorem sc_is_word : FnScope n_is_word ["text"] (defScope s_is_word) := ⟨rfl, rfl, rfl, by decide +kernel, rfl, by decide +kernel, by decide +kernel⟩
abbrev s_is_value : Stmt := topS 8
abbrev n_is_value : List Str := ["value"]
theorem sc_is_value : FnScope n_is_value ["value"] (defScope s_is_value) := ⟨rfl, rfl, rfl, by decide +kernel, rfl, by decide +kernel, by decide +kernel⟩
abbrev s_is_row : Stmt := topS 9
abbrev n_is_row : List Str := ["row", "value"]
theorem sc_is_row : FnScope n_is_row ["row"] (defScope s_is_row) := ⟨rfl, rfl, rfl, by decide +kernel, rfl, by decide +kernel, by decide +kernel⟩
abbrev s_value_key : Stmt := topS 10
abbrev n_value_key : List Str := ["value"]
theorem sc_value_key : FnScope n_value_key ["value"] (defScope s_value_key) := ⟨rfl, rfl, rfl, by decide +kernel, rfl, by decide +kernel, by decide +kernel⟩
abbrev s_row_key : Stmt := topS 11
abbrev n_row_key : List Str := ["row", "value"]
theorem sc_row_key : FnScope n_row_key ["row"] (defScope s_row_key) := ⟨rfl, rfl, rfl, by decide +kernel, rfl, by decide +kernel, by decide +kernel⟩
abbrev s_table_of : Stmt := topS 13
abbrev n_table_of : List Str := ["schema", "name", "table"]
theorem sc_table_of : FnScope n_table_of ["schema", "name"] (defScope s_table_of) := ⟨rfl, rfl, rfl, by decide +kernel, rfl, by decide +kernel, by decide +kernel⟩
abbrev s_is_fact : Stmt := topS 14
abbrev n_is_fact : List Str := ["schema", "name", "row", "table"]
theorem sc_is_fact : FnScope n_is_fact ["schema", "name", "row"] (defScope s_is_fact) := ⟨rfl, rfl, rfl, by decide +kernel, rfl, by decide +kernel, by decide +kernel⟩
abbrev s_fact_key : Stmt := topS 16
abbrev n_fact_key : List Str := ["fact"]
theorem sc_fact_key : FnScope n_fact_key ["fact"] (defScope s_fact_key) := ⟨rfl, rfl, rfl, by decide +kernel, rfl, by decide +kernel, by decide +kernel⟩
abbrev s_make_store : Stmt := topS 17
abbrev n_make_store : List Str := ["schema", "facts", "found", "name", "row"]
theorem sc_make_store : FnScope n_make_store ["schema", "facts"] (defScope s_make_store) := ⟨rfl, rfl, rfl, by decide +kernel, rfl, by decide +kernel, by decide +kernel⟩
abbrev s_read_book : Stmt := topS 22
abbrev n_read_book : List Str := ["text", "tables", "facts", "lines", "k", "reader", "table", "schema", "name"]
theorem sc_read_book : FnScope n_read_book ["text"] (defScope s_read_book) := ⟨rfl, rfl, rfl, by decide +kernel, rfl, by decide +kernel, by decide +kernel⟩
abbrev s_tokens_of : Stmt := topS 23
abbrev n_tokens_of : List Str := ["line", "signs", "found", "at"]
theorem sc_tokens_of : FnScope n_tokens_of ["line", "signs"] (defScope s_tokens_of) := ⟨rfl, rfl, rfl, by decide +kernel, rfl, by decide +kernel, by decide +kernel⟩
abbrev s_token_at : Stmt := topS 24
abbrev n_token_at : List Str := ["line", "at", "signs", "char", "end", "start"]
theorem sc_token_at : FnScope n_token_at ["line", "at", "signs"] (defScope s_token_at) := ⟨rfl, rfl, rfl, by decide +kernel, rfl, by decide +kernel, by decide +kernel⟩
abbrev s_run_end : Stmt := topS 25
abbrev n_run_end : List Str := ["line", "at", "letters"]
theorem sc_run_end : FnScope n_run_end ["line", "at", "letters"] (defScope s_run_end) := ⟨rfl, rfl, rfl, by decide +kernel, rfl, by decide +kernel, by decide +kernel⟩
abbrev s_Reader_init : Stmt := inClass (topS 26) 0
abbrev n_Reader_init : List Str := ["self", "tokens", "line", "tables"]
theorem sc_Reader_init : FnScope n_Reader_init ["self", "tokens", "line", "tables"] (defScope s_Reader_init) := ⟨rfl, rfl, rfl, by decide +kernel, rfl, by decide +kernel, by decide +kernel⟩
abbrev s_Reader_sees : Stmt := inClass (topS 26) 1
abbrev n_Reader_sees : List Str := ["self", "kind"]
theorem sc_Reader_sees : FnScope n_Reader_sees ["self", "kind"] (defScope s_Reader_sees) := ⟨rfl, rfl, rfl, by decide +kernel, rfl, by decide +kernel, by decide +kernel⟩
abbrev s_Reader_sees_word : Stmt := inClass (topS 26) 2
abbrev n_Reader_sees_word : List Str := ["self", "word"]
theorem sc_Reader_sees_word : FnScope n_Reader_sees_word ["self", "word"] (defScope s_Reader_sees_word) := ⟨rfl, rfl, rfl, by decide +kernel, rfl, by decide +kernel, by decide +kernel⟩
abbrev s_Reader_sees_table : Stmt := inClass (topS 26) 3
abbrev n_Reader_sees_table : List Str := ["self"]
theorem sc_Reader_sees_table : FnScope n_Reader_sees_table ["self"] (defScope s_Reader_sees_table) := ⟨rfl, rfl, rfl, by decide +kernel, rfl, by decide +kernel, by decide +kernel⟩
abbrev s_Reader_refuse : Stmt := inClass (topS 26) 4
abbrev n_Reader_refuse : List Str := ["self"]
theorem sc_Reader_refuse : FnScope n_Reader_refuse ["self"] (defScope s_Reader_refuse) := ⟨rfl, rfl, rfl, by decide +kernel, rfl, by decide +kernel, by decide +kernel⟩
abbrev s_Reader_take : Stmt := inClass (topS 26) 5
abbrev n_Reader_take : List Str := ["self", "kind"]
theorem sc_Reader_take : FnScope n_Reader_take ["self", "kind"] (defScope s_Reader_take) := ⟨rfl, rfl, rfl, by decide +kernel, rfl, by decide +kernel, by decide +kernel⟩
abbrev s_Reader_take_number : Stmt := inClass (topS 26) 6
abbrev n_Reader_take_number : List Str := ["self", "most", "number"]
theorem sc_Reader_take_number : FnScope n_Reader_take_number ["self", "most"] (defScope s_Reader_take_number) := ⟨rfl, rfl, rfl, by decide +kernel, rfl, by decide +kernel, by decide +kernel⟩
abbrev s_Reader_take_name : Stmt := inClass (topS 26) 7
abbrev n_Reader_take_name : List Str := ["self"]
theorem sc_Reader_take_name : FnScope n_Reader_take_name ["self"] (defScope s_Reader_take_name) := ⟨rfl, rfl, rfl, by decide +kernel, rfl, by decide +kernel, by decide +kernel⟩
abbrev s_Reader_read_table : Stmt := inClass (topS 26) 8
abbrev n_Reader_read_table : List Str := ["self", "name", "key", "rest"]
theorem sc_Reader_read_table : FnScope n_Reader_read_table ["self"] (defScope s_Reader_read_table) := ⟨rfl, rfl, rfl, by decide +kernel, rfl, by decide +kernel, by decide +kernel⟩
abbrev s_Reader_read_fact : Stmt := inClass (topS 26) 9
abbrev n_Reader_read_fact : List Str := ["self", "name", "terms", "kind", "worth"]
theorem sc_Reader_read_fact : FnScope n_Reader_read_fact ["self"] (defScope s_Reader_read_fact) := ⟨rfl, rfl, rfl, by decide +kernel, rfl, by decide +kernel, by decide +kernel⟩
abbrev s_Reader_read_atom : Stmt := inClass (topS 26) 13
abbrev n_Reader_read_atom : List Str := ["self", "has_variables", "name", "key", "rest", "found"]
theorem sc_Reader_read_atom : FnScope n_Reader_read_atom ["self", "has_variables"] (defScope s_Reader_read_atom) := ⟨rfl, rfl, rfl, by decide +kernel, rfl, by decide +kernel, by decide +kernel⟩
abbrev s_Reader_read_terms : Stmt := inClass (topS 26) 14
abbrev n_Reader_read_terms : List Str := ["self", "many", "has_variables", "found", "k"]
theorem sc_Reader_read_terms : FnScope n_Reader_read_terms ["self", "many", "has_variables"] (defScope s_Reader_read_terms) := ⟨rfl, rfl, rfl, by decide +kernel, rfl, by decide +kernel, by decide +kernel⟩
abbrev s_Reader_read_term : Stmt := inClass (topS 26) 15
abbrev n_Reader_read_term : List Str := ["self", "has_variables"]
theorem sc_Reader_read_term : FnScope n_Reader_read_term ["self", "has_variables"] (defScope s_Reader_read_term) := ⟨rfl, rfl, rfl, by decide +kernel, rfl, by decide +kernel, by decide +kernel⟩
abbrev s_l_draws : Stmt := topS 28
abbrev n_l_draws : List Str := ["_law_script", "_law_many", "_law_cells", "_law_rest", "_law_draws_here", "_law_k", "_law_at", "_law_mixed", "_law_cell"]
theorem sc_l_draws : FnScope n_l_draws ["_law_script", "_law_many"] (defScope s_l_draws) := ⟨rfl, rfl, rfl, by decide +kernel, rfl, by decide +kernel, by decide +kernel⟩
abbrev s_l_take : Stmt := topS 29
abbrev n_l_take : List Str := ["_law_draws_here", "_law_many"]
theorem sc_l_take : FnScope n_l_take ["_law_draws_here", "_law_many"] (defScope s_l_take) := ⟨rfl, rfl, rfl, by decide +kernel, rfl, by decide +kernel, by decide +kernel⟩
abbrev s_l_pick : Stmt := topS 30
abbrev n_l_pick : List Str := ["_law_draws_here", "_law_row"]
theorem sc_l_pick : FnScope n_l_pick ["_law_draws_here", "_law_row"] (defScope s_l_pick) := ⟨rfl, rfl, rfl, by decide +kernel, rfl, by decide +kernel, by decide +kernel⟩
abbrev s_l_size : Stmt := topS 31
abbrev n_l_size : List Str := ["_law_draws_here", "_law_script", "_law_kind", "_law_number_here", "_law_k"]
theorem sc_l_size : FnScope n_l_size ["_law_draws_here", "_law_script"] (defScope s_l_size) := ⟨rfl, rfl, rfl, by decide +kernel, rfl, by decide +kernel, by decide +kernel⟩
abbrev s_l_same : Stmt := topS 32
abbrev n_l_same : List Str := ["_law_actual", "_law_due", "_law_k"]
theorem sc_l_same : FnScope n_l_same ["_law_actual", "_law_due"] (defScope s_l_same) := ⟨rfl, rfl, rfl, by decide +kernel, rfl, by decide +kernel, by decide +kernel⟩
abbrev s_l_key : Stmt := topS 33
abbrev n_l_key : List Str := ["_law_value"]
theorem sc_l_key : FnScope n_l_key ["_law_value"] (defScope s_l_key) := ⟨rfl, rfl, rfl, by decide +kernel, rfl, by decide +kernel, by decide +kernel⟩
abbrev s_l_row_key : Stmt := topS 34
abbrev n_l_row_key : List Str := ["_law_row", "_law_value"]
theorem sc_l_row_key : FnScope n_l_row_key ["_law_row"] (defScope s_l_row_key) := ⟨rfl, rfl, rfl, by decide +kernel, rfl, by decide +kernel, by decide +kernel⟩
abbrev s_l_table : Stmt := topS 35
abbrev n_l_table : List Str := ["_law_schema", "_law_name", "_law_table_here"]
theorem sc_l_table : FnScope n_l_table ["_law_schema", "_law_name"] (defScope s_l_table) := ⟨rfl, rfl, rfl, by decide +kernel, rfl, by decide +kernel, by decide +kernel⟩
abbrev s_l_fact_key : Stmt := topS 36
abbrev n_l_fact_key : List Str := ["_law_fact"]
theorem sc_l_fact_key : FnScope n_l_fact_key ["_law_fact"] (defScope s_l_fact_key) := ⟨rfl, rfl, rfl, by decide +kernel, rfl, by decide +kernel, by decide +kernel⟩
abbrev s_l_store : Stmt := topS 37
abbrev n_l_store : List Str := ["_law_facts", "_law_found", "_law_fact"]
theorem sc_l_store : FnScope n_l_store ["_law_facts"] (defScope s_l_store) := ⟨rfl, rfl, rfl, by decide +kernel, rfl, by decide +kernel, by decide +kernel⟩
abbrev s_l_words : Stmt := topS 38
abbrev n_l_words : List Str := ["_law_draws_here", "_law_many", "_law_words_here", "_law_k", "_law_size_here", "_law_word", "_law_j"]
theorem sc_l_words : FnScope n_l_words ["_law_draws_here", "_law_many"] (defScope s_l_words) := ⟨rfl, rfl, rfl, by decide +kernel, rfl, by decide +kernel, by decide +kernel⟩
abbrev s_l_some_words : Stmt := topS 39
abbrev n_l_some_words : List Str := ["_law_draws_here", "_law_many", "_law_words_here", "_law_word", "_law_at"]
theorem sc_l_some_words : FnScope n_l_some_words ["_law_draws_here", "_law_many"] (defScope s_l_some_words) := ⟨rfl, rfl, rfl, by decide +kernel, rfl, by decide +kernel, by decide +kernel⟩
abbrev s_l_number : Stmt := topS 40
abbrev n_l_number : List Str := ["_law_draws_here", "_law_script"]
theorem sc_l_number : FnScope n_l_number ["_law_draws_here", "_law_script"] (defScope s_l_number) := ⟨rfl, rfl, rfl, by decide +kernel, rfl, by decide +kernel, by decide +kernel⟩
abbrev s_l_any_value : Stmt := topS 41
abbrev n_l_any_value : List Str := ["_law_draws_here", "_law_script", "_law_words_here"]
theorem sc_l_any_value : FnScope n_l_any_value ["_law_draws_here", "_law_script", "_law_words_here"] (defScope s_l_any_value) := ⟨rfl, rfl, rfl, by decide +kernel, rfl, by decide +kernel, by decide +kernel⟩
abbrev s_l_any_schema : Stmt := topS 42
abbrev n_l_any_schema : List Str := ["_law_draws_here", "_law_words_here", "_law_many", "_law_names", "_law_found", "_law_name", "_law_total", "_law_key_here", "_law_letter"]
theorem sc_l_any_schema : FnScope n_l_any_schema ["_law_draws_here", "_law_words_here"] (defScope s_l_any_schema) := ⟨rfl, rfl, rfl, by decide +kernel, rfl, by decide +kernel, by decide +kernel⟩
abbrev s_l_any_facts : Stmt := topS 43
abbrev n_l_any_facts : List Str := ["_law_draws_here", "_law_script", "_law_words_here", "_law_schema", "_law_many", "_law_facts", "_law_k", "_law_table_here", "_law_row", "_law_alike", "_law_j", "_law_fact"]
theorem sc_l_any_facts : FnScope n_l_any_facts ["_law_draws_here", "_law_script", "_law_words_here", "_law_schema", "_law_many"] (defScope s_l_any_facts) := ⟨rfl, rfl, rfl, by decide +kernel, rfl, by decide +kernel, by decide +kernel⟩
abbrev s_l_piece : Stmt := topS 44
abbrev n_l_piece : List Str := ["_law_term"]
theorem sc_l_piece : FnScope n_l_piece ["_law_term"] (defScope s_l_piece) := ⟨rfl, rfl, rfl, by decide +kernel, rfl, by decide +kernel, by decide +kernel⟩
abbrev s_l_listed : Stmt := topS 45
abbrev n_l_listed : List Str := ["_law_pieces", "_law_found", "_law_piece_here"]
theorem sc_l_listed : FnScope n_l_listed ["_law_pieces"] (defScope s_l_listed) := ⟨rfl, rfl, rfl, by decide +kernel, rfl, by decide +kernel, by decide +kernel⟩
abbrev s_l_atom_pieces : Stmt := topS 46
abbrev n_l_atom_pieces : List Str := ["_law_table_here", "_law_terms", "_law_left", "_law_right", "_law_term"]
theorem sc_l_atom_pieces : FnScope n_l_atom_pieces ["_law_table_here", "_law_terms"] (defScope s_l_atom_pieces) := ⟨rfl, rfl, rfl, by decide +kernel, rfl, by decide +kernel, by decide +kernel⟩
abbrev s_l_table_pieces : Stmt := topS 47
abbrev n_l_table_pieces : List Str := ["_law_table_here"]
theorem sc_l_table_pieces : FnScope n_l_table_pieces ["_law_table_here"] (defScope s_l_table_pieces) := ⟨rfl, rfl, rfl, by decide +kernel, rfl, by decide +kernel, by decide +kernel⟩
abbrev s_l_fact_pieces : Stmt := topS 48
abbrev n_l_fact_pieces : List Str := ["_law_schema", "_law_fact", "_law_value"]
theorem sc_l_fact_pieces : FnScope n_l_fact_pieces ["_law_schema", "_law_fact"] (defScope s_l_fact_pieces) := ⟨rfl, rfl, rfl, by decide +kernel, rfl, by decide +kernel, by decide +kernel⟩
abbrev s_l_glue : Stmt := topS 49
abbrev n_l_glue : List Str := ["_law_one", "_law_other", "_law_letters"]
theorem sc_l_glue : FnScope n_l_glue ["_law_one", "_law_other"] (defScope s_l_glue) := ⟨rfl, rfl, rfl, by decide +kernel, rfl, by decide +kernel, by decide +kernel⟩
abbrev s_l_spaced : Stmt := topS 50
abbrev n_l_spaced : List Str := ["_law_draws_here", "_law_pieces", "_law_most", "_law_text", "_law_k"]
theorem sc_l_spaced : FnScope n_l_spaced ["_law_draws_here", "_law_pieces", "_law_most"] (defScope s_l_spaced) := ⟨rfl, rfl, rfl, by decide +kernel, rfl, by decide +kernel, by decide +kernel⟩
abbrev s_l_run : Stmt := topS 51
abbrev n_l_run : List Str := ["_law_text", "_law_at", "_law_letters", "_law_k"]
theorem sc_l_run : FnScope n_l_run ["_law_text", "_law_at", "_law_letters"] (defScope s_l_run) := ⟨rfl, rfl, rfl, by decide +kernel, rfl, by decide +kernel, by decide +kernel⟩
abbrev s_l_tokens : Stmt := topS 52
abbrev n_l_tokens : List Str := ["_law_text"]
theorem sc_l_tokens : FnScope n_l_tokens ["_law_text"] (defScope s_l_tokens) := ⟨rfl, rfl, rfl, by decide +kernel, rfl, by decide +kernel, by decide +kernel⟩
abbrev s_l_tokens_of : Stmt := topS 53
abbrev n_l_tokens_of : List Str := ["_law_text", "_law_signs", "_law_letters", "_law_found", "_law_at", "_law_k", "_law_char", "_law_kind", "_law_worth", "_law_end", "_law_start"]
theorem sc_l_tokens_of : FnScope n_l_tokens_of ["_law_text", "_law_signs"] (defScope s_l_tokens_of) := ⟨rfl, rfl, rfl, by decide +kernel, rfl, by decide +kernel, by decide +kernel⟩
abbrev s_l_take_terms : Stmt := topS 54
abbrev n_l_take_terms : List Str := ["_law_tokens_here", "_law_place", "_law_many", "_law_variables", "_law_found", "_law_k", "_law_token"]
theorem sc_l_take_terms : FnScope n_l_take_terms ["_law_tokens_here", "_law_place", "_law_many", "_law_variables"] (defScope s_l_take_terms) := ⟨rfl, rfl, rfl, by decide +kernel, rfl, by decide +kernel, by decide +kernel⟩
abbrev s_l_take_atom : Stmt := topS 55
abbrev n_l_take_atom : List Str := ["_law_tokens_here", "_law_place", "_law_schema", "_law_variables", "_law_table_here", "_law_left", "_law_right"]
theorem sc_l_take_atom : FnScope n_l_take_atom ["_law_tokens_here", "_law_place", "_law_schema", "_law_variables"] (defScope s_l_take_atom) := ⟨rfl, rfl, rfl, by decide +kernel, rfl, by decide +kernel, by decide +kernel⟩
abbrev s_l_read_line : Stmt := topS 56
abbrev n_l_read_line : List Str := ["_law_tokens_here", "_law_schema", "_law_begins", "_law_total", "_law_k", "_law_told_here", "_law_term"]
theorem sc_l_read_line : FnScope n_l_read_line ["_law_tokens_here", "_law_schema"] (defScope s_l_read_line) := ⟨rfl, rfl, rfl, by decide +kernel, rfl, by decide +kernel, by decide +kernel⟩
abbrev s_l_reading_book : Stmt := topS 57
abbrev n_l_reading_book : List Str := ["_law_text", "_law_schema", "_law_facts", "_law_lines", "_law_k", "_law_tokens_here", "_law_told_here"]
theorem sc_l_reading_book : FnScope n_l_reading_book ["_law_text"] (defScope s_l_reading_book) := ⟨rfl, rfl, rfl, by decide +kernel, rfl, by decide +kernel, by decide +kernel⟩
abbrev s_l_some_piece : Stmt := topS 58
abbrev n_l_some_piece : List Str := ["_law_draws_here", "_law_words_here", "_law_kind", "_law_some"]
theorem sc_l_some_piece : FnScope n_l_some_piece ["_law_draws_here", "_law_words_here"] (defScope s_l_some_piece) := ⟨rfl, rfl, rfl, by decide +kernel, rfl, by decide +kernel, by decide +kernel⟩
abbrev s_l_mutated : Stmt := topS 59
abbrev n_l_mutated : List Str := ["_law_draws_here", "_law_words_here", "_law_pieces", "_law_at", "_law_kind"]
theorem sc_l_mutated : FnScope n_l_mutated ["_law_draws_here", "_law_words_here", "_law_pieces"] (defScope s_l_mutated) := ⟨rfl, rfl, rfl, by decide +kernel, rfl, by decide +kernel, by decide +kernel⟩
abbrev s_l_any_chars : Stmt := topS 60
abbrev n_l_any_chars : List Str := ["_law_draws_here", "_law_many", "_law_chars", "_law_k"]
theorem sc_l_any_chars : FnScope n_l_any_chars ["_law_draws_here", "_law_many"] (defScope s_l_any_chars) := ⟨rfl, rfl, rfl, by decide +kernel, rfl, by decide +kernel, by decide +kernel⟩
abbrev s_l_short : Stmt := topS 61
abbrev n_l_short : List Str := ["_law_pieces", "_law_found", "_law_piece_here"]
theorem sc_l_short : FnScope n_l_short ["_law_pieces"] (defScope s_l_short) := ⟨rfl, rfl, rfl, by decide +kernel, rfl, by decide +kernel, by decide +kernel⟩
abbrev s_l_book_lines : Stmt := topS 62
abbrev n_l_book_lines : List Str := ["_law_draws_here", "_law_schema", "_law_facts", "_law_lines", "_law_table_here", "_law_fact", "_law_k", "_law_first", "_law_j", "_law_at"]
theorem sc_l_book_lines : FnScope n_l_book_lines ["_law_draws_here", "_law_schema", "_law_facts"] (defScope s_l_book_lines) := ⟨rfl, rfl, rfl, by decide +kernel, rfl, by decide +kernel, by decide +kernel⟩
abbrev s_l_told : Stmt := topS 63
abbrev n_l_told : List Str := ["_law_text", "_law_told_here", "e"]
theorem sc_l_told : FnScope n_l_told ["_law_text"] (defScope s_l_told) := ⟨rfl, rfl, rfl, by decide +kernel, rfl, by decide +kernel, by decide +kernel⟩
abbrev s_l_changed : Stmt := topS 64
abbrev n_l_changed : List Str := ["_law_draws_here", "_law_words_here", "_law_lines", "_law_at", "_law_kind"]
theorem sc_l_changed : FnScope n_l_changed ["_law_draws_here", "_law_words_here", "_law_lines"] (defScope s_l_changed) := ⟨rfl, rfl, rfl, by decide +kernel, rfl, by decide +kernel, by decide +kernel⟩
abbrev s_l_any_lines : Stmt := topS 65
abbrev n_l_any_lines : List Str := ["_law_draws_here", "_law_words_here", "_law_kind", "_law_k", "_law_found", "_law_schema", "_law_lines", "_law_pieces", "_law_j"]
theorem sc_l_any_lines : FnScope n_l_any_lines ["_law_draws_here", "_law_words_here"] (defScope s_l_any_lines) := ⟨rfl, rfl, rfl, by decide +kernel, rfl, by decide +kernel, by decide +kernel⟩
abbrev s_law : Stmt := topS 66
abbrev n_law : List Str := ["_law_script", "_law_draws_here", "_law_words_here", "_law_text", "_law_at", "_law_due"]
theorem sc_law : FnScope n_law ["_law_script"] (defScope s_law) := ⟨rfl, rfl, rfl, by decide +kernel, rfl, by decide +kernel, by decide +kernel⟩
/-! ### what the top has written -/
abbrev FunAt (K : PySem.W.Frag) (x : Str) (st : Stmt) : Prop := ∃ fd, FunD K x x (defArgs st) (defBody st) (defScope st) [] [] (He.ga K x) fd
abbrev MetAt (K : PySem.W.Frag) (m q : Str) (st : Stmt) : Prop := ∃ fd, FunD K m q (defArgs st) (defBody st) (defScope st) [] [] (He.ma K (He.ga K "Reader") m) fd
/-- a global's own def -/
structure DefAt (K : PySem.W.Frag) (mg : Str → Option Value) (x : Str) (st : Stmt) : Prop where
  d : FunAt K x st
  g : mg x = some (.ref (He.ga K x))
/-- a method of the reader -/
structure MthAt (K : PySem.W.Frag) (m q : Str) (st : Stmt) : Prop where
  d : MetAt K m q st
  m : Meth K (He.ga K "Reader") m (He.ma K (He.ga K "Reader") m)
structure Tx (K : PySem.W.Frag) (mg : Str → Option Value) : Prop where
  d_is_word : DefAt K mg "is_word" s_is_word
  d_is_value : DefAt K mg "is_value" s_is_value
  d_is_row : DefAt K mg "is_row" s_is_row
  d_value_key : DefAt K mg "value_key" s_value_key
  d_row_key : DefAt K mg "row_key" s_row_key
  d_table_of : DefAt K mg "table_of" s_table_of
  d_is_fact : DefAt K mg "is_fact" s_is_fact
  d_fact_key : DefAt K mg "fact_key" s_fact_key
  d_make_store : DefAt K mg "make_store" s_make_store
  d_read_book : DefAt K mg "read_book" s_read_book
  d_tokens_of : DefAt K mg "tokens_of" s_tokens_of
  d_token_at : DefAt K mg "token_at" s_token_at
  d_run_end : DefAt K mg "run_end" s_run_end
  m_sees : MthAt K "sees" "Reader.sees" s_Reader_sees
  m_sees_word : MthAt K "sees_word" "Reader.sees_word" s_Reader_sees_word
  m_sees_table : MthAt K "sees_table" "Reader.sees_table" s_Reader_sees_table
  m_refuse : MthAt K "refuse" "Reader.refuse" s_Reader_refuse
  m_take : MthAt K "take" "Reader.take" s_Reader_take
  m_take_number : MthAt K "take_number" "Reader.take_number" s_Reader_take_number
  m_take_name : MthAt K "take_name" "Reader.take_name" s_Reader_take_name
  m_read_table : MthAt K "read_table" "Reader.read_table" s_Reader_read_table
  m_read_fact : MthAt K "read_fact" "Reader.read_fact" s_Reader_read_fact
  m_read_atom : MthAt K "read_atom" "Reader.read_atom" s_Reader_read_atom
  m_read_terms : MthAt K "read_terms" "Reader.read_terms" s_Reader_read_terms
  m_read_term : MthAt K "read_term" "Reader.read_term" s_Reader_read_term
  d_l_draws : DefAt K mg "_law_draws" s_l_draws
  d_l_take : DefAt K mg "_law_take" s_l_take
  d_l_pick : DefAt K mg "_law_pick" s_l_pick
  d_l_size : DefAt K mg "_law_size" s_l_size
  d_l_same : DefAt K mg "_law_same" s_l_same
  d_l_key : DefAt K mg "_law_key" s_l_key
  d_l_row_key : DefAt K mg "_law_row_key" s_l_row_key
  d_l_table : DefAt K mg "_law_table" s_l_table
  d_l_fact_key : DefAt K mg "_law_fact_key" s_l_fact_key
  d_l_store : DefAt K mg "_law_store" s_l_store
  d_l_words : DefAt K mg "_law_words" s_l_words
  d_l_some_words : DefAt K mg "_law_some_words" s_l_some_words
  d_l_number : DefAt K mg "_law_number" s_l_number
  d_l_any_value : DefAt K mg "_law_any_value" s_l_any_value
  d_l_any_schema : DefAt K mg "_law_any_schema" s_l_any_schema
  d_l_any_facts : DefAt K mg "_law_any_facts" s_l_any_facts
  d_l_piece : DefAt K mg "_law_piece" s_l_piece
  d_l_listed : DefAt K mg "_law_listed" s_l_listed
  d_l_atom_pieces : DefAt K mg "_law_atom_pieces" s_l_atom_pieces
  d_l_table_pieces : DefAt K mg "_law_table_pieces" s_l_table_pieces
  d_l_fact_pieces : DefAt K mg "_law_fact_pieces" s_l_fact_pieces
  d_l_glue : DefAt K mg "_law_glue" s_l_glue
  d_l_spaced : DefAt K mg "_law_spaced" s_l_spaced
  d_l_run : DefAt K mg "_law_run" s_l_run
  d_l_tokens : DefAt K mg "_law_tokens" s_l_tokens
  d_l_tokens_of : DefAt K mg "_law_tokens_of" s_l_tokens_of
  d_l_take_terms : DefAt K mg "_law_take_terms" s_l_take_terms
  d_l_take_atom : DefAt K mg "_law_take_atom" s_l_take_atom
  d_l_read_line : DefAt K mg "_law_read_line" s_l_read_line
  d_l_reading_book : DefAt K mg "_law_reading_book" s_l_reading_book
  d_l_some_piece : DefAt K mg "_law_some_piece" s_l_some_piece
  d_l_mutated : DefAt K mg "_law_mutated" s_l_mutated
  d_l_any_chars : DefAt K mg "_law_any_chars" s_l_any_chars
  d_l_short : DefAt K mg "_law_short" s_l_short
  d_l_book_lines : DefAt K mg "_law_book_lines" s_l_book_lines
  d_l_told : DefAt K mg "_law_told" s_l_told
  d_l_changed : DefAt K mg "_law_changed" s_l_changed
  d_l_any_lines : DefAt K mg "_law_any_lines" s_l_any_lines
  d_law : DefAt K mg "law" s_law
  b_len : mg "len" = none
  b_int : mg "int" = none
  b_str : mg "str" = none
  b_list : mg "list" = none
  b_tuple : mg "tuple" = none
  b_bool : mg "bool" = none
  b_range : mg "range" = none
  b_sorted : mg "sorted" = none
  b_isinstance : mg "isinstance" = none
  b_all : mg "all" = none
  b_abs : mg "abs" = none
  b_super : mg "super" = none
  c_LETTERS : ∃ t, mg "LETTERS" = some (.str "abcdefghijklmnopqrstuvwxyz" t)
  c_DIGITS : ∃ t, mg "DIGITS" = some (.str "0123456789" t)
  c_SIGNS : ∃ t, mg "SIGNS" = some (.str "()[],;|" t)
  c_MOST : ∃ t, mg "MOST_COLUMNS" = some (.int 8 t)
  clR : Cls K (He.ga K "Reader")
  g_Reader : mg "Reader" = some (.ref (He.ga K "Reader"))
  mkR : Mk K (He.ga K "Reader") (He.ma K (He.ga K "Reader") "__init__")
  inR : MetAt K "__init__" "Reader.__init__" s_Reader_init
  na_tokens : NoAttr K (He.ga K "Reader") "tokens"
  na_line : NoAttr K (He.ga K "Reader") "line"
  na_tables : NoAttr K (He.ga K "Reader") "tables"
  na_place : NoAttr K (He.ga K "Reader") "place"
/-! ### constants of the module -/
section
variable {X : Cx}
theorem pe_cstr {x z : Str} {pos : Pos} (h : ∃ t, X.mg x = some (.str z t)) (hg : Gl X x := by rfl) (hd : (x == ("__debug__" : Str)) = false := by decide) : PE X (.Name x pos) (tC (.str z)) := by
  obtain ⟨t, e⟩ := h
  exact pe_glob hg e ⟨t, rfl⟩ hd
theorem pe_cint {x : Str} {z : Int} {pos : Pos} (h : ∃ t, X.mg x = some (.int z t)) (hg : Gl X x := by rfl) (hd : (x == ("__debug__" : Str)) = false := by decide) : PE X (.Name x pos) (tC (.int z)) := by
  obtain ⟨t, e⟩ := h
  exact pe_glob hg e ⟨t, rfl⟩ hd
end
/-! ### calls by name -/
/-- the def x keeps sp, at most level k -/
structure Cal (P : Program) (w : World) (K : PySem.W.Frag) (mg : Str → Option Value) (base : Heap) (CX : CXT) (k : Nat) (x : Str) (ps : List Str) (sp : Sp) : Prop where
  ok : ∃ fd, FnOk P w K mg base CX k (He.ga K x) fd ps sp ∧ Binds K fd ps []
  g : mg x = some (.ref (He.ga K x))
  kp : PySem.W.keepIn K (.ref (He.ga K x)) = true
/-- the reader's method m keeps sp -/
structure Mcl (P : Program) (w : World) (K : PySem.W.Frag) (mg : Str → Option Value) (base : Heap) (CX : CXT) (k : Nat) (m : Str) (ps : List Str) (sp : Sp) : Prop where
  ok : ∃ fd, FnOk P w K mg base CX k (He.ma K (He.ga K "Reader") m) fd ps sp ∧ Binds K fd ps []
  m : Meth K (He.ga K "Reader") m (He.ma K (He.ga K "Reader") m)
  c : Cls K (He.ga K "Reader")
def tCal (sp : Sp) (E : XK) (t : TA) : TE := fun σ H Q => t σ H fun vs H1 => sp vs H1 Q E
def tMcl (C : Addr) (m : Str) (sp : Sp) (E : XK) (ta : TE) (t : TA) : TE := fun σ H Q => ta σ H fun x H1 => ∃ a dx fs, x = .ref a ∧ H1 a = some (.ins C dx fs) ∧ fs.lookup m = none ∧ t σ H1 fun vs H2 => sp (x :: vs) H2 Q E
section
variable {X : Cx} {CX : CXT} {k : Nat} {x m : Str} {ps : List Str} {sp : Sp} {E : XK} {p pos apos : Pos} {e o : Expr} {es : List Expr} {t : TA} {ta : TE}
theorem pe_cal (C : Cal X.prog X.w X.K X.mg X.base CX k x ps sp) (hr : Room k X.A) (hx : Passes CX X E) (ha : PA X (e :: es) t) (hg : Gl X x := by rfl)
    (hdb : (x == ("__debug__" : Str)) = false := by decide) (he : starEach (e :: es) X.env = (false, eval e X.env) :: starEach es X.env := by rfl) (hpl : (backTo pos (starEach es X.env)).any (·.1) = false := by rfl) :
    PE X (.Call (.Name x p) (e :: es) [] pos) (tCal sp E t) := by
  obtain ⟨fd, F, b⟩ := C.ok
  have h := pe_call (p := p) (pos := pos) F hr hg C.g C.kp b .nil hx ha hdb he hpl
  refine ⟨fun pins s σ H Q I q => h.run pins s σ H Q I ?_⟩
  have e1 : (fun (vs : List V) H1 => sp (vs ++ []) H1 Q E) = fun vs H1 => sp vs H1 Q E := by
    funext vs H1
    rw [List.append_nil]
  show t σ H fun vs H1 => sp (vs ++ []) H1 Q E
  rw [e1]
  exact q
theorem pe_mcal {pl : Sem Bool} (C : Mcl X.prog X.w X.K X.mg X.base CX k m ps sp) (hr : Room k X.A) (hx : Passes CX X E) (he : PE X o ta) (ha : PA X (e :: es) t)
    (ht : eval (.Call (.Attribute o m apos) (e :: es) [] pos) X.env = (do
      let ov ← eval o X.env
      standAt apos.atName
      let (f, first) ← holding [ov] (getMethod ov m pl)
      callWith pos f first (backTo pos (starEach (e :: es) X.env)) (backToKw pos (keywordEach [] X.env))) := by rfl)
    (hst : starEach (e :: es) X.env = (false, eval e X.env) :: starEach es X.env := by rfl) (hpl : (backTo pos (starEach es X.env)).any (·.1) = false := by rfl) :
    PE X (.Call (.Attribute o m apos) (e :: es) [] pos) (tMcl (He.ga X.K "Reader") m sp E ta t) := by
  obtain ⟨fd, F, b⟩ := C.ok
  have h := pe_meth (pl := pl) he C.c C.m F hr b .nil hx ha (ht := ht) (hst := hst) (hpl := hpl)
  refine ⟨fun pins s σ H Q I q => h.run pins s σ H Q I ?_⟩
  have e1 : ∀ x, (fun (vs : List V) H2 => sp (x :: (vs ++ [])) H2 Q E) = fun vs H2 => sp (x :: vs) H2 Q E := by
    intro x
    funext vs H1
    rw [List.append_nil]
  show ta σ H fun x H1 => ∃ a dx fs, x = .ref a ∧ H1 a = some (.ins (He.ga X.K "Reader") dx fs) ∧ fs.lookup m = none ∧ t σ H1 fun vs H2 => sp (x :: (vs ++ [])) H2 Q E
  simp only [e1]
  exact q
theorem pe_mcal0 {pl : Sem Bool} (C : Mcl X.prog X.w X.K X.mg X.base CX k m ps sp) (hr : Room k X.A) (hx : Passes CX X E) (he : PE X o ta)
    (ht : eval (.Call (.Attribute o m apos) [] [] pos) X.env = (do
      let ov ← eval o X.env
      standAt apos.atName
      let (f, first) ← holding [ov] (getMethod ov m pl)
      callWith pos f first (backTo pos (starEach [] X.env)) (backToKw pos (keywordEach [] X.env))) := by rfl) :
    PE X (.Call (.Attribute o m apos) [] [] pos) (tMcl (He.ga X.K "Reader") m sp E ta tNil) := by
  obtain ⟨fd, F, b⟩ := C.ok
  exact pe_meth0 (pl := pl) he C.c C.m F hr b .nil hx (ht := ht)
end
/-! ### a def's promise from its body -/
section
variable {P : Program} {w : World} {K : PySem.W.Frag} {mg : Str → Option Value} {base : Heap}
theorem Cal.of {CX : CXT} {x : Str} {st : Stmt} {N ps : List Str} {k : Nat} {sp : Sp} (D : DefAt K mg x st) (S : FnScope N ps (defScope st)) (len : ∀ vs H Q E, sp vs H Q E → vs.length = ps.length)
    (hb : ∀ (dV kV doc pm : Value) (an : Option Addr) (cdv ct : Value) (us : List Value), us.length = ps.length → bindArgs (PySem.W.fnOf x x (defArgs st) (defBody st) (defScope st) .none kV doc pm an cdv ct) ⟨us, []⟩ = pure (ps.zip us))
    (hbody : ∀ (f : Addr) (cdv : Value) (A : Around) (outer : List Env) (s : Shared) (H : Hp) (vs : List V) (Q : VK) (E : XK), Room k (A.deeper (envOfC x (defScope st) s.heap.objs.size f cdv)) → sp vs H Q E →
      ∃ t, PSs (cxOf CX P w K mg base N x (defScope st) f cdv A outer s H E) (defBody st) t ∧ t { nx := fun _ H' => Q .non H', rt := Q } (start N vs) H) : Cal P w K mg base CX (k + 1) x ps sp := by
  obtain ⟨fd, F⟩ := D.d
  refine ⟨⟨fd, F.ok S len (hbody _), ?_⟩, D.g, F.kp⟩
  exact F.bindsN fun kV doc pm an cdv ct us hl => hb .none kV doc pm an cdv ct us hl
theorem Mcl.of {CX : CXT} {m q : Str} {st : Stmt} {N ps : List Str} {k : Nat} {sp : Sp} (D : MthAt K m q st) (c : Cls K (He.ga K "Reader")) (S : FnScope N ps (defScope st)) (len : ∀ vs H Q E, sp vs H Q E → vs.length = ps.length)
    (hb : ∀ (dV kV doc pm : Value) (an : Option Addr) (cdv ct : Value) (us : List Value), us.length = ps.length → bindArgs (PySem.W.fnOf m q (defArgs st) (defBody st) (defScope st) .none kV doc pm an cdv ct) ⟨us, []⟩ = pure (ps.zip us))
    (hbody : ∀ (f : Addr) (cdv : Value) (A : Around) (outer : List Env) (s : Shared) (H : Hp) (vs : List V) (Q : VK) (E : XK), Room k (A.deeper (envOfC q (defScope st) s.heap.objs.size f cdv)) → sp vs H Q E →
      ∃ t, PSs (cxOf CX P w K mg base N q (defScope st) f cdv A outer s H E) (defBody st) t ∧ t { nx := fun _ H' => Q .non H', rt := Q } (start N vs) H) : Mcl P w K mg base CX (k + 1) m ps sp := by
  obtain ⟨fd, F⟩ := D.d
  refine ⟨⟨fd, F.ok S len (hbody _), ?_⟩, D.m, c⟩
  exact F.bindsN fun kV doc pm an cdv ct us hl => hb .none kV doc pm an cdv ct us hl
theorem Cal.mono {CX : CXT} {x : Str} {ps : List Str} {j k : Nat} {sp : Sp} (C : Cal P w K mg base CX j x ps sp) (h : j ≤ k) : Cal P w K mg base CX k x ps sp := by
  obtain ⟨⟨fd, F, b⟩, g, kp⟩ := C
  exact ⟨⟨fd, F.mono h, b⟩, g, kp⟩
end
theorem Room.units65 {k : Nat} {A : Around} (r : Room k A) : A.units + 65 < cLine := by have := r.un; omega
end Ev
namespace Ev
open PySem PySem.Spec PyProof.Rows L2
/-! ### text * int, with a small int -/
def rMulS : R2 := fun x y H Q => ∃ (z : Str) (n : Int), x = .str z ∧ y = .int n ∧ 0 ≤ n ∧ n ≤ 1000 ∧ z.length ≤ 1000 ∧ ∀ u : Str, u.cps.toList = (List.replicate n.toNat z.cps.toList).flatten → Q (.str u) H
theorem fold_cat : ∀ (n : Nat) (c a : Array Nat), ((List.replicate n c).foldl (· ++ ·) a).toList = a.toList ++ (List.replicate n c.toList).flatten
  | 0, c, a => by simp
  | n + 1, c, a => by
    rw [List.replicate_succ, List.foldl_cons, fold_cat n c (a ++ c), List.replicate_succ, List.flatten_cons, Array.toList_append, List.append_assoc]
theorem flat_len : ∀ (n : Nat) (c : List Nat), (List.replicate n c).flatten.length = n * c.length
  | 0, c => by simp
  | n + 1, c => by
    rw [List.replicate_succ, List.flatten_cons, List.length_append, flat_len n c, Nat.succ_mul, Nat.add_comm]
section
variable {X : Cx}
/-! ### rules within a comprehension: the written part by its own name -/
theorem ix_listK (K : PySem.W.Frag) (h : X.K = K := by rfl) : IxR X (rIxL K) := h ▸ ix_list
theorem ix_tupK (K : PySem.W.Frag) (h : X.K = K := by rfl) : IxR X (rIxT K) := h ▸ ix_tup
theorem ix_seqK (K : PySem.W.Frag) (h : X.K = K := by rfl) : IxR X (rIx K) := h ▸ ix_seq
theorem pe_joinK (K : PySem.W.Frag) {o e : Expr} {to te : TE} {apos pos : Pos} (ho : PE X o to) (he : PE X e te) (h : X.K = K := by rfl) (hs : starEach [e] X.env = [(false, eval e X.env)] := by rfl)
    (hbase : attributeBase o "join" X.env (eval o X.env) = eval o X.env := by rfl) (hline : (apos.endLine == pos.line) = true := by rfl) :
    PE X (.Call (.Attribute o "join" apos) [e] [] pos) (tM1 (fun x xs H Q => ∃ a p, ∃ ys : List Str, x = .str a ∧ xs = [.ref p] ∧ (SqL K H p (ys.map V.str) ∨ SqT K H p (ys.map V.str)) ∧
      (ys.map (·.length)).sum + ys.length * a.length ≤ 16777216 ∧ Q (.str (Txt.join a ys)) H) to te) := by
  subst h
  exact pe_join ho he hs hbase hline
/-! ### a list or a tuple that is walked -/
def iQ (K : PySem.W.Frag) (tl : TE) : TI := fun σ H R => iList K tl σ H R ∨ iTup K tl σ H R
theorem pi_q {tg l : Expr} {tl : TE} (hl : PE X l tl) : PI X tg l (iQ X.K tl) :=
  ⟨fun pins s σ H R I h => h.elim (fun h => (pi_list (tg := tg) hl).run pins s σ H R I h) (fun h => (pi_tup (tg := tg) hl).run pins s σ H R I h)⟩
/-! ### a slice of a tuple, the whole of it too: the tuple itself, or a new one -/
def rSlC (K : PySem.W.Frag) : V → Option Int → Option Int → Hp → VK → Prop := fun x lo hi H Q => ∃ a xs, x = .ref a ∧ SqT K H a xs ∧
  ∀ (p : Addr) (H' : Hp), ((p = a ∧ H' = H ∧ cutV xs lo hi = xs) ∨ (H p = none ∧ H' = upd H p (.tup (cutV xs lo hi)))) → SqT K H' p (cutV xs lo hi) → Q (.ref p) H'
theorem cut_whole {xs : List V} {lo hi : Option Int} (h : HT.sIx xs.length 0 lo = 0 ∧ HT.sIx xs.length xs.length hi = xs.length) : cutV xs lo hi = xs := by
  unfold cutV
  rw [h.1, h.2, List.drop_zero, Nat.sub_zero, List.take_length]
theorem sl_tupC : SlR X (rSlC X.K) := by
  intro pins s σ H x v vl vu lo hi sl Q I rx hs pl pu h
  obtain ⟨a, xs, rfl, hx, q⟩ := h
  refine sl_tupA pins s σ H _ v vl vu lo hi sl Q I rx hs pl pu ⟨a, xs, rfl, hx, fun hw => ?_, fun _ p hp => q p _ (.inr ⟨hp, rfl⟩) (SqT.of upd_same)⟩
  refine q a H (.inl ⟨rfl, rfl, cut_whole hw⟩) ?_
  rw [cut_whole hw]
  exact hx
theorem op_mulS : OpR X (binaryOp .Mult) rMulS := by
  intro pins s σ H x y v u Q I rx ry h
  obtain ⟨z, n, rfl, rfl, h0, h1, hz, q⟩ := h
  obtain ⟨t, rfl⟩ := rx
  obtain ⟨t', rfl⟩ := ry
  have hzl : z.cps.toList.length = z.length := Array.length_toList
  have big : z.length * n.toNat ≤ 1000000 := Nat.mul_le_mul hz (by omega : n.toNat ≤ 1000)
  refine PySem.P.mul_str (by
      rw [decide_eq_false (show ¬ n < -(2 ^ 63 : Int) by omega), decide_eq_false (show ¬ n ≥ (2 ^ 63 : Int) by omega)]
      rfl) (fun h2 _ => ?_) (fun _ _ => ?_) ?_
  · have h3 : (1000 : Int) ≤ (2 ^ 63 - 1) / n := by
      have h4 : (1000 : Int) * n ≤ 2 ^ 63 - 1 := by omega
      exact Int.le_ediv_of_mul_le (by omega) h4
    omega
  · unfold Builtin.Str.tooLong
    rw [decide_eq_false]
    rw [sizeLine_eq]
    omega
  · split
    · next hn =>
      have e : n = 0 := by omega
      subst e
      exact ⟨by decide, .str Str.empty, H, I.tok _, ⟨_, rfl⟩, q _ rfl⟩
    · next hn =>
      split
      · next hc =>
        refine ⟨.str z, H, I, ⟨_, rfl⟩, q _ ?_⟩
        rcases Bool.or_eq_true_iff.mp hc with e | e
        · have e1 : n = 1 := by simpa using e
          subst e1
          show z.cps.toList = (List.replicate 1 z.cps.toList).flatten
          rw [List.replicate_one, List.flatten_cons, List.flatten_nil, List.append_nil]
        · have e1 : z.cps.toList = [] := by
            have e2 : z.length = 0 := by simpa using e
            exact List.length_eq_zero_iff.mp (hzl.trans e2)
          rw [e1]
          have e3 := flat_len n.toNat []
          rw [List.length_nil, Nat.mul_zero] at e3
          exact (List.length_eq_zero_iff.mp e3).symm
      · refine ⟨?_, .str ⟨(List.replicate n.toNat z.cps).foldl (· ++ ·) #[]⟩, H, I.tok _, ⟨_, rfl⟩, q _ ?_⟩
        · show ((List.replicate n.toNat z.cps).foldl (· ++ ·) #[]).size ≤ sizeLine
          rw [← Array.length_toList, fold_cat, List.length_append, flat_len, hzl, sizeLine_eq]
          show 0 + n.toNat * z.length ≤ 16777216
          rw [Nat.mul_comm]
          omega
        · show ((List.replicate n.toNat z.cps).foldl (· ++ ·) #[]).toList = _
          rw [fold_cat]
          rfl
end
end Ev
namespace Ev
open PySem PySem.Spec PyProof.Rows L2
/-! ### heaps: what a def of the builder leaves as it was -/
/-- all that was tracked but what stands at D is as it was; tuples in any case -/
structure Bx (D : List Addr) (H H' : Hp) : Prop where
  k : ∀ a o, a ∉ D → H a = some o → H' a = some o
  t : ∀ a xs, H a = some (.tup xs) → H' a = some (.tup xs)
/-- at d: the draws, a list of ints -/
def Dr (d : Addr) (H : Hp) : Prop := ∃ ns : List Int, H d = some (.lst (ns.map V.int))
section
variable {D : List Addr} {H H1 H2 : Hp} {p d : Addr} {o : HO} {xs ys : List V}
theorem Bx.refl (D : List Addr) (H : Hp) : Bx D H H := ⟨fun _ _ _ h => h, fun _ _ h => h⟩
theorem Bx.trans (a : Bx D H H1) (b : Bx D H1 H2) : Bx D H H2 := ⟨fun x o n h => b.k x o n (a.k x o n h), fun x xs h => b.t x xs (a.t x xs h)⟩
theorem Bx.new (h : H p = none) : Bx D H (upd H p o) := ⟨fun a u _ e => by rw [upd_ne (ne_of_none e h)]; exact e, fun a u e => by rw [upd_ne (ne_of_none e h)]; exact e⟩
theorem Bx.sub {D' : List Addr} (a : Bx D H H1) (h : ∀ x, x ∈ D → x ∈ D') : Bx D' H H1 := ⟨fun x o n e => a.k x o (fun z => n (h x z)) e, a.t⟩
/-- a list of D, or one that H does not know, is changed -/
theorem Bx.mut (a : Bx D H H1) (h : p ∈ D ∨ H p = none) (hl : H1 p = some (.lst xs)) : Bx D H (upd H1 p o) := ⟨fun x u n e => by
  have ne : x ≠ p := fun z => by
    subst z
    rcases h with h | h
    · exact n h
    · rw [h] at e
      cases e
  rw [upd_ne ne]
  exact a.k x u n e, fun x ys e => by
  have ne : x ≠ p := fun z => by
    subst z
    have q := a.t x ys e
    rw [hl] at q
    cases q
  rw [upd_ne ne]
  exact a.t x ys e⟩
theorem Dr.new (a : Dr d H) (h : H p = none) : Dr d (upd H p o) := by
  obtain ⟨ns, e⟩ := a
  exact ⟨ns, by rw [upd_ne (ne_of_none e h)]; exact e⟩
theorem Dr.ne (a : Dr d H) (h : H p = none) : p ≠ d := by
  obtain ⟨ns, e⟩ := a
  exact (ne_of_none e h).symm
theorem Dr.at (a : Dr d H) (h : d ≠ p) : Dr d (upd H p o) := by
  obtain ⟨ns, e⟩ := a
  exact ⟨ns, by rw [upd_ne h]; exact e⟩
/-- free behind, free ahead -/
theorem Bx.free (a : Bx [d] H H1) (hd : Dr d H1) (h : H1 p = none) : H p = none := by
  cases e : H p with
  | none => rfl
  | some u =>
    rw [a.k p u (fun z => by
      have z' := List.mem_singleton.mp z
      exact (hd.ne h) z') e] at h
    cases h
theorem Bx.l1 (a : Bx [d] H H1) (h : p ≠ d) (e : H p = some o) : H1 p = some o := a.k p o (fun z => h (List.mem_singleton.mp z)) e
/-- a tuple made, and what follows -/
theorem new_o {Q : VK} (hd : Dr d H) (k : ∀ p H', p ≠ d → H p = none → H' p = some o → Bx [d] H H' → Dr d H' → Q (.ref p) H') : ∀ p, H p = none → Q (.ref p) (upd H p o) :=
  fun p hp => k p _ (hd.ne hp) hp upd_same (.new hp) (hd.new hp)
end
/-! ### texts: words, pieces -/
/-- a sign below 128 that is no line feed -/
abbrev Gc (c : Nat) : Prop := c ≠ 10 ∧ c < 128
/-- one to n signs, none of them a line feed -/
def Pn (n : Nat) (z : Str) : Prop := 1 ≤ z.length ∧ z.length ≤ n ∧ ∀ c ∈ z.cps.toList, Gc c
theorem Pn.mono {m n : Nat} {z : Str} (h : Pn m z) (l : m ≤ n) : Pn n z := ⟨h.1, Nat.le_trans h.2.1 l, h.2.2⟩
theorem sz_of {n : Nat} (h : n ≤ 100000) : n ≤ sizeLine := Nat.le_trans h (by decide)
theorem sz_lt {n : Nat} (h : n < 100000) : n < sizeLine := Nat.lt_of_lt_of_le h (by decide)
/-- an item by an int that lies within -/
theorem at_int {α : Type} {xs : List α} {i : Int} (h0 : 0 ≤ i) (h1 : i < (xs.length : Int)) : ∃ v, atI xs i = some v ∧ xs[i.toNat]? = some v := by
  obtain ⟨n, rfl⟩ := Int.eq_ofNat_of_zero_le h0
  have hn : n < xs.length := by omega
  refine ⟨xs[n], ?_, ?_⟩
  · exact atI_nat (List.getElem?_eq_getElem hn)
  · show xs[n]? = some xs[n]
    exact List.getElem?_eq_getElem hn
section
variable {P : Program} {w : World} {K : PySem.W.Frag} {mg : Str → Option Value} {base : Heap}
/-! ### _law_take -/
def sp_take : Sp := fun vs H Q _ => ∃ (d : Addr) (m : Int), vs = [.ref d, .int m] ∧ 0 < m ∧ Dr d H ∧ ∀ r H', 0 ≤ r → r < m → Bx [d] H H' → Dr d H' → Q (.int r) H'
theorem ok_l_take (T : Tx K mg) : Cal P w K mg base CX0 1 "_law_take" ["_law_draws_here", "_law_many"] sp_take := by
  refine Cal.of T.d_l_take sc_l_take (fun vs H Q E h => ?len) (fun _ _ _ _ _ _ _ us hl => match us, hl with | [_, _], _ => rfl) (fun f cdv A outer s H vs Q E hr h => ?body)
  case len =>
    obtain ⟨d, m, rfl, _⟩ := h
    rfl
  case body =>
    obtain ⟨d, m, rfl, hm, ⟨ns, hd⟩, q⟩ := h
    refine ⟨_, PSs.nox (pss_cons (ps_if (pt_cmpR op_eq (pe_callB call_len_seq (by rfl) T.b_len PySem.boot_len (pa_cons (pv 0) pa_nil)) pe_int (nomark _)) (pss_one (ps_ret pe_int))
  pss_nil)
  (pss_one (ps_ret (pe_op op_mod (pe_callTy call_int1 (by rfl) T.b_int boot_int (pa_cons (pe_bm0 PySem.F.plainAttrs_list PySem.F.slot_list_pop PySem.F.type_list_pop mt_pop (pv 0)) pa_nil)) (pv 1))))), ?_⟩
    refine ⟨.ref d, rfl, d, _, rfl, .inl (SqL.of hd), rfl, _, rfl, ite2 (fun e => ?_) (fun e => ?_)⟩
    · exact q 0 H (Int.le_refl 0) hm (.refl _ _) ⟨ns, hd⟩
    · have h0 : ns ≠ [] := fun z => by
        subst z
        exact e (decide_eq_true rfl)
      have hl : ns.length - 1 < ns.length := by
        cases ns with
        | nil => exact absurd rfl h0
        | cons a b => show (a :: b).length - 1 < (a :: b).length; rw [List.length_cons]; omega
      have g : (ns.map V.int)[(ns.map V.int).length - 1]? = some (.int ns[ns.length - 1]) := by
        rw [List.length_map, List.getElem?_map, List.getElem?_eq_getElem hl]
        rfl
      refine ⟨.ref d, rfl, .inl ⟨rfl, _, SqL.of hd⟩, d, _, _, rfl, rfl, hd, g, .inl ⟨_, rfl, _, rfl, _, _, rfl, rfl, hm, ?_⟩⟩
      refine q _ _ (Int.emod_nonneg _ (by omega)) (Int.emod_lt_of_pos _ hm) (Bx.mut (.refl _ _) (.inl (List.mem_singleton.mpr rfl)) hd) ⟨ns.dropLast, ?_⟩
      rw [upd_same, List.map_dropLast]
/-! ### _law_pick: a list or a tuple that is not empty -/
def sp_pick (K : PySem.W.Frag) : Sp := fun vs H Q _ => ∃ (d p : Addr) (xs : List V), vs = [.ref d, .ref p] ∧ p ≠ d ∧ (H p = some (.lst xs) ∨ H p = some (.tup xs)) ∧ xs ≠ [] ∧ Dr d H ∧ ∀ v H', v ∈ xs → Bx [d] H H' → Dr d H' → Q v H'
theorem ok_l_pick (T : Tx K mg) : Cal P w K mg base CX0 2 "_law_pick" ["_law_draws_here", "_law_row"] (sp_pick K) := by
  have H_l_take := ok_l_take (P := P) (w := w) (base := base) T
  refine Cal.of T.d_l_pick sc_l_pick (fun vs H Q E h => ?len) (fun _ _ _ _ _ _ _ us hl => match us, hl with | [_, _], _ => rfl) (fun f cdv A outer s H vs Q E hr h => ?body)
  case len =>
    obtain ⟨d, p, xs, rfl, _⟩ := h
    rfl
  case body =>
    obtain ⟨d, p, xs, rfl, hpd, hp, hx, hd, q⟩ := h
    refine ⟨_, PSs.nox (pss_one (ps_ret (pe_ix ix_seq (pv 1) (pe_cal H_l_take (hr.mono (by decide)) pass0 (pa_cons (pv 0) (pa_cons (pe_callB call_len_seq (by rfl) T.b_len PySem.boot_len (pa_cons (pv 1) pa_nil)) pa_nil))) (fun _ _ => rfl)))), ?_⟩
    have hl : 0 < xs.length := List.length_pos_iff.mpr hx
    have hs : SqL K H p xs ∨ SqT K H p xs := hp.imp SqL.of SqT.of
    refine ⟨.ref p, rfl, .ref d, rfl, .ref p, rfl, p, xs, rfl, hs, d, xs.length, rfl, by omega, hd, fun r H1 r0 r1 b1 d1 => ?_⟩
    obtain ⟨v, e1, e2⟩ := at_int r0 r1
    have hv : v ∈ xs := List.mem_of_getElem? e2
    rcases hp with hp | hp
    · exact .inl ⟨p, xs, r, v, rfl, rfl, SqL.of (b1.l1 hpd hp), e1, q v H1 hv b1 d1⟩
    · exact .inr (.inl ⟨p, xs, r, v, rfl, rfl, SqT.of (b1.l1 hpd hp), e1, q v H1 hv b1 d1⟩)
end
end Ev
namespace Ev
open PySem PySem.Spec PyProof.Rows L2
section
variable {P : Program} {w : World} {K : PySem.W.Frag} {mg : Str → Option Value} {base : Heap}
/-! ### _law_size: the script is empty here -/
def sp_size : Sp := fun vs H Q _ => ∃ (d p : Addr), vs = [.ref d, .ref p] ∧ p ≠ d ∧ H p = some (.lst []) ∧ Dr d H ∧ ∀ r H', 0 ≤ r → r < 10 ^ 15 → Bx [d] H H' → Dr d H' → Q (.int r) H'
theorem ok_l_size (T : Tx K mg) : Cal P w K mg base CX0 2 "_law_size" ["_law_draws_here", "_law_script"] sp_size := by
  have H_l_take := ok_l_take (P := P) (w := w) (base := base) T
  refine Cal.of T.d_l_size sc_l_size (fun vs H Q E h => ?len) (fun _ _ _ _ _ _ _ us hl => match us, hl with | [_, _], _ => rfl) (fun f cdv A outer s H vs Q E hr h => ?body)
  case len =>
    obtain ⟨d, p, rfl, _⟩ := h
    rfl
  case body =>
    obtain ⟨d, p, rfl, hpd, hp, hd, q⟩ := h
    refine ⟨_, PSs.nox (pss_cons (ps_set (i := 2) sc_l_size.nd rfl (Or.inl rfl) (pe_cal H_l_take (hr.mono (by decide)) pass0 (pa_cons (pv 0) (pa_cons pe_int pa_nil))))
  (pss_cons (ps_if (pt_cmpR op_lt (pv 2) pe_int (nomark _)) (pss_one (ps_ret (pe_cal H_l_take (hr.mono (by decide)) pass0 (pa_cons (pv 0) (pa_cons pe_int pa_nil)))))
  pss_nil)
  (pss_cons (ps_if (pt_cmpR op_eq (pv 2) pe_int (nomark _)) (pss_one (ps_ret (pe_cal H_l_take (hr.mono (by decide)) pass0 (pa_cons (pv 0) (pa_cons pe_int pa_nil)))))
  pss_nil)
  (pss_cons (ps_if (PW.pt (pw_or (pt_cmpR op_eq (pv 2) pe_int (nomark _)) (pw_or1 (pt_cmpR op_eq (pe_callB call_len_seq (by rfl) T.b_len PySem.boot_len (pa_cons (pv 1) pa_nil)) pe_int (nomark _))))) (pss_cons (ps_set (i := 3) sc_l_size.nd rfl (Or.inl rfl) pe_int)
  (pss_cons (ps_for PassesOwn.never rfl (pi_range1 (by rfl) T.b_range (pa_cons pe_int pa_nil)) (pg_name (i := 4) sc_l_size.nd rfl (Or.inl rfl))
  (pss_one (ps_set (i := 3) sc_l_size.nd rfl (Or.inl rfl) (pe_op op_add (pe_op op_mul (pv 3) pe_int) (pe_cal H_l_take (hr.mono (by decide)) pass0 (pa_cons (pv 0) (pa_cons pe_int pa_nil)))))))
  (pss_one (ps_ret (pv 3)))))
  pss_nil)
  (pss_one (ps_ret (pe_callB call_abs (by rfl) T.b_abs boot_abs (pa_cons (pe_callTy call_int1 (by rfl) T.b_int boot_int (pa_cons (pe_ix ix_list (pv 1) (pe_cal H_l_take (hr.mono (by decide)) pass0 (pa_cons (pv 0) (pa_cons (pe_callB call_len_seq (by rfl) T.b_len PySem.boot_len (pa_cons (pv 1) pa_nil)) pa_nil))) (fun _ _ => rfl)) pa_nil)) pa_nil)))))))), ?_⟩
    refine ⟨.ref d, rfl, d, 8, rfl, by decide, hd, fun kd H1 k0 k1 b1 d1 => ?_⟩
    refine ⟨_, rfl, kd, 5, rfl, rfl, _, rfl, ite2 (fun e => ?_) (fun e => ?_)⟩
    · exact ⟨.ref d, rfl, d, 12, rfl, by decide, d1, fun r H2 r0 r1 b2 d2 => q r H2 r0 (by omega) (b1.trans b2) d2⟩
    refine ⟨_, rfl, rfl, _, rfl, ite2 (fun e => ?_) (fun e => ?_)⟩
    · exact ⟨.ref d, rfl, d, 100, rfl, by decide, d1, fun r H2 r0 r1 b2 d2 => q r H2 r0 (by omega) (b1.trans b2) d2⟩
    have hp1 : H1 p = some (.lst []) := b1.l1 hpd hp
    have loop : (tSeq (tAsg (tC (.int 0)) (gName 3)) (tSeq (tFor (iRng1 (tCons (tC (.int 5)) tNil)) (gName 4) (tAsg (tOp (rI0 fun i j => .int (i + j)) (tOp (rI CMul fun i j => .int (i * j)) (tVar 3) (tC (.int 1000))) (tCal sp_take E0 (tCons (tVar 0) (tCons (tC (.int 1000)) tNil)))) (gName 3))) (tRet (tVar 3))))
        { nx := fun _ H' => Q .non H', rt := Q } [some (.ref d), some (.ref p), some (.int kd), none, none] H1 := by
      refine ⟨5, rfl, by decide, by decide, for_range (n := 5) (fun i σ H' => ∃ (n : Int) (y : Option V), σ = [some (.ref d), some (.ref p), some (.int kd), some (.int n), y] ∧ 0 ≤ n ∧ n < 1000 ^ i ∧ Bx [d] H H' ∧ Dr d H') ⟨0, _, rfl, by decide, by decide, b1, d1⟩ ?_ ?_⟩
      · rintro i σ H' hi ⟨n, y, rfl, n0, n1, b2, d2⟩
        refine ⟨_, rfl, n, 1000, rfl, rfl, .inr (by decide), .ref d, rfl, d, 1000, rfl, by decide, d2, fun r H3 r0 r1 b3 d3 => ?_⟩
        refine ⟨_, _, rfl, rfl, _, _, rfl, by omega, ?_, b2.trans b3, d3⟩
        have e : (1000 : Int) ^ (i + 1) = 1000 ^ i * 1000 := Int.pow_succ ..
        rw [e]
        omega
      · rintro σ H' ⟨n, y, rfl, n0, n1, b2, d2⟩
        exact ⟨_, rfl, q n H' n0 (by
          have e : (1000 : Int) ^ 5 = 10 ^ 15 := by decide
          rw [← e]
          exact n1) b2 d2⟩
    refine ⟨_, rfl, rfl, _, rfl, ite2 (fun e => ?_) (fun e => ?_)⟩
    · exact iteT loop
    · exact ⟨_, rfl, p, [], rfl, .inl (SqL.of hp1), rfl, _, rfl, iteT loop⟩
/-! ### _law_number -/
def sp_number : Sp := fun vs H Q _ => ∃ (d p : Addr), vs = [.ref d, .ref p] ∧ p ≠ d ∧ H p = some (.lst []) ∧ Dr d H ∧ ∀ r H', -(10 ^ 15) < r → r < 10 ^ 15 → Bx [d] H H' → Dr d H' → Q (.int r) H'
theorem ok_l_number (T : Tx K mg) : Cal P w K mg base CX0 3 "_law_number" ["_law_draws_here", "_law_script"] sp_number := by
  have H_l_take := ok_l_take (P := P) (w := w) (base := base) T
  have H_l_size := ok_l_size (P := P) (w := w) (base := base) T
  refine Cal.of T.d_l_number sc_l_number (fun vs H Q E h => ?len) (fun _ _ _ _ _ _ _ us hl => match us, hl with | [_, _], _ => rfl) (fun f cdv A outer s H vs Q E hr h => ?body)
  case len =>
    obtain ⟨d, p, rfl, _⟩ := h
    rfl
  case body =>
    obtain ⟨d, p, rfl, hpd, hp, hd, q⟩ := h
    refine ⟨_, PSs.nox (pss_one (ps_ret (pe_op op_mul (pe_cal H_l_size (hr.mono (by decide)) pass0 (pa_cons (pv 0) (pa_cons (pv 1) pa_nil))) (pe_op op_sub pe_int (pe_op op_mul pe_int (pe_cal H_l_take (hr.mono (by decide)) pass0 (pa_cons (pv 0) (pa_cons pe_int pa_nil)))))))), ?_⟩
    refine ⟨.ref d, rfl, .ref p, rfl, d, p, rfl, hpd, hp, hd, fun n H1 n0 n1 b1 d1 => ?_⟩
    refine ⟨.ref d, rfl, d, 2, rfl, by decide, d1, fun r H2 r0 r1 b2 d2 => ?_⟩
    refine ⟨2, r, rfl, rfl, .inl (by decide), 1, _, rfl, rfl, n, _, rfl, rfl, .inl (by omega), ?_⟩
    have h2 : r = 0 ∨ r = 1 := by omega
    rcases h2 with rfl | rfl
    · exact q _ H2 (by omega) (by omega) (b1.trans b2) d2
    · exact q _ H2 (by omega) (by omega) (b1.trans b2) d2
/-! ### _law_any_value -/
/-- a value of a fact: a word, or an int of at most fifteen digits -/
def Vl : V → Prop
  | .str z => Pn 23 z
  | .int i => -(10 ^ 15) < i ∧ i < 10 ^ 15
  | _ => False
/-- a list of words -/
def Ws (ws : List Str) : Prop := ws ≠ [] ∧ ∀ z ∈ ws, Pn 23 z
def sp_any_value : Sp := fun vs H Q _ => ∃ (d p a : Addr) (ws : List Str), vs = [.ref d, .ref p, .ref a] ∧ p ≠ d ∧ a ≠ d ∧ H p = some (.lst []) ∧ H a = some (.lst (ws.map V.str)) ∧ Ws ws ∧ Dr d H ∧ ∀ v H', Vl v → Bx [d] H H' → Dr d H' → Q v H'
theorem ok_l_any_value (T : Tx K mg) : Cal P w K mg base CX0 4 "_law_any_value" ["_law_draws_here", "_law_script", "_law_words_here"] sp_any_value := by
  have H_l_take := ok_l_take (P := P) (w := w) (base := base) T
  have H_l_pick := ok_l_pick (P := P) (w := w) (base := base) T
  have H_l_number := ok_l_number (P := P) (w := w) (base := base) T
  refine Cal.of T.d_l_any_value sc_l_any_value (fun vs H Q E h => ?len) (fun _ _ _ _ _ _ _ us hl => match us, hl with | [_, _, _], _ => rfl) (fun f cdv A outer s H vs Q E hr h => ?body)
  case len =>
    obtain ⟨d, p, a, ws, rfl, _⟩ := h
    rfl
  case body =>
    obtain ⟨d, p, a, ws, rfl, hpd, had, hp, ha, hw, hd, q⟩ := h
    refine ⟨_, PSs.nox (pss_cons (ps_if (pt_cmpR op_eq (pe_cal H_l_take (hr.mono (by decide)) pass0 (pa_cons (pv 0) (pa_cons pe_int pa_nil))) pe_int (nomark _)) (pss_one (ps_ret (pe_cal H_l_pick (hr.mono (by decide)) pass0 (pa_cons (pv 0) (pa_cons (pv 2) pa_nil)))))
  pss_nil)
  (pss_one (ps_ret (pe_cal H_l_number (hr.mono (by decide)) pass0 (pa_cons (pv 0) (pa_cons (pv 1) pa_nil)))))), ?_⟩
    refine ⟨.ref d, rfl, d, 2, rfl, by decide, hd, fun r H1 r0 r1 b1 d1 => ?_⟩
    refine ⟨rfl, _, rfl, ite2 (fun e => ?_) (fun e => ?_)⟩
    · refine ⟨.ref d, rfl, .ref a, rfl, d, a, ws.map V.str, rfl, had, .inl (b1.l1 had ha), ?_, d1, fun v H2 hv b2 d2 => ?_⟩
      · exact fun z => hw.1 (List.map_eq_nil_iff.mp z)
      · obtain ⟨z, hz, rfl⟩ := List.mem_map.mp hv
        exact q _ H2 (hw.2 z hz) (b1.trans b2) d2
    · refine ⟨.ref d, rfl, .ref p, rfl, d, p, rfl, hpd, b1.l1 hpd hp, d1, fun n H2 n0 n1 b2 d2 => ?_⟩
      exact q _ H2 ⟨n0, n1⟩ (b1.trans b2) d2
end
end Ev
namespace Ev
open PySem PySem.Spec PyProof.Rows L2
/-! ### joined texts -/
theorem len_cps (z : Str) : z.cps.toList.length = z.length := Array.length_toList
theorem join_nil : ∀ zs : List Str, (Txt.join "" zs).cps.toList = (zs.map fun z => z.cps.toList).flatten
  | zs => by
    have e : (Txt.join "" zs).cps.toList = TL.joinL [] (zs.map TL.tl) := by
      rw [TL.join_eq]
      exact TL.tl_join "" zs
    rw [e]
    have f : ∀ l : List (List Nat), TL.joinL [] l = l.flatten := by
      intro l
      induction l with
      | nil => rfl
      | cons a r ih =>
        cases r with
        | nil => show a = [a].flatten; rw [List.flatten_cons, List.flatten_nil, List.append_nil]
        | cons b r =>
          show a ++ ([] ++ TL.joinL [] (b :: r)) = _
          rw [ih, List.nil_append]
          simp only [List.flatten_cons]
    exact f _
theorem app_cps (a b : Str) : (a ++ b).cps.toList = a.cps.toList ++ b.cps.toList := TL.tl_append a b
theorem app_len (a b : Str) : (a ++ b).length = a.length + b.length := by
  rw [← len_cps, app_cps, List.length_append, len_cps, len_cps]
/-- a comprehension's turn without tests -/
theorem tyes {σ : L2.St} {H : Hp} {A B : Hp → Prop} (h : A H) : tYes σ H (fun b H3 => if b = true then A H3 else B H3) := by
  show (if true = true then A H else B H)
  rw [if_pos rfl]
  exact h
/-- one sign -/
def sg (c : Nat) : Str := ⟨#[c]⟩
theorem join_signs (cs : List Nat) : (Txt.join "" (cs.map sg)).cps.toList = cs := by
  rw [join_nil, List.map_map]
  induction cs with
  | nil => rfl
  | cons c r ih =>
    rw [List.map_cons, List.flatten_cons, ih]
    rfl
theorem sum_signs (cs : List Nat) : ((cs.map sg).map (·.length)).sum = cs.length := by
  induction cs with
  | nil => rfl
  | cons c r ih =>
    rw [List.map_cons, List.map_cons, List.sum_cons, ih, List.length_cons]
    show 1 + r.length = r.length + 1
    omega
def abc : Str := "abcdefghijklmnopqrstuvwxyz"
theorem abc_ok : abc.cps.toList.length = 26 ∧ ∀ c ∈ abc.cps.toList, Gc c := by decide +kernel
section
variable {P : Program} {w : World} {K : PySem.W.Frag} {mg : Str → Option Value} {base : Heap}
/-! ### _law_words -/
def IWords (d p : Addr) (H : Hp) (i : Nat) (σ : L2.St) (H' : Hp) : Prop := ∃ (ws : List Str) (y3 y4 y5 : Option V), σ = [some (.ref d), some (.int 10), some (.ref p), y3, y4, y5, none] ∧ H' p = some (.lst (ws.map V.str)) ∧ ws.length = i ∧ (∀ z ∈ ws, Pn 23 z) ∧ Bx [d] H H' ∧ Dr d H'
def DWords (d p : Addr) (H : Hp) (i : Nat) (Q : VK) : Ends := { nx := IWords d p H (i + 1), ct := IWords d p H (i + 1), bk := fun σ H' => tRet (tVar 2) { nx := fun _ H' => Q .non H', rt := Q } σ H', rt := Q }
def sp_words : Sp := fun vs H Q _ => ∃ (d : Addr), vs = [.ref d, .int 10] ∧ Dr d H ∧ ∀ p H' (ws : List Str), p ≠ d → H p = none → H' p = some (.lst (ws.map V.str)) → ws.length = 10 → (∀ z ∈ ws, Pn 23 z) → Bx [d] H H' → Dr d H' → Q (.ref p) H'
theorem ok_l_words (T : Tx K mg) : Cal P w K mg base CX0 2 "_law_words" ["_law_draws_here", "_law_many"] sp_words := by
  have H_l_take := ok_l_take (P := P) (w := w) (base := base) T
  refine Cal.of T.d_l_words sc_l_words (fun vs H Q E h => ?len) (fun _ _ _ _ _ _ _ us hl => match us, hl with | [_, _], _ => rfl) (fun f cdv A outer s H vs Q E hr h => ?body)
  case len =>
    obtain ⟨d, rfl, _⟩ := h
    rfl
  case body =>
    obtain ⟨d, rfl, hd, q⟩ := h
    refine ⟨_, PSs.nox (pss_cons (ps_set (i := 2) sc_l_words.nd rfl (Or.inl rfl) (pe_lst pa_nil))
  (pss_cons (ps_for PassesOwn.never rfl (pi_range1 (by rfl) T.b_range (pa_cons (pv 1) pa_nil)) (pg_name (i := 3) sc_l_words.nd rfl (Or.inl rfl))
  (pss_cons (ps_set (i := 4) sc_l_words.nd rfl (Or.inl rfl) (pe_op op_add pe_int (pe_cal H_l_take (hr.mono (by decide)) pass0 (pa_cons (pv 0) (pa_cons pe_int pa_nil)))))
  (pss_cons (ps_if (pt_cmpR op_eq (pe_cal H_l_take (hr.mono (by decide)) pass0 (pa_cons (pv 0) (pa_cons pe_int pa_nil))) pe_int (nomark _)) (pss_one (ps_set (i := 4) sc_l_words.nd rfl (Or.inl rfl) (pe_op op_add (pe_op op_add (pv 4) pe_int) (pe_cal H_l_take (hr.mono (by decide)) pass0 (pa_cons (pv 0) (pa_cons pe_int pa_nil))))))
  pss_nil)
  (pss_cons (ps_set (i := 5) sc_l_words.nd rfl (Or.inl rfl) (pe_join pe_str (pe_lc (own := [("_law_j", 6)]) (g := gName 6) (by rfl) sc_l_words.nd (pi_range1 (by rfl) T.b_range (pa_cons (pv 4) pa_nil)) (blkOk_by (own := [("_law_j", 6)]) (N := n_l_words) (sc := defScope s_l_words) (by decide +kernel)) (fun _ _ _ _ _ => pg_name (i := 6) sc_l_words.nd rfl (Or.inl rfl)) (fun _ _ _ _ _ => pts_nil) (fun _ _ _ _ _ => (pe_ix ix_str pe_str (pe_cal H_l_take (hr.mono (by decide)) pass0 (pa_cons (pv 0) (pa_cons pe_int pa_nil))) (fun _ _ => rfl))))))
  (pss_cons (ps_if (pt_cmpR op_in_seq (pv 5) (pv 2) rfl) (pss_one (ps_set (i := 5) sc_l_words.nd rfl (Or.inl rfl) (pe_op op_add_str pe_str (pe_ix ix_str pe_str (pv 3) (fun _ _ => rfl)))))
  pss_nil)
  (pss_one (ps_expr (pe_bm PySem.F.plainAttrs_list PySem.F.slot_list_append PySem.F.type_list_append mt_append (pv 2) (pa_cons (pv 5) pa_nil)))))))))
  (pss_one (ps_ret (pv 2))))), ?_⟩
    refine ⟨by decide, fun p hp => ?_⟩
    have npd := hd.ne hp
    refine ⟨_, rfl, 10, rfl, by decide, by decide, for_range (n := 10) (IWords d p H)
      ⟨[], _, _, _, rfl, upd_same, rfl, (fun z hz => nomatch hz), .new hp, hd.new hp⟩ ?_ ?_⟩
    · rintro i σ H1 hi ⟨ws, y3, y4, y5, rfl, hw, hwl, hwp, b1, d1⟩
      refine ⟨.ref d, rfl, d, 3, rfl, by decide, d1, fun s1 H2 s10 s11 b2 d2 => ?_⟩
      refine ⟨1, s1, rfl, rfl, ?_⟩
      refine ⟨.ref d, rfl, d, 12, rfl, by decide, d2, fun s2 H3 s20 s21 b3 d3 => ?_⟩
      have hw3 : H3 p = some (.lst (ws.map V.str)) := b3.l1 npd (b2.l1 npd hw)
      have b13 : Bx [d] H H3 := (b1.trans b2).trans b3
      -- the rest of the turn, the size being m
      have tail : ∀ (m : Int) (H4 : Hp), 1 ≤ m → m ≤ 23 → Bx [d] H H4 → Dr d H4 → H4 p = some (.lst (ws.map V.str)) →
          (tSeq (tAsg (tM1 (fun x xs H Q => ∃ a p, ∃ ys : List Str, x = .str a ∧ xs = [.ref p] ∧ (SqL K H p (ys.map V.str) ∨ SqT K H p (ys.map V.str)) ∧ (ys.map (·.length)).sum + ys.length * a.length ≤ 16777216 ∧ Q (.str (Txt.join a ys)) H)
            (tC (.str "")) (tLc (iRng1 (tCons (tVar 4) tNil)) (gName 6) tYes (tOp rIxS (tC (.str "abcdefghijklmnopqrstuvwxyz")) (tCal sp_take E0 (tCons (tVar 0) (tCons (tC (.int 26)) tNil)))) [6])) (gName 5))
          (tSeq (tIfS (tTest (tOp (rIn K false) (tVar 5) (tVar 2))) (tAsg (tOp (fun x y H Q => ∃ i j, x = .str i ∧ y = .str j ∧ i.length + j.length ≤ sizeLine ∧ Q (.str (i ++ j)) H) (tC (.str "zzzz")) (tOp rIxS (tC (.str "abcdefghijklmnopqrstuvwxyz")) (tVar 3))) (gName 5)) tNext)
          (tDrop (tBM K "list" rAppend (tVar 2) (tCons (tVar 5) tNil)))))
          (DWords d p H i Q) [some (.ref d), some (.int 10), some (.ref p), some (.int (0 + (i : Int))), some (.int m), y5, none] H4 := by
        intro m H4 m1 m2 b4 d4 hw4
        refine ⟨⟨_, rfl⟩, _, rfl, m, rfl, by omega, by omega, fun D hD => ?_⟩
        have nDd := d4.ne hD
        have nDp : p ≠ D := ne_of_none hw4 hD
        refine lc_range (lo := 0) (n := m.toNat) (fun j H' => ∃ cs : List Nat, H' D = some (.lst ((cs.map sg).map V.str)) ∧ cs.length = j ∧ (∀ c ∈ cs, Gc c) ∧ Bx [d] H4 H' ∧ Dr d H')
          ⟨[], upd_same, rfl, (fun c hc => nomatch hc), .new hD, d4.new hD⟩ ?_ ?_
        · rintro j H5 hj ⟨cs, hD5, hc, hcn, b5, d5⟩
          refine ⟨rfl, tyes ?_⟩
          refine ⟨.ref d, rfl, d, 26, rfl, by decide, d5, fun r H6 r0 r1 b6 d6 => ?_⟩
          obtain ⟨c, e1, e2⟩ := at_int (xs := abc.cps.toList) r0 (by rw [abc_ok.1]; exact r1)
          have hD6 := b6.l1 nDd hD5
          refine ⟨abc, r, c, rfl, rfl, by decide, e1, _, hD6, ?_, cs ++ [c], ?_, ?_, fun x hx => ?_, Bx.mut (b5.trans b6) (.inr hD) hD6, d6.at nDd.symm⟩
          · rw [List.length_map, List.length_map]
            exact sz_lt (by omega)
          · rw [upd_same, List.map_append, List.map_append]
            rfl
          · rw [List.length_append, hc]
            rfl
          · rcases List.mem_append.mp hx with hx | hx
            · exact hcn x hx
            · rw [List.mem_singleton.mp hx]
              exact abc_ok.2 c (List.mem_of_getElem? e2)
        · rintro H5 ⟨cs, hD5, hc, hcn, b5, d5⟩
          refine ⟨"", D, cs.map sg, rfl, rfl, .inl (SqL.of hD5), ?_, ?_⟩
          · rw [sum_signs]
            show cs.length + (cs.map sg).length * 0 ≤ 16777216
            omega
          have hz : (Txt.join "" (cs.map sg)).cps.toList = cs := join_signs cs
          have pz : Pn 23 (Txt.join "" (cs.map sg)) := by
            refine ⟨?_, ?_, fun c h => hcn c (by rw [hz] at h; exact h)⟩
            · rw [← len_cps, hz]; omega
            · rw [← len_cps, hz]; omega
          have hw5 : H5 p = some (.lst (ws.map V.str)) := b5.l1 npd hw4
          refine ⟨_, rfl, _, rfl, p, ws.map V.str, rfl, .inl (SqL.of hw5), rfl, ?_, _, rfl, ?_⟩
          · rw [List.all_map]
            exact List.all_eq_true.mpr fun x _ => rfl
          have fin : ∀ z : Str, Pn 23 z → (tDrop (tBM K "list" rAppend (tVar 2) (tCons (tVar 5) tNil))) (DWords d p H i Q) [some (.ref d), some (.int 10), some (.ref p), some (.int (0 + (i : Int))), some (.int m), some (.str z), none] H5 := by
            intro z hz
            refine ⟨.ref p, rfl, .inl ⟨rfl, _, SqL.of hw5⟩, .str z, rfl, p, _, .str z, rfl, rfl, hw5, ?_, ws ++ [z], _, _, _, rfl, ?_, ?_, fun x hx => ?_, ?_, d5.at npd.symm⟩
            · rw [List.length_map]
              exact sz_lt (by omega)
            · rw [upd_same, List.map_append]
              rfl
            · rw [List.length_append, hwl]
              rfl
            · rcases List.mem_append.mp hx with hx | hx
              · exact hwp x hx
              · rw [List.mem_singleton.mp hx]
                exact hz
            · exact Bx.mut (b4.trans b5) (.inr hp) hw5
          refine ite2 (fun e => ?_) (fun e => ?_)
          · obtain ⟨c, e1, e2⟩ := at_int (xs := abc.cps.toList) (i := 0 + (i : Int)) (by omega) (by rw [abc_ok.1]; omega)
            refine ⟨_, rfl, abc, _, c, rfl, rfl, by decide, e1, "zzzz", sg c, rfl, rfl, (show 4 + 1 ≤ sizeLine by decide), fin _ ⟨by rw [app_len]; exact (show 1 ≤ 4 + 1 by decide), by rw [app_len]; exact (show 4 + 1 ≤ 23 by decide), fun x hx => ?_⟩⟩
            have hx' : x ∈ ("zzzz" : Str).cps.toList ++ [c] := by
              rw [app_cps] at hx
              exact hx
            rcases List.mem_append.mp hx' with h | h
            · have h4 : ∀ y ∈ ("zzzz" : Str).cps.toList, Gc y := by decide +kernel
              exact h4 x h
            · rw [List.mem_singleton.mp h]
              exact abc_ok.2 c (List.mem_of_getElem? e2)
          · exact fin _ pz
      refine ⟨rfl, _, rfl, ite2 (fun e => ?_) (fun e => ?_)⟩
      · refine ⟨_, rfl, _, _, rfl, rfl, .ref d, rfl, d, 12, rfl, by decide, d3, fun s3 H4 s30 s31 b4 d4 => ?_⟩
        exact ⟨_, _, rfl, rfl, tail _ H4 (by omega) (by omega) (b13.trans b4) d4 (b4.l1 npd hw3)⟩
      · exact tail _ H3 (by omega) (by omega) b13 d3 hw3
    · rintro σ H1 ⟨ws, y3, y4, y5, rfl, hw, hwl, hwp, b1, d1⟩
      exact ⟨_, rfl, q p H1 ws npd hp hw hwl hwp b1 d1⟩
end
end Ev
namespace Ev
open PySem PySem.Spec PyProof.Rows L2
theorem ix_int {n : Nat} {i : Int} (h0 : 0 ≤ i) (h1 : i < (n : Int)) : ixN n i = some i.toNat := by
  unfold ixN
  rw [if_pos h0, if_pos h1]
theorem at_ints {ns : List Int} {r : Int} (h0 : 0 ≤ r) (h1 : r < (ns.length : Int)) : ∃ n, n ∈ ns ∧ atI (ns.map V.int) r = some (.int n) := by
  obtain ⟨v, e1, e2⟩ := at_int (xs := ns.map V.int) h0 (by rw [List.length_map]; exact h1)
  obtain ⟨n, hn, rfl⟩ := List.mem_map.mp (List.mem_of_getElem? e2)
  exact ⟨n, hn, e1⟩
theorem at_strs {ws : List Str} {r : Int} (h0 : 0 ≤ r) (h1 : r < (ws.length : Int)) : ∃ z, z ∈ ws ∧ ws[r.toNat]? = some z ∧ atI (ws.map V.str) r = some (.str z) := by
  obtain ⟨v, e1, e2⟩ := at_int (xs := ws.map V.str) h0 (by rw [List.length_map]; exact h1)
  rw [List.getElem?_map] at e2
  cases q : ws[r.toNat]? with
  | none => rw [q] at e2; cases e2
  | some z =>
    rw [q] at e2
    have e3 : V.str z = v := Option.some.inj e2
    exact ⟨z, List.mem_of_getElem? q, rfl, by rw [e1, e3]⟩
/-- a slice of a list of texts -/
theorem cut_strs (ws : List Str) (lo hi : Option Int) : ∃ ys : List Str, cutV (ws.map V.str) lo hi = ys.map V.str ∧ (∀ z ∈ ys, z ∈ ws) ∧ ys.length ≤ ws.length := by
  refine ⟨(ws.drop (HT.sIx (ws.map V.str).length 0 lo)).take (HT.sIx (ws.map V.str).length (ws.map V.str).length hi - HT.sIx (ws.map V.str).length 0 lo), ?_, fun z hz => ?_, ?_⟩
  · unfold cutV
    rw [List.map_take, List.map_drop]
  · exact List.mem_of_mem_drop (List.mem_of_mem_take hz)
  · rw [List.length_take, List.length_drop]
    omega
theorem cut_mem {xs : List V} {lo hi : Option Int} {v : V} (h : v ∈ cutV xs lo hi) : v ∈ xs := List.mem_of_mem_drop (List.mem_of_mem_take h)
theorem cut_len (xs : List V) (lo hi : Option Int) : (cutV xs lo hi).length ≤ xs.length := by
  unfold cutV
  rw [List.length_take, List.length_drop]
  omega
theorem cut_le (xs : List V) (n : Nat) : (cutV xs none (some (n : Int))).length ≤ n := by
  unfold cutV
  rw [List.length_take, HT.sIx_nat]
  omega
/-- a comprehension over a text's signs -/
theorem lc_its {z : Str} {g : TG} {tt : TT} {te : TE} {vs : List Nat} {σ : L2.St} {H1 : Hp} {D : Addr} {Qd : Hp → Prop} (Pv : Nat → Hp → Prop) (h0 : Pv 0 (upd H1 D (.lst [])))
    (hs : ∀ i c H, z.cps[i]? = some c → Pv i H → g (.str ⟨#[c]⟩) (wipe σ vs) H fun σ2 H2 => wipe σ2 vs = wipe σ vs ∧ tt σ2 H2 fun b H3 =>
      if b = true then te σ2 H3 fun y H4 => ∃ acc, H4 D = some (.lst acc) ∧ acc.length < sizeLine ∧ Pv (i + 1) (upd H4 D (.lst (acc ++ [y]))) else Pv (i + 1) H3) (hd : ∀ H, Pv z.cps.size H → Qd H) :
    ∃ W : Nat → Nat → Hp → Prop, (∃ m, W 0 m (upd H1 D (.lst []))) ∧ ∀ i m H, W i m H →
      ((Its z).stop i H ∧ Qd H) ∨ ((Its z).go i H ∧ ∃ Nx : Hp → Prop, (∀ H', Nx H' → ∃ m', m' < m ∧ W (i + 1) m' H') ∧ ∀ x H', (Its z).yld i H x H' → g x (wipe σ vs) H' fun σ2 H2 => wipe σ2 vs = wipe σ vs ∧ tt σ2 H2 fun b H3 =>
        if b = true then te σ2 H3 fun y H4 => ∃ acc, H4 D = some (.lst acc) ∧ acc.length < sizeLine ∧ Nx (upd H4 D (.lst (acc ++ [y]))) else Nx H3) := by
  refine ⟨fun i m H => Pv i H ∧ i + m = z.cps.size, ⟨z.cps.size, h0, Nat.zero_add _⟩, fun i m H ⟨p, e⟩ => ?_⟩
  by_cases hi : i < z.cps.size
  · refine .inr ⟨hi, Pv (i + 1), fun H' p' => ⟨m - 1, by omega, p', by omega⟩, fun x H' y => ?_⟩
    obtain ⟨rfl, c, hc, rfl⟩ := y
    exact hs i c H' hc p
  · have e2 : i = z.cps.size := by omega
    subst e2
    exact .inl ⟨Nat.le_refl _, hd H p⟩
def ISome (d p l : Addr) (H : Hp) (i : Nat) (σ : L2.St) (H' : Hp) : Prop := ∃ (ws : List Str) (y3 y4 : Option V), σ = [some (.ref d), some (.int 10), some (.ref p), y3, y4] ∧ H' p = some (.lst (ws.map V.str)) ∧ ws.length = 10 ∧ (∀ z ∈ ws, Pn 23 z) ∧ Bx [d] H H' ∧ Dr d H' ∧ H' l = some (.lst [.str "table", .str "none"])
theorem pn_kw : Pn 23 "table" ∧ Pn 23 "none" := by
  unfold Pn
  decide +kernel
section
variable {P : Program} {w : World} {K : PySem.W.Frag} {mg : Str → Option Value} {base : Heap}
/-! ### _law_some_words -/
theorem ok_l_some_words (T : Tx K mg) : Cal P w K mg base CX0 3 "_law_some_words" ["_law_draws_here", "_law_many"] sp_words := by
  have H_l_take := ok_l_take (P := P) (w := w) (base := base) T
  have H_l_words := ok_l_words (P := P) (w := w) (base := base) T
  refine Cal.of T.d_l_some_words sc_l_some_words (fun vs H Q E h => ?len) (fun _ _ _ _ _ _ _ us hl => match us, hl with | [_, _], _ => rfl) (fun f cdv A outer s H vs Q E hr h => ?body)
  case len =>
    obtain ⟨d, rfl, _⟩ := h
    rfl
  case body =>
    obtain ⟨d, rfl, hd, q⟩ := h
    refine ⟨_, PSs.nox (pss_cons (ps_set (i := 2) sc_l_some_words.nd rfl (Or.inl rfl) (pe_cal H_l_words (hr.mono (by decide)) pass0 (pa_cons (pv 0) (pa_cons (pv 1) pa_nil))))
  (pss_cons (ps_if (pt_cmpR op_eq (pe_cal H_l_take (hr.mono (by decide)) pass0 (pa_cons (pv 0) (pa_cons pe_int pa_nil))) pe_int (nomark _)) (pss_one (ps_for PassesOwn.never rfl (pi_list (pe_lst (pa_cons pe_str (pa_cons pe_str pa_nil)))) (pg_name (i := 3) sc_l_some_words.nd rfl (Or.inl rfl))
  (pss_cons (ps_set (i := 4) sc_l_some_words.nd rfl (Or.inl rfl) (pe_cal H_l_take (hr.mono (by decide)) pass0 (pa_cons (pv 0) (pa_cons (pv 1) pa_nil))))
  (pss_one (ps_if (PW.pt (pw_and (pt_cmpR op_notIn_seq (pv 3) (pv 2) rfl) (pw_and1 (pt_cmpR op_gt (pe_cal H_l_take (hr.mono (by decide)) pass0 (pa_cons (pv 0) (pa_cons pe_int pa_nil))) pe_int (nomark _))))) (pss_one (ps_asg (pv 3) (pg_sub (pv 2) (pv 4) set_list)))
  pss_nil)))))
  pss_nil)
  (pss_one (ps_ret (pv 2))))), ?_⟩
    refine ⟨_, rfl, _, rfl, d, rfl, hd, fun p H1 ws npd hp hw hl hz b1 d1 => ?_⟩
    refine ⟨.ref d, rfl, d, 2, rfl, by decide, d1, fun r H2 r0 r1 b2 d2 => ?_⟩
    have hw2 := b2.l1 npd hw
    have b12 := b1.trans b2
    refine ⟨rfl, _, rfl, ite2 (fun e => ?_) (fun e => ?_)⟩
    · refine ⟨by decide, fun l hl2 => ?_⟩
      have nld := d2.ne hl2
      have nlp : l ≠ p := (ne_of_none hw2 hl2).symm
      have hl0 : H l = none := b12.free d2 hl2
      refine ⟨l, rfl, ⟨_, SqL.of upd_same⟩, for_list (K := K) (a := l) (xs := [.str "table", .str "none"]) (ISome d p l H) ⟨ws, none, none, rfl, by rw [upd_ne nlp.symm]; exact hw2, hl, hz, b12.trans (.new hl2), d2.new hl2, upd_same⟩ ?_ ?_ ?_⟩
      · rintro i σ H' _ ⟨_, _, _, _, _, _, _, _, _, e⟩
        exact SqL.of e
      · rintro i x σ H3 hx ⟨ws, y3, y4, rfl, hw3, hl3, hz3, b3, d3, e3⟩
        obtain ⟨z, rfl, pz⟩ : ∃ z, x = .str z ∧ Pn 23 z := by
          rcases List.mem_cons.mp (List.mem_of_getElem? hx) with h | h
          · exact ⟨_, h, pn_kw.1⟩
          · exact ⟨_, List.mem_singleton.mp h, pn_kw.2⟩
        refine ⟨_, rfl, _, rfl, d, 10, rfl, by decide, d3, fun k H4 k0 k1 b4 d4 => ?_⟩
        have hw4 := b4.l1 npd hw3
        have e4 := b4.l1 nld e3
        have keep : ISome d p l H (i + 1) [some (.ref d), some (.int 10), some (.ref p), some (.str z), some (.int k)] H4 := ⟨ws, _, _, rfl, hw4, hl3, hz3, b3.trans b4, d4, e4⟩
        refine ⟨_, rfl, _, rfl, p, _, rfl, .inl (SqL.of hw4), rfl, ?_, _, rfl, ite2 (fun _ => ?_) (fun _ => iteF keep)⟩
        · rw [List.all_map]
          exact List.all_eq_true.mpr fun x _ => rfl
        refine ⟨.ref d, rfl, d, 4, rfl, by decide, d4, fun r4 H5 r40 r41 b5 d5 => ?_⟩
        have hw5 := b5.l1 npd hw4
        have e5 := b5.l1 nld e4
        refine ⟨_, _, rfl, rfl, _, rfl, ite2 (fun _ => ?_) (fun _ => ⟨ws, _, _, rfl, hw5, hl3, hz3, (b3.trans b4).trans b5, d5, e5⟩)⟩
        refine ⟨_, rfl, _, rfl, _, rfl, p, _, k, k.toNat, rfl, rfl, hw5, ix_int k0 (by rw [List.length_map, hl3]; exact k1), ?_⟩
        refine ⟨ws.set k.toNat z, _, _, rfl, ?_, ?_, fun y hy => ?_, Bx.mut ((b3.trans b4).trans b5) (.inr hp) hw5, d5.at npd.symm, by rw [upd_ne nlp]; exact e5⟩
        · rw [upd_same, List.map_set]
        · rw [List.length_set, hl3]
        · rcases List.mem_or_eq_of_mem_set hy with hy | hy
          · exact hz3 y hy
          · rw [hy]
            exact pz
      · rintro σ H3 ⟨ws, y3, y4, rfl, hw3, hl3, hz3, b3, d3, e3⟩
        exact ⟨_, rfl, q p H3 ws npd hp hw3 hl3 hz3 b3 d3⟩
    · exact ⟨_, rfl, q p H2 ws npd hp hw2 hl hz b12 d2⟩
/-! ### _law_any_chars -/
def sp_any_chars : Sp := fun vs H Q _ => ∃ (d : Addr) (n : Int), vs = [.ref d, .int n] ∧ 0 ≤ n ∧ n ≤ 1000 ∧ Dr d H ∧ ∀ z H', z.cps.toList.length = n.toNat → (∀ c ∈ z.cps.toList, Gc c) → Bx [d] H H' → Dr d H' → Q (.str z) H'
theorem ok_l_any_chars (T : Tx K mg) : Cal P w K mg base CX0 2 "_law_any_chars" ["_law_draws_here", "_law_many"] sp_any_chars := by
  have H_l_take := ok_l_take (P := P) (w := w) (base := base) T
  refine Cal.of T.d_l_any_chars sc_l_any_chars (fun vs H Q E h => ?len) (fun _ _ _ _ _ _ _ us hl => match us, hl with | [_, _], _ => rfl) (fun f cdv A outer s H vs Q E hr h => ?body)
  case len =>
    obtain ⟨d, n, rfl, _⟩ := h
    rfl
  case body =>
    obtain ⟨d, n, rfl, n0, n1, hd, q⟩ := h
    refine ⟨_, PSs.nox (pss_cons (ps_set (i := 2) sc_l_any_chars.nd rfl (Or.inr rfl) pe_str)
  (pss_cons (ps_if (pt_cmpR op_eq (pe_cal H_l_take (hr.mono (by decide)) pass0 (pa_cons (pv 0) (pa_cons pe_int pa_nil))) pe_int (nomark _)) (pss_one (ps_set (i := 2) sc_l_any_chars.nd rfl (Or.inr rfl) pe_str))
  pss_nil)
  (pss_one (ps_ret (pe_join pe_str (pe_lc (own := [("_law_k", 3)]) (g := gName 3) (by rfl) sc_l_any_chars.nd (pi_range1 (by rfl) T.b_range (pa_cons (pv 1) pa_nil)) (blkOk_by (own := [("_law_k", 3)]) (N := n_l_any_chars) (sc := defScope s_l_any_chars) (by decide +kernel)) (fun _ _ _ _ _ => pg_name (i := 3) sc_l_any_chars.nd rfl (Or.inl rfl)) (fun _ _ _ _ _ => pts_nil) (fun _ _ _ _ _ => (pe_ix ix_str (pv 2) (pe_cal H_l_take (hr.mono (by decide)) pass0 (pa_cons (pv 0) (pa_cons (pe_callB call_len_str (by rfl) T.b_len PySem.boot_len (pa_cons (pv 2) pa_nil)) pa_nil))) (fun _ _ => rfl))))))))), ?_⟩
    -- the end, over the signs u
    have fin : ∀ (u : Str) (H2 : Hp), 0 < u.length → u.length ≤ 1000 → (∀ c ∈ u.cps.toList, Gc c) → Bx [d] H H2 → Dr d H2 →
        tRet (tM1 (fun x xs H Q => ∃ a p, ∃ ys : List Str, x = .str a ∧ xs = [.ref p] ∧ (SqL K H p (ys.map V.str) ∨ SqT K H p (ys.map V.str)) ∧ (ys.map (·.length)).sum + ys.length * a.length ≤ 16777216 ∧ Q (.str (Txt.join a ys)) H)
          (tC (.str "")) (tLc (iRng1 (tCons (tVar 1) tNil)) (gName 3) tYes (tOp rIxS (tVar 2) (tCal sp_take E0 (tCons (tVar 0) (tCons (tCB (fun xs H Q => ∃ z, xs = [.str z] ∧ z.length ≤ sizeLine ∧ Q (.int z.length) H) (tCons (tVar 2) tNil)) tNil)))) [3]))
          { nx := fun _ H' => Q .non H', rt := Q } [some (.ref d), some (.int n), some (.str u), none] H2 := by
      intro u H2 u0 u1 un b2 d2
      refine ⟨⟨_, rfl⟩, _, rfl, n, rfl, by omega, by omega, fun D hD => ?_⟩
      have nDd := d2.ne hD
      refine lc_range (lo := 0) (n := n.toNat) (fun j H' => ∃ cs : List Nat, H' D = some (.lst ((cs.map sg).map V.str)) ∧ cs.length = j ∧ (∀ c ∈ cs, Gc c) ∧ Bx [d] H2 H' ∧ Dr d H')
        ⟨[], upd_same, rfl, (fun c hc => nomatch hc), .new hD, d2.new hD⟩ ?_ ?_
      · rintro j H5 hj ⟨cs, hD5, hc, hcn, b5, d5⟩
        refine ⟨rfl, tyes ?_⟩
        refine ⟨_, rfl, .ref d, rfl, _, rfl, u, rfl, sz_of (by omega), d, u.length, rfl, by omega, d5, fun r H6 r0 r1 b6 d6 => ?_⟩
        obtain ⟨c, e1, e2⟩ := at_int (xs := u.cps.toList) r0 (by rw [len_cps]; exact r1)
        have hD6 := b6.l1 nDd hD5
        refine ⟨u, r, c, rfl, rfl, sz_of (by omega), e1, _, hD6, ?_, cs ++ [c], ?_, ?_, fun x hx => ?_, Bx.mut (b5.trans b6) (.inr hD) hD6, d6.at nDd.symm⟩
        · rw [List.length_map, List.length_map]
          exact sz_lt (by omega)
        · rw [upd_same, List.map_append, List.map_append]
          rfl
        · rw [List.length_append, hc]
          rfl
        · rcases List.mem_append.mp hx with hx | hx
          · exact hcn x hx
          · rw [List.mem_singleton.mp hx]
            exact un c (List.mem_of_getElem? e2)
      · rintro H5 ⟨cs, hD5, hc, hcn, b5, d5⟩
        have hz : (Txt.join "" (cs.map sg)).cps.toList = cs := join_signs cs
        refine ⟨"", D, cs.map sg, rfl, rfl, .inl (SqL.of hD5), ?_, q _ H5 (by rw [hz]; exact hc) (by rw [hz]; exact hcn) (b2.trans b5) d5⟩
        rw [sum_signs]
        show cs.length + (cs.map sg).length * 0 ≤ 16777216
        omega
    refine ⟨.ref d, rfl, d, 2, rfl, by decide, hd, fun r H1 r0 r1 b1 d1 => ?_⟩
    refine ⟨rfl, _, rfl, ite2 (fun e => ?_) (fun e => ?_)⟩
    · exact fin _ H1 (by decide +kernel) (by decide +kernel) (by decide +kernel) b1 d1
    · exact fin _ H1 (by decide +kernel) (by decide +kernel) (by decide +kernel) b1 d1
end
end Ev
namespace Ev
open PySem PySem.Spec PyProof.Rows L2
/-- a table, as a value -/
def Tb (H : Hp) (v : V) : Prop := ∃ (p : Addr) (nm : Str) (k r : Int), v = .ref p ∧ H p = some (.tup [.str nm, .int k, .int r]) ∧ Pn 24 nm ∧ 0 ≤ k ∧ 0 ≤ r ∧ k + r ≤ 8
theorem Tb.mono {D : List Addr} {H H' : Hp} {v : V} (h : Tb H v) (b : Bx D H H') : Tb H' v := by
  obtain ⟨p, nm, k, r, e, hp, z⟩ := h
  exact ⟨p, nm, k, r, e, b.t _ _ hp, z⟩
theorem letters20 : ("abcdefghijklmnopqrst" : Str).cps.size = 20 ∧ ∀ c ∈ ("abcdefghijklmnopqrst" : Str).cps.toList, Gc c := by decide +kernel
theorem pn_app {n : Nat} {z : Str} {c : Nat} (h : Pn n z) (hc : Gc c) : Pn (n + 1) (z ++ sg c) := by
  obtain ⟨h1, h2, h3⟩ := h
  refine ⟨by rw [app_len]; omega, by rw [app_len]; exact Nat.add_le_add_right h2 1, fun x hx => ?_⟩
  rw [app_cps] at hx
  rcases List.mem_append.mp hx with hx | hx
  · exact h3 x hx
  · rw [List.mem_singleton.mp hx]
    exact hc
section
variable {P : Program} {w : World} {K : PySem.W.Frag} {mg : Str → Option Value} {base : Heap}
/-! ### _law_any_schema -/
def sp_any_schema : Sp := fun vs H Q _ => ∃ (d a : Addr) (ws : List Str), vs = [.ref d, .ref a] ∧ a ≠ d ∧ H a = some (.lst (ws.map V.str)) ∧ ws.length = 10 ∧ (∀ z ∈ ws, Pn 23 z) ∧ Dr d H ∧
  ∀ p H' (ts : List V), p ≠ d → H' p = some (.tup ts) → ts.length ≤ 20 → (∀ t ∈ ts, Tb H' t) → Bx [d] H H' → Dr d H' → Q (.ref p) H'
theorem ok_l_any_schema (T : Tx K mg) : Cal P w K mg base CX0 2 "_law_any_schema" ["_law_draws_here", "_law_words_here"] sp_any_schema := by
  have H_l_take := ok_l_take (P := P) (w := w) (base := base) T
  refine Cal.of T.d_l_any_schema sc_l_any_schema (fun vs H Q E h => ?len) (fun _ _ _ _ _ _ _ us hl => match us, hl with | [_, _], _ => rfl) (fun f cdv A outer s H vs Q E hr h => ?body)
  case len =>
    obtain ⟨d, a, ws, rfl, _⟩ := h
    rfl
  case body =>
    obtain ⟨d, a, ws, rfl, nad, ha, hl, hz, hd, q⟩ := h
    refine ⟨_, PSs.nox (pss_cons (ps_set (i := 2) sc_l_any_schema.nd rfl (Or.inl rfl) (pe_ix ix_list (pe_lst (pa_cons pe_int (pa_cons pe_int (pa_cons pe_int (pa_cons pe_int (pa_cons pe_int (pa_cons pe_int pa_nil))))))) (pe_cal H_l_take (hr.mono (by decide)) pass0 (pa_cons (pv 0) (pa_cons pe_int pa_nil))) (fun _ _ => rfl)))
  (pss_cons (ps_set (i := 3) sc_l_any_schema.nd rfl (Or.inl rfl) (pe_slice sl_list (pv 1) po_none (po_some (pv 2))))
  (Evl.pss_cut (ps_if (pt_cmpR op_eq (pe_cal H_l_take (hr.mono (by decide)) pass0 (pa_cons (pv 0) (pa_cons pe_int pa_nil))) pe_int (nomark _)) (pss_one (ps_setLc (i := 3) (own := [("_law_letter", 8)]) (g := gName 8) (by rfl) sc_l_any_schema.nd rfl rfl (sw_true rfl rfl rfl (by decide +kernel)) (pi_str pe_str) (blkOk_by (own := [("_law_letter", 8)]) (N := n_l_any_schema) (sc := defScope s_l_any_schema) (by decide +kernel)) (fun _ _ _ _ _ => pg_name (i := 8) sc_l_any_schema.nd rfl (Or.inl rfl)) (fun _ _ _ _ _ => pts_nil) (fun _ _ _ _ _ => (pe_op op_add_str (pe_ix (ix_listK K) (pv 1) pe_int (fun _ _ => rfl)) (pv 8)))))
  pss_nil)
  (pss_cons (ps_set (i := 4) sc_l_any_schema.nd rfl (Or.inl rfl) (pe_lst pa_nil))
  (pss_cons (ps_for PassesOwn.never rfl (pi_list (pe_callB cr_sortedS (by rfl) T.b_sorted boot_sorted (pa_cons (pv 3) pa_nil))) (pg_name (i := 5) sc_l_any_schema.nd rfl (Or.inl rfl))
  (pss_cons (ps_set (i := 6) sc_l_any_schema.nd rfl (Or.inl rfl) (pe_ix ix_list (pe_lst (pa_cons pe_int (pa_cons pe_int (pa_cons pe_int (pa_cons pe_int (pa_cons (pe_cal H_l_take (hr.mono (by decide)) pass0 (pa_cons (pv 0) (pa_cons pe_int pa_nil))) (pa_cons pe_int pa_nil))))))) (pe_cal H_l_take (hr.mono (by decide)) pass0 (pa_cons (pv 0) (pa_cons pe_int pa_nil))) (fun _ _ => rfl)))
  (pss_cons (ps_set (i := 7) sc_l_any_schema.nd rfl (Or.inl rfl) (pe_cal H_l_take (hr.mono (by decide)) pass0 (pa_cons (pv 0) (pa_cons (pe_op op_add (pv 6) pe_int) pa_nil))))
  (pss_one (ps_expr (pe_bm PySem.F.plainAttrs_list PySem.F.slot_list_append PySem.F.type_list_append mt_append (pv 4) (pa_cons (pe_tup (pa_cons (pv 5) (pa_cons (pv 7) (pa_cons (pe_op op_sub (pv 6) (pv 7)) pa_nil)))) pa_nil)))))))
  (pss_one (ps_ret (pe_callTy call_tuple_of (by rfl) T.b_tuple boot_tuple (pa_cons (pv 4) pa_nil))))))))), ?_⟩
    -- _law_many
    refine ⟨by decide, fun l0 hl0 => ?_⟩
    refine ⟨.ref d, rfl, d, 6, rfl, by decide, hd.new hl0, fun r H1 r0 r1 b1 d1 => ?_⟩
    obtain ⟨n, hn, e1⟩ := at_ints (ns := [3, 2, 4, 3, 1, 0]) r0 r1
    have hn4 : 0 ≤ n ∧ n ≤ 4 := (by decide : ∀ n ∈ ([3, 2, 4, 3, 1, 0] : List Int), 0 ≤ n ∧ n ≤ 4) n hn
    have b01 : Bx [d] H H1 := (Bx.new hl0).trans b1
    have ha1 := b01.l1 nad ha
    refine ⟨l0, [.int 3, .int 2, .int 4, .int 3, .int 1, .int 0], r, _, rfl, rfl, SqL.of (b1.l1 (hd.ne hl0) upd_same), e1, ?_⟩
    -- _law_names
    refine ⟨_, rfl, _, rfl, n, rfl, a, _, rfl, SqL.of ha1, fun p2 hp2 => ?_⟩
    have np2 := d1.ne hp2
    obtain ⟨ys, ey, hy1, hy2⟩ := cut_strs ws none (some n)
    have ly : ys.length ≤ 4 := by
      have h1 := cut_le (ws.map V.str) n.toNat
      have e3 : ((n.toNat : Nat) : Int) = n := Int.toNat_of_nonneg hn4.1
      rw [e3, ey, List.length_map] at h1
      omega
    rw [ey]
    have b02 : Bx [d] H (upd H1 p2 (.lst (ys.map V.str))) := b01.trans (.new hp2)
    have d2 : Dr d (upd H1 p2 (.lst (ys.map V.str))) := d1.new hp2
    have ha2 := b02.l1 nad ha
    -- the if: behind it names are at most twenty
    refine ⟨fun σ H' => ∃ (pn : Addr) (nm : List Str) (y : Option V), σ = [some (.ref d), some (.ref a), some (.int n), some (.ref pn), none, none, none, none, none] ∧ H' pn = some (.lst (nm.map V.str)) ∧ nm.length ≤ 20 ∧ (∀ z ∈ nm, Pn 24 z) ∧ Bx [d] H H' ∧ Dr d H', ?_, ?_⟩
    · refine ⟨.ref d, rfl, d, 9, rfl, by decide, d2, fun r3 H3 r30 r31 b3 d3 => ?_⟩
      have b03 := b02.trans b3
      have ha3 := b03.l1 nad ha
      refine ⟨rfl, _, rfl, ite2 (fun e => ?_) (fun e => ?_)⟩
      · obtain ⟨z0, hz0, _, ez0⟩ := at_strs (ws := ws) (r := 0) (Int.le_refl 0) (by omega)
        have pz0 := hz z0 hz0
        refine ⟨_, rfl, fun D hD => ?_⟩
        have nDd := d3.ne hD
        refine lc_its (fun j H' => ∃ nm : List Str, H' D = some (.lst (nm.map V.str)) ∧ nm.length = j ∧ (∀ z ∈ nm, Pn 24 z) ∧ Bx [d] H3 H' ∧ Dr d H') ⟨[], upd_same, rfl, (fun c hc => nomatch hc), .new hD, d3.new hD⟩ ?_ ?_
        · rintro j c H4 hc ⟨nm, hD4, hnl, hnp, b4, d4⟩
          have hj : j < 20 := by
            have := (Array.getElem?_eq_some_iff.mp hc).1
            rw [letters20.1] at this
            exact this
          have hc10 : Gc c := letters20.2 c (Array.mem_toList_iff.mpr (Array.mem_of_getElem? hc))
          refine ⟨rfl, tyes ?_⟩
          refine ⟨_, rfl, a, _, 0, _, rfl, rfl, SqL.of (b4.l1 nad ha3), ez0, _, rfl, z0, sg c, rfl, rfl, ?_, _, hD4, ?_, nm ++ [z0 ++ sg c], ?_, ?_, fun x hx => ?_, Bx.mut b4 (.inr hD) hD4, d4.at nDd.symm⟩
          · show z0.length + 1 ≤ sizeLine
            exact sz_of (by have := pz0.2.1; omega)
          · rw [List.length_map]
            exact sz_lt (by omega)
          · rw [upd_same, List.map_append]
            rfl
          · rw [List.length_append, hnl]
            rfl
          · rcases List.mem_append.mp hx with hx | hx
            · exact hnp x hx
            · rw [List.mem_singleton.mp hx]
              exact pn_app pz0 hc10
        · rintro H4 ⟨nm, hD4, hnl, hnp, b4, d4⟩
          exact ⟨D, nm, none, rfl, hD4, by rw [hnl, letters20.1]; exact Nat.le_refl _, hnp, b03.trans b4, d4⟩
      · exact ⟨p2, ys, none, rfl, b3.l1 np2 upd_same, by omega, fun z h => (hz z (hy1 z h)).mono (by decide), b03, d3⟩
    · rintro σ H3 ⟨pn, nm, y, rfl, hpn, hnl, hnp, b3, d3⟩
      refine ⟨by decide, fun pf hpf => ?_⟩
      have npf := d3.ne hpf
      have hpn' : upd H3 pf (.lst []) pn = some (.lst (nm.map V.str)) := by
        rw [upd_ne (ne_of_none hpn hpf)]
        exact hpn
      have hpf0 : H pf = none := b3.free d3 hpf
      refine ⟨_, rfl, pn, nm, rfl, SqL.of hpn', by omega, fun ss ps perm _ hps => ?_⟩
      have nps : ps ≠ d := (d3.new hpf).ne hps
      have npfs : pf ≠ ps := (ne_of_none upd_same hps)
      have hsl : ss.length ≤ 20 := by rw [perm.length_eq]; exact hnl
      refine ⟨ps, rfl, ⟨_, SqL.of upd_same⟩, for_list (K := K) (a := ps) (xs := ss.map V.str)
        (fun i σ H' => ∃ (ts : List V) (y5 y6 y7 : Option V), σ = [some (.ref d), some (.ref a), some (.int n), some (.ref pn), some (.ref pf), y5, y6, y7, none] ∧ H' pf = some (.lst ts) ∧ ts.length = i ∧ (∀ t ∈ ts, Tb H' t) ∧ H' ps = some (.lst (ss.map V.str)) ∧ Bx [d] H H' ∧ Dr d H')
        ⟨[], _, _, _, rfl, by rw [upd_ne npfs]; exact upd_same, rfl, (fun t ht => nomatch ht), upd_same, (b3.trans (.new hpf)).trans (.new hps), (d3.new hpf).new hps⟩ ?_ ?_ ?_⟩
      · rintro i σ H' _ ⟨_, _, _, _, _, _, _, _, e, _⟩
        exact SqL.of e
      · rintro i x σ H4 hx ⟨ts, y5, y6, y7, rfl, hts, htl, htb, hss, b4, d4⟩
        have hi : i < 20 := by
          have := (List.getElem?_eq_some_iff.mp hx).1
          rw [List.length_map] at this
          omega
        obtain ⟨z, hz', rfl⟩ := List.mem_map.mp (List.mem_of_getElem? hx)
        have pz : Pn 24 z := hnp z (perm.mem_iff.mp hz')
        refine ⟨.ref d, rfl, d, 9, rfl, by decide, d4, fun t9 H5 t90 t91 b5 d5 => ?_⟩
        refine ⟨(by show 6 ≤ sizeLine; decide), fun l1 hl1 => ?_⟩
        have n1 := d5.ne hl1
        refine ⟨.ref d, rfl, d, 6, rfl, by decide, d5.new hl1, fun r6 H6 r60 r61 b6 d6 => ?_⟩
        obtain ⟨tt, htt, e6⟩ := at_ints (ns := [2, 3, 1, 2, t9, 0]) r60 r61
        have htt8 : 0 ≤ tt ∧ tt ≤ 8 := by
          simp only [List.mem_cons, List.not_mem_nil, or_false] at htt
          omega
        refine ⟨l1, [.int 2, .int 3, .int 1, .int 2, .int t9, .int 0], r6, _, rfl, rfl, SqL.of (b6.l1 n1 upd_same), e6, ?_⟩
        have b46 : Bx [d] H4 H6 := (b5.trans (.new hl1)).trans b6
        refine ⟨.ref d, rfl, _, rfl, _, _, rfl, rfl, d, _, rfl, by omega, d6, fun kk H7 kk0 kk1 b7 d7 => ?_⟩
        have b47 := b46.trans b7
        have hts7 := b47.l1 npf hts
        refine ⟨_, rfl, .inl ⟨rfl, _, SqL.of hts7⟩, _, rfl, _, rfl, _, rfl, _, rfl, _, _, rfl, rfl, by show 3 ≤ sizeLine; decide, fun p hp => ?_⟩
        have npp : p ≠ d := d7.ne hp
        have npfp : pf ≠ p := ne_of_none hts7 hp
        have b4n : Bx [d] H4 (upd H7 p (.tup [.str z, .int kk, .int (tt - kk)])) := b47.trans (.new hp)
        have hts8 : upd H7 p (.tup [.str z, .int kk, .int (tt - kk)]) pf = some (.lst ts) := by
          rw [upd_ne npfp]
          exact hts7
        have bm : Bx [d, pf] H4 (upd (upd H7 p (.tup [.str z, .int kk, .int (tt - kk)])) pf (.lst (ts ++ [.ref p]))) := Bx.mut (b4n.sub fun x hx => by rw [List.mem_singleton.mp hx]; exact List.mem_cons_self) (.inl (by simp)) hts8
        have nsf : ps ≠ pf := npfs.symm
        refine ⟨pf, ts, _, rfl, rfl, hts8, sz_lt (by omega), ts ++ [.ref p], _, _, _, rfl, upd_same, ?_, fun t ht => ?_, ?_, Bx.mut (b4.trans b4n) (.inr hpf0) hts8, (d7.new hp).at npf.symm⟩
        · rw [List.length_append, htl]
          rfl
        · rcases List.mem_append.mp ht with ht | ht
          · exact (htb t ht).mono bm
          · rw [List.mem_singleton.mp ht]
            refine ⟨p, z, kk, tt - kk, rfl, ?_, pz, kk0, by omega, by omega⟩
            rw [upd_ne npfp.symm, upd_same]
        · rw [upd_ne nsf]
          exact b4n.l1 nps hss
      · rintro σ H4 ⟨ts, y5, y6, y7, rfl, hts, htl, htb, hss, b4, d4⟩
        refine ⟨_, rfl, pf, ts, rfl, .inl ⟨SqL.of hts, new_o d4 fun p H5 np hp e5 b5 d5 => ?_⟩⟩
        refine q p H5 ts np e5 ?_ (fun t ht => (htb t ht).mono b5) (b4.trans b5) d5
        rw [htl, List.length_map]
        exact hsl
end
end Ev
namespace Ev
open PySem PySem.Spec PyProof.Rows L2
theorem Dr.neT {d t : Addr} {H : Hp} {xs : List V} (h : Dr d H) (e : H t = some (.tup xs)) : t ≠ d := fun z => by
  subst z
  obtain ⟨ns, e2⟩ := h
  rw [e] at e2
  cases e2
/-- a fact of the tables ts, as a value -/
def Fc (ts : List V) (H : Hp) (v : V) : Prop := ∃ (p rw : Addr) (nm : Str) (rs : List V), v = .ref p ∧ H p = some (.tup [.str nm, .ref rw]) ∧ H rw = some (.tup rs) ∧ rs.length ≤ 8 ∧ (∀ x ∈ rs, Vl x) ∧
  ∃ (q : Addr) (k r : Int), V.ref q ∈ ts ∧ H q = some (.tup [.str nm, .int k, .int r])
theorem Fc.mono {ts : List V} {D : List Addr} {H H' : Hp} {v : V} (h : Fc ts H v) (b : Bx D H H') : Fc ts H' v := by
  obtain ⟨p, rw, nm, rs, e, hp, hr, h1, h2, q, k, r, hq, e2⟩ := h
  exact ⟨p, rw, nm, rs, e, b.t _ _ hp, b.t _ _ hr, h1, h2, q, k, r, hq, b.t _ _ e2⟩
theorem cut_from (xs : List V) (n : Nat) : (cutV xs (some (n : Int)) none).length ≤ xs.length - n := by
  unfold cutV
  rw [List.length_take, List.length_drop, HT.sIx_nat, HT.sIx_none]
  omega
theorem sl_keep {K : PySem.W.Frag} {d p a : Addr} {H H' : Hp} {o : HO} {C : Prop} (hd : Dr d H) (h : (p = a ∧ H' = H ∧ C) ∨ (H p = none ∧ H' = upd H p o)) : Bx [d] H H' ∧ Dr d H' := by
  rcases h with ⟨_, rfl, _⟩ | ⟨hp, rfl⟩
  · exact ⟨.refl _ _, hd⟩
  · exact ⟨.new hp, hd.new hp⟩
section
variable {P : Program} {w : World} {K : PySem.W.Frag} {mg : Str → Option Value} {base : Heap}
/-! ### _law_any_facts -/
def sp_any_facts : Sp := fun vs H Q _ => ∃ (d e a t : Addr) (ws : List Str) (ts : List V), vs = [.ref d, .ref e, .ref a, .ref t, .int 8] ∧ e ≠ d ∧ H e = some (.lst []) ∧ a ≠ d ∧ H a = some (.lst (ws.map V.str)) ∧ Ws ws ∧ H t = some (.tup ts) ∧ (∀ x ∈ ts, Tb H x) ∧ Dr d H ∧
  ∀ p H' (fs : List V), p ≠ d → H' p = some (.lst fs) → fs.length ≤ 8 → (∀ x ∈ fs, Fc ts H' x) → Bx [d] H H' → Dr d H' → Q (.ref p) H'
theorem ok_l_any_facts (T : Tx K mg) : Cal P w K mg base CX0 5 "_law_any_facts" ["_law_draws_here", "_law_script", "_law_words_here", "_law_schema", "_law_many"] sp_any_facts := by
  have H_l_take := ok_l_take (P := P) (w := w) (base := base) T
  have H_l_pick := ok_l_pick (P := P) (w := w) (base := base) T
  have H_l_any_value := ok_l_any_value (P := P) (w := w) (base := base) T
  refine Cal.of T.d_l_any_facts sc_l_any_facts (fun vs H Q E h => ?len) (fun _ _ _ _ _ _ _ us hl => match us, hl with | [_, _, _, _, _], _ => rfl) (fun f cdv A outer s H vs Q E hr h => ?body)
  case len =>
    obtain ⟨d, e, a, t, ws, ts, rfl, _⟩ := h
    rfl
  case body =>
    obtain ⟨d, e, a, t, ws, ts, rfl, ned, he, nad, ha, hws, ht, htb, hd, q⟩ := h
    refine ⟨_, PSs.nox (pss_cons (ps_set (i := 5) sc_l_any_facts.nd rfl (Or.inl rfl) (pe_lst pa_nil))
  (pss_cons (ps_for PassesOwn.never rfl (pi_range1 (by rfl) T.b_range (pa_cons (pe_cal H_l_take (hr.mono (by decide)) pass0 (pa_cons (pv 0) (pa_cons (pe_op op_add (pv 4) pe_int) pa_nil))) pa_nil)) (pg_name (i := 6) sc_l_any_facts.nd rfl (Or.inl rfl))
  (pss_one (ps_if (pt_cmpR op_gt (pe_callB call_len_seq (by rfl) T.b_len PySem.boot_len (pa_cons (pv 3) pa_nil)) pe_int (nomark _)) (pss_cons (ps_set (i := 7) sc_l_any_facts.nd rfl (Or.inr rfl) (pe_cal H_l_pick (hr.mono (by decide)) pass0 (pa_cons (pv 0) (pa_cons (pv 3) pa_nil))))
  (pss_cons (ps_setLc (i := 8) (own := [("_law_j", 10)]) (g := gName 10) (by rfl) sc_l_any_facts.nd rfl rfl (sw_true rfl rfl rfl (by decide +kernel)) (pi_range1 (by rfl) T.b_range (pa_cons (pe_op op_add (pe_ix ix_tup (pv 7) pe_int (fun _ _ => rfl)) (pe_ix ix_tup (pv 7) pe_int (fun _ _ => rfl))) pa_nil)) (blkOk_by (own := [("_law_j", 10)]) (N := n_l_any_facts) (sc := defScope s_l_any_facts) (by decide +kernel)) (fun _ _ _ _ _ => pg_name (i := 10) sc_l_any_facts.nd rfl (Or.inl rfl)) (fun _ _ _ _ _ => pts_nil) (fun _ _ _ _ _ => (pe_cal H_l_any_value (hr.mono (by decide)) pass0 (pa_cons (pv 0) (pa_cons (pv 1) (pa_cons (pv 2) pa_nil))))))
  (pss_cons (ps_setLc (i := 9) (own := [("_law_fact", 11)]) (g := gName 11) (by rfl) sc_l_any_facts.nd rfl rfl (sw_true rfl rfl rfl (by decide +kernel)) (pi_list (pv 5)) (blkOk_by (own := [("_law_fact", 11)]) (N := n_l_any_facts) (sc := defScope s_l_any_facts) (by decide +kernel)) (fun _ _ _ _ _ => pg_name (i := 11) sc_l_any_facts.nd rfl (Or.inl rfl)) (fun _ _ _ _ _ => pts_one (pt_cmpR op_eq (pe_ix (ix_tupK K) (pv 11) pe_int (fun _ _ => rfl)) (pe_ix (ix_tupK K) (pv 7) pe_int (fun _ _ => rfl)) (nomark _))) (fun _ _ _ _ _ => (pv 11)))
  (Evl.pss_cut (ps_if (PW.pt (pw_and (pt_cmpR op_gt (pe_callB call_len_seq (by rfl) T.b_len PySem.boot_len (pa_cons (pv 9) pa_nil)) pe_int (nomark _)) (pw_and1 (pt_cmpR op_eq (pe_cal H_l_take (hr.mono (by decide)) pass0 (pa_cons (pv 0) (pa_cons pe_int pa_nil))) pe_int (nomark _))))) (pss_one (ps_set (i := 8) sc_l_any_facts.nd rfl (Or.inl rfl) (pe_op op_cat (pe_callTy call_list_of (by rfl) T.b_list boot_list (pa_cons (pe_slice sl_tupC (pe_ix ix_seq (pe_cal H_l_pick (hr.mono (by decide)) pass0 (pa_cons (pv 0) (pa_cons (pv 9) pa_nil))) pe_int (fun _ _ => rfl)) po_none (po_some (pe_ix ix_tup (pv 7) pe_int (fun _ _ => rfl)))) pa_nil)) (pe_slice sl_list (pv 8) (po_some (pe_ix ix_tup (pv 7) pe_int (fun _ _ => rfl))) po_none))))
  pss_nil)
  (pss_one (ps_expr (pe_bm PySem.F.plainAttrs_list PySem.F.slot_list_append PySem.F.type_list_append mt_append (pv 5) (pa_cons (pe_tup (pa_cons (pe_ix ix_tup (pv 7) pe_int (fun _ _ => rfl)) (pa_cons (pe_callTy call_tuple_of (by rfl) T.b_tuple boot_tuple (pa_cons (pv 8) pa_nil)) pa_nil))) pa_nil))))))))
  pss_nil)))
  (pss_one (ps_ret (pv 5))))), ?_⟩
    refine ⟨by decide, fun pf hpf => ?_⟩
    have npf := hd.ne hpf
    refine ⟨.ref d, rfl, _, rfl, _, _, rfl, rfl, d, _, rfl, by decide, hd.new hpf, fun n H1 n0 n1 b1 d1 => ?_⟩
    refine ⟨n, rfl, by omega, by omega, for_range (n := n.toNat) (fun i σ H' => ∃ (fs : List V) (y6 y7 y8 y9 : Option V), σ = [some (.ref d), some (.ref e), some (.ref a), some (.ref t), some (.int 8), some (.ref pf), y6, y7, y8, y9, none, none] ∧
        H' pf = some (.lst fs) ∧ fs.length ≤ i ∧ (∀ x ∈ fs, Fc ts H' x) ∧ Bx [d] H H' ∧ Dr d H')
      ⟨[], _, _, _, _, rfl, b1.l1 npf upd_same, Nat.le_refl 0, (fun x hx => nomatch hx), (Bx.new hpf).trans b1, d1⟩ ?_ ?_⟩
    · rintro i σ H2 hi ⟨fs, y6, y7, y8, y9, rfl, hfs, hfl, hfc, b2, d2⟩
      have hi8 : i < 9 := by omega
      have ht2 := b2.t _ _ ht
      refine ⟨_, rfl, t, ts, rfl, .inr (SqT.of ht2), _, _, rfl, rfl, _, rfl, ite2 (fun hlen => ?_) (fun _ => ?_)⟩
      rotate_left
      · exact ⟨fs, _, _, _, _, rfl, hfs, Nat.le_succ_of_le hfl, hfc, b2, d2⟩
      have hts : ts ≠ [] := fun z => by
        subst z
        exact absurd (of_decide_eq_true hlen) (by decide)
      -- the table
      refine ⟨_, rfl, _, rfl, d, t, ts, rfl, d2.neT ht2, .inr ht2, hts, d2, fun tv H3 htv b3 d3 => ?_⟩
      have b03 := b2.trans b3
      obtain ⟨tq, nm, k, r, rfl, htq, hnm, hk0, hr0, hkr⟩ := (htb tv htv).mono b03
      have hfs3 := b3.l1 npf hfs
      -- the row
      refine ⟨_, rfl, tq, _, 1, _, rfl, rfl, SqT.of htq, atI_nat (j := 1) rfl, _, rfl, tq, _, 2, _, rfl, rfl, SqT.of htq, atI_nat (j := 2) rfl, k, r, rfl, rfl, k + r, rfl, by omega, by omega, fun D hD => ?_⟩
      have nD := d3.ne hD
      have hD0 : H D = none := b03.free d3 hD
      refine lc_range (lo := 0) (n := (k + r).toNat) (fun j H' => ∃ rs : List V, H' D = some (.lst rs) ∧ rs.length = j ∧ (∀ x ∈ rs, Vl x) ∧ Bx [d] H3 H' ∧ Dr d H')
        ⟨[], upd_same, rfl, (fun x hx => nomatch hx), .new hD, d3.new hD⟩ ?_ ?_
      · rintro j H4 hj ⟨rs, hD4, hrl, hrv, b4, d4⟩
        refine ⟨rfl, tyes ?_⟩
        refine ⟨_, rfl, _, rfl, _, rfl, d, e, a, ws, rfl, ned, nad, b4.l1 ned (b03.l1 ned he), b4.l1 nad (b03.l1 nad ha), hws, d4, fun v H5 hv b5 d5 => ?_⟩
        have hD5 := b5.l1 nD hD4
        refine ⟨rs, hD5, sz_lt (by omega), rs ++ [v], upd_same, ?_, fun x hx => ?_, Bx.mut (b4.trans b5) (.inr hD) hD5, d5.at nD.symm⟩
        · rw [List.length_append, hrl]
          rfl
        · rcases List.mem_append.mp hx with hx | hx
          · exact hrv x hx
          · rw [List.mem_singleton.mp hx]
            exact hv
      rintro H4 ⟨rs, hD4, hrl, hrv, b4, d4⟩
      have b04 := b03.trans b4
      have hfs4 := b4.l1 npf hfs3
      have htq4 := b4.t _ _ htq
      -- the facts alike
      refine ⟨_, rfl, pf, rfl, ⟨_, SqL.of hfs4⟩, fun D2 hD2 => ?_⟩
      have nD2 := d4.ne hD2
      have nDD2 : D ≠ D2 := ne_of_none hD4 hD2
      refine lc_list (K := K) (a := pf) (xs := fs) (fun j H' => ∃ as : List V, H' D2 = some (.lst as) ∧ as.length ≤ j ∧ (∀ x ∈ as, x ∈ fs) ∧ Bx [d] H4 H' ∧ Dr d H')
        ⟨[], upd_same, Nat.le_refl 0, (fun x hx => nomatch hx), .new hD2, d4.new hD2⟩ ?_ ?_ ?_
      · rintro j H5 _ ⟨as, _, _, _, b5, _⟩
        exact SqL.of (b5.l1 npf hfs4)
      · rintro j x H5 hx ⟨as, hD5, hal, ham, b5, d5⟩
        have hxm := List.mem_of_getElem? hx
        have hjl := (List.getElem?_eq_some_iff.mp hx).1
        obtain ⟨fp, frw, fnm, frs, rfl, hfp, _⟩ := (hfc x hxm).mono ((b3.trans b4).trans b5)
        refine ⟨rfl, _, rfl, fp, _, 0, _, rfl, rfl, SqT.of hfp, atI_nat (j := 0) rfl, _, rfl, tq, _, 0, _, rfl, rfl, SqT.of (b5.t _ _ htq4), atI_nat (j := 0) rfl, rfl, _, rfl, ite2 (fun _ => ?_) (fun _ => ?_)⟩
        · refine ⟨_, rfl, as, hD5, sz_lt (by omega), as ++ [.ref fp], upd_same, ?_, fun y hy => ?_, Bx.mut b5 (.inr hD2) hD5, d5.at nD2.symm⟩
          · rw [List.length_append]
            exact Nat.succ_le_succ hal
          · rcases List.mem_append.mp hy with hy | hy
            · exact ham y hy
            · rw [List.mem_singleton.mp hy]
              exact hxm
        · exact ⟨as, hD5, Nat.le_succ_of_le hal, ham, b5, d5⟩
      rintro H5 ⟨as, hD5, hal, ham, b5, d5⟩
      have b05 := b04.trans b5
      have hfs5 := b5.l1 npf hfs4
      have htq5 := b5.t _ _ htq4
      have hD45 := b5.l1 nD hD4
      have b25 : Bx [d] H2 H5 := (b3.trans b4).trans b5
      -- the row that is taken
      refine ⟨fun σ H' => ∃ (pr : Addr) (rs : List V), σ = [some (.ref d), some (.ref e), some (.ref a), some (.ref t), some (.int 8), some (.ref pf), some (.int (0 + (i : Int))), some (.ref tq), some (.ref pr), some (.ref D2), none, none] ∧
          H' pr = some (.lst rs) ∧ rs.length ≤ 8 ∧ (∀ x ∈ rs, Vl x) ∧ Bx [d] H5 H' ∧ Dr d H', ?_, ?_⟩
      · have stay : ∀ H6, Bx [d] H5 H6 → Dr d H6 → ∃ (pr : Addr) (rs : List V), [some (V.ref d), some (.ref e), some (.ref a), some (.ref t), some (.int 8), some (.ref pf), some (.int (0 + (i : Int))), some (.ref tq), some (.ref D), some (.ref D2), none, none] = [some (.ref d), some (.ref e), some (.ref a), some (.ref t), some (.int 8), some (.ref pf), some (.int (0 + (i : Int))), some (.ref tq), some (.ref pr), some (.ref D2), none, none] ∧
          H6 pr = some (.lst rs) ∧ rs.length ≤ 8 ∧ (∀ x ∈ rs, Vl x) ∧ Bx [d] H5 H6 ∧ Dr d H6 := fun H6 b6 d6 => ⟨D, rs, rfl, b6.l1 nD hD45, by omega, hrv, b6, d6⟩
        refine ⟨_, rfl, D2, as, rfl, .inl (SqL.of hD5), _, _, rfl, rfl, _, rfl, ite2 (fun hlen2 => ?_) (fun _ => iteF (stay H5 (.refl _ _) d5))⟩
        have has : as ≠ [] := fun z => by
          subst z
          exact absurd (of_decide_eq_true hlen2) (by decide)
        refine ⟨_, rfl, d, 2, rfl, by decide, d5, fun r2 H6 r20 r21 b6 d6 => ?_⟩
        refine ⟨rfl, _, rfl, ite2 (fun _ => ?_) (fun _ => stay H6 b6 d6)⟩
        refine ⟨_, rfl, _, rfl, d, D2, as, rfl, nD2, .inl (b6.l1 nD2 hD5), has, d6, fun v H7 hv b7 d7 => ?_⟩
        obtain ⟨fp, frw, fnm, frs, rfl, hfp, hfr, hfl8, hfv, _⟩ := (hfc v (ham v hv)).mono ((b25.trans b6).trans b7)
        have b57 := b6.trans b7
        have htq7 := b57.t _ _ htq5
        refine .inr (.inl ⟨fp, _, 1, _, rfl, rfl, SqT.of hfp, atI_nat (j := 1) rfl, ?_⟩)
        refine ⟨_, rfl, tq, _, 1, _, rfl, rfl, SqT.of htq7, atI_nat (j := 1) rfl, k, rfl, ?_⟩
        refine ⟨frw, frs, rfl, SqT.of hfr, fun sp H8 hsp hst => ?_⟩
        obtain ⟨b8, d8⟩ := sl_keep (K := K) d7 hsp
        refine ⟨sp, _, rfl, .inr hst, fun l1 hl1 => ?_⟩
        have nl1 := d8.ne hl1
        have b8n := b8.trans (Bx.new (o := .lst (cutV frs none (some k))) hl1)
        have hD8 := b8n.l1 nD (b57.l1 nD hD45)
        refine ⟨_, rfl, _, rfl, tq, _, 1, _, rfl, rfl, SqT.of (b8n.t _ _ htq7), atI_nat (j := 1) rfl, k, rfl, D, rs, rfl, SqL.of hD8, fun l2 hl2 => ?_⟩
        have n12 : l1 ≠ l2 := ne_of_none upd_same hl2
        have c1 : (cutV frs none (some k)).length ≤ k.toNat := by
          have z := cut_le frs k.toNat
          rw [Int.toNat_of_nonneg hk0] at z
          exact z
        have c2 : (cutV rs (some k) none).length ≤ rs.length - k.toNat := by
          have z := cut_from rs k.toNat
          rw [Int.toNat_of_nonneg hk0] at z
          exact z
        have c3 : (cutV frs none (some k)).length + (cutV rs (some k) none).length ≤ 8 := by omega
        refine ⟨l1, l2, cutV frs none (some k), cutV rs (some k) none, rfl, rfl, by rw [upd_ne n12]; exact upd_same, upd_same, sz_of (by omega), fun pr hpr => ?_⟩
        refine ⟨pr, _, rfl, upd_same, ?_, fun x hx => ?_, ((b57.trans b8n).trans (.new hl2)).trans (.new hpr), ((d8.new hl1).new hl2).new hpr⟩
        · rw [List.length_append]
          exact c3
        · rcases List.mem_append.mp hx with hx | hx
          · exact hfv x (cut_mem hx)
          · exact hrv x (cut_mem hx)
      · rintro σ H6 ⟨pr, rs, rfl, hpr, hrl, hrv, b6, d6⟩
        have b06 := b05.trans b6
        have hfs6 := b6.l1 npf hfs5
        have htq6 := b6.t _ _ htq5
        refine ⟨_, rfl, .inl ⟨rfl, _, SqL.of hfs6⟩, _, rfl, tq, _, 0, _, rfl, rfl, SqT.of htq6, atI_nat (j := 0) rfl, _, rfl, pr, rs, rfl, .inl ⟨SqL.of hpr, fun l hl => ?_⟩⟩
        have nl := d6.ne hl
        refine ⟨by show 2 ≤ sizeLine; decide, fun p hp => ?_⟩
        have np : p ≠ d := (d6.new hl).ne hp
        have nlp : l ≠ p := ne_of_none upd_same hp
        have b6n : Bx [d] H6 (upd (upd H6 l (.tup rs)) p (.tup [.str nm, .ref l])) := (Bx.new hl).trans (.new hp)
        have hfs7 := b6n.l1 npf hfs6
        have nfp : p ≠ pf := (ne_of_none (b6n.l1 npf hfs6 |> fun _ => by rw [upd_ne (ne_of_none hfs6 hl)]; exact hfs6 : upd H6 l (.tup rs) pf = some (.lst fs)) hp).symm
        have nfl : l ≠ pf := (ne_of_none hfs6 hl).symm
        have bm : Bx [d, pf] H6 (upd (upd (upd H6 l (.tup rs)) p (.tup [.str nm, .ref l])) pf (.lst (fs ++ [.ref p]))) := Bx.mut (b6n.sub fun x hx => by rw [List.mem_singleton.mp hx]; exact List.mem_cons_self) (.inl (by simp)) hfs7
        refine ⟨pf, fs, _, rfl, rfl, hfs7, sz_lt (by omega), fs ++ [.ref p], _, _, _, _, rfl, upd_same, ?_, fun x hx => ?_, Bx.mut (b06.trans b6n) (.inr hpf) hfs7, ((d6.new hl).new hp).at npf.symm⟩
        · rw [List.length_append]
          exact Nat.succ_le_succ hfl
        · rcases List.mem_append.mp hx with hx | hx
          · exact ((hfc x hx).mono (b25.trans b6)).mono bm
          · rw [List.mem_singleton.mp hx]
            refine ⟨p, l, nm, rs, rfl, ?_, ?_, hrl, hrv, tq, k, r, htv, bm.t _ _ htq6⟩
            · rw [upd_ne nfp]
              exact upd_same
            · rw [upd_ne nfl, upd_ne nlp]
              exact upd_same
    · rintro σ H2 ⟨fs, y6, y7, y8, y9, rfl, hfs, hfl, hfc, b2, d2⟩
      exact ⟨_, rfl, q pf H2 fs npf hfs (by omega) hfc b2 d2⟩
end
end Ev
namespace Ev
open PySem PySem.Spec PyProof.Rows L2
theorem Dr.b0 {d : Addr} {H H' : Hp} (h : Dr d H) (b : Bx [] H H') : Dr d H' := by
  obtain ⟨ns, e⟩ := h
  exact ⟨ns, b.k _ _ (by simp) e⟩
theorem Bx.any {D : List Addr} {H H' : Hp} (b : Bx [] H H') : Bx D H H' := b.sub fun _ h => nomatch h
theorem Bx.l0 {p : Addr} {o : HO} {H H' : Hp} (b : Bx [] H H') (h : H p = some o) : H' p = some o := b.k p o (by simp) h
theorem Bx.free0 {p : Addr} {H H' : Hp} (b : Bx [] H H') (h : H' p = none) : H p = none := by
  cases e : H p with
  | none => rfl
  | some o =>
    rw [b.l0 e] at h
    cases h
/-! ### ints as texts -/
theorem toString_signs (i : Int) : ((toString i : String) : Str).cps.toList = (if i < 0 then [45] else []) ++ (Nat.toDigits 10 i.natAbs).map Char.toNat := by
  rw [signs_ofString]
  cases i with
  | ofNat m =>
    have e : ¬ (Int.ofNat m < 0) := by
      have := Int.natCast_nonneg m
      exact Int.not_lt.mpr this
    rw [if_neg e]
    show (Nat.repr m).toList.map Char.toNat = _
    rw [Nat.toList_repr]
    rfl
  | negSucc m =>
    rw [if_pos (Int.negSucc_lt_zero m)]
    show ("-" ++ Nat.repr (m + 1)).toList.map Char.toNat = _
    rw [String.toList_append, List.map_append, Nat.toList_repr]
    rfl
theorem digit_ne10 {c : Char} (h : c.isDigit = true) : Gc c.toNat := by
  have h1 := Char.isDigit_iff_toNat.mp h
  have h2 : ('0' : Char).toNat = 48 := rfl
  have h3 : ('9' : Char).toNat = 57 := rfl
  exact ⟨by omega, by omega⟩
theorem pn_int {i : Int} (h0 : -(10 ^ 15) < i) (h1 : i < 10 ^ 15) : Pn 16 (toString i : String) := by
  have hs := toString_signs i
  have hp : 0 < (Nat.toDigits 10 i.natAbs).length := Nat.length_toDigits_pos
  have hl : (Nat.toDigits 10 i.natAbs).length ≤ 15 := (Nat.length_toDigits_le_iff (by decide) (by decide)).mpr (by omega)
  have hn : ((toString i : String) : Str).length = (if i < 0 then [45] else ([] : List Nat)).length + (Nat.toDigits 10 i.natAbs).length := by
    rw [← len_cps, hs, List.length_append, List.length_map]
  have hz : (if i < 0 then [45] else ([] : List Nat)).length ≤ 1 := by
    split
    · exact Nat.le_refl 1
    · exact Nat.zero_le 1
  refine ⟨by omega, by omega, fun c hc => ?_⟩
  rw [hs] at hc
  rcases List.mem_append.mp hc with hc | hc
  · split at hc
    · rw [List.mem_singleton.mp hc]
      decide
    · cases hc
  · obtain ⟨ch, h, rfl⟩ := List.mem_map.mp hc
    exact digit_ne10 (Nat.isDigit_of_mem_toDigits (by decide) (by decide) h)
theorem log_small {i : Int} (h0 : -(10 ^ 15) < i) (h1 : i < 10 ^ 15) : i.natAbs.log2 < 1920 := by
  have h2 : i.natAbs < 2 ^ 50 := by omega
  by_cases hz : i.natAbs = 0
  · rw [hz]
    decide
  · have := (Nat.log2_lt hz).mpr h2
    omega
theorem pn_quote {z : Str} (h : Pn 23 z) : Pn 25 ((("\"" : Str) ++ z) ++ "\"") := by
  obtain ⟨h1, h2, h3⟩ := h
  have e : ((("\"" : Str) ++ z) ++ "\"").length = 1 + z.length + 1 := by
    rw [app_len, app_len]
    rfl
  refine ⟨by omega, by omega, fun c hc => ?_⟩
  rw [app_cps, app_cps] at hc
  have hq : ∀ c ∈ ("\"" : Str).cps.toList, Gc c := by decide +kernel
  rcases List.mem_append.mp hc with hc | hc
  · rcases List.mem_append.mp hc with hc | hc
    · exact hq c hc
    · exact h3 c hc
  · exact hq c hc
section
variable {P : Program} {w : World} {K : PySem.W.Frag} {mg : Str → Option Value} {base : Heap}
/-! ### _law_table: the first table of that name -/
/-- a table that stands at an address: where, its name, its two numbers -/
abbrev TE4 := Addr × Str × Int × Int
def TabAt (H : Hp) (e : TE4) : Prop := H e.1 = some (.tup [.str e.2.1, .int e.2.2.1, .int e.2.2.2])
def refsT (es : List TE4) : List V := es.map fun e => V.ref e.1
def findT (es : List TE4) (nm : Str) : V := match es.find? (fun e => decide (e.2.1 = nm)) with
  | some e => .ref e.1
  | none => .non
def sp_table : Sp := fun vs H Q _ => ∃ (a : Addr) (nm : Str) (es : List TE4), vs = [.ref a, .str nm] ∧ (H a = some (.lst (refsT es)) ∨ H a = some (.tup (refsT es))) ∧ (∀ e ∈ es, TabAt H e) ∧ Q (findT es nm) H
theorem ok_l_table (T : Tx K mg) : Cal P w K mg base CX0 1 "_law_table" ["_law_schema", "_law_name"] sp_table := by
  refine Cal.of T.d_l_table sc_l_table (fun vs H Q E h => ?len) (fun _ _ _ _ _ _ _ us hl => match us, hl with | [_, _], _ => rfl) (fun f cdv A outer s H vs Q E hr h => ?body)
  case len =>
    obtain ⟨a, nm, es, rfl, _⟩ := h
    rfl
  case body =>
    obtain ⟨a, nm, es, rfl, ha, hes, q⟩ := h
    refine ⟨_, PSs.nox (pss_cons (ps_for PassesOwn.never rfl (pi_q (pv 0)) (pg_name (i := 2) sc_l_table.nd rfl (Or.inl rfl))
  (pss_one (ps_if (pt_cmpR op_eq (pe_ix ix_tup (pv 2) pe_int (fun _ _ => rfl)) (pv 1) (nomark _)) (pss_one (ps_ret (pv 2)))
  pss_nil)))
  (pss_one (ps_ret pe_non))), ?_⟩
    let Pv : Nat → L2.St → Hp → Prop := fun i σ H' => ∃ y, σ = [some (.ref a), some (.str nm), y] ∧ H' = H ∧ ∀ e ∈ es.take i, decide (e.2.1 = nm) = false
    have p0 : Pv 0 [some (.ref a), some (.str nm), none] H := ⟨none, rfl, rfl, fun e he => by rw [List.take_zero] at he; cases he⟩
    have turn : ∀ i x σ H', (refsT es)[i]? = some x → Pv i σ H' → ∃ y, (σ.set 2 (some x)) = [some (.ref a), some (.str nm), some x] ∧ H' = H ∧ ∃ e : TE4, e ∈ es ∧ x = .ref e.1 ∧ (decide (e.2.1 = nm) = true → findT es nm = .ref e.1) ∧ (decide (e.2.1 = nm) = false → Pv (i + 1) [some (.ref a), some (.str nm), y] H) ∧ y = some x := by
      rintro i x σ H' hx ⟨y, rfl, rfl, hno⟩
      unfold refsT at hx
      rw [List.getElem?_map] at hx
      cases q : es[i]? with
      | none => rw [q] at hx; cases hx
      | some e =>
        rw [q] at hx
        have ex : V.ref e.1 = x := Option.some.inj hx
        subst ex
        have hi := (List.getElem?_eq_some_iff.mp q).1
        have es_eq : es = es.take i ++ e :: es.drop (i + 1) := by
          have e2 : es.drop i = e :: es.drop (i + 1) := by
            rw [List.drop_eq_getElem_cons hi, (List.getElem?_eq_some_iff.mp q).2]
          rw [← e2, List.take_append_drop]
        refine ⟨some (.ref e.1), rfl, rfl, e, List.mem_of_getElem? q, rfl, fun hd => ?_, fun hd => ?_, rfl⟩
        · unfold findT
          rw [es_eq, List.find?_append, List.find?_eq_none.mpr fun z hz => by rw [hno z hz]; exact Bool.false_ne_true, Option.none_or, List.find?_cons, hd]
        · refine ⟨_, rfl, rfl, fun z hz => ?_⟩
          rw [List.take_add_one, q] at hz
          rcases List.mem_append.mp hz with hz | hz
          · exact hno z hz
          · rw [List.mem_singleton.mp hz]
            exact hd
    have body : ∀ i x σ H' (D : Ends), D.rt = Q → (∀ σ' H', Pv (i + 1) σ' H' → D.nx σ' H') → (refsT es)[i]? = some x → Pv i σ H' →
        tIfS (tTest (tOp rEq (tOp (rIxT K) (tVar 2) (tC (.int 0))) (tVar 1))) (tRet (tVar 2)) tNext D (σ.set 2 (some x)) H' := by
      intro i x σ H' D hD hN hx p
      obtain ⟨y, e1, rfl, e, he, rfl, h1, h2, rfl⟩ := turn i x σ H' hx p
      rw [e1]
      refine ⟨_, rfl, e.1, _, 0, _, rfl, rfl, SqT.of (hes e he), atI_nat (j := 0) rfl, _, rfl, rfl, _, rfl, ite2 (fun hc => ?_) (fun hc => ?_)⟩
      · refine ⟨_, rfl, ?_⟩
        have hc' : V.str e.2.1 = V.str nm := of_decide_eq_true hc
        have hn : e.2.1 = nm := V.str.inj hc'
        rw [hD, ← h1 (decide_eq_true hn)]
        exact q
      · refine hN _ _ (h2 (decide_eq_false fun z => hc (decide_eq_true (by rw [z]))))
    have fin : ∀ σ H', Pv (refsT es).length σ H' → Q .non H' := by
      rintro σ H' ⟨y, rfl, rfl, hno⟩
      have hl : (refsT es).length = es.length := List.length_map ..
      rw [hl, List.take_length] at hno
      have e : findT es nm = .non := by
        unfold findT
        rw [List.find?_eq_none.mpr fun z hz => by rw [hno z hz]; exact Bool.false_ne_true]
      rw [← e]
      exact q
    rcases ha with ha | ha
    · refine .inl ⟨_, rfl, a, rfl, ⟨_, SqL.of ha⟩, for_list (K := K) (a := a) (xs := refsT es) Pv p0 (fun i σ H' _ ⟨_, _, e, _⟩ => by rw [e]; exact SqL.of ha) (fun i x σ H' hx p => ?_) (fun σ H' p => fin σ H' p)⟩
      exact body i x σ H' _ rfl (fun _ _ z => z) hx p
    · refine .inr ⟨_, rfl, a, rfl, ⟨_, SqT.of ha⟩, for_tup (K := K) (a := a) (xs := refsT es) Pv p0 (fun i σ H' _ ⟨_, _, e, _⟩ => by rw [e]; exact SqT.of ha) (fun i x σ H' hx p => ?_) (fun σ H' p => fin σ H' p)⟩
      exact body i x σ H' _ rfl (fun _ _ z => z) hx p
/-! ### _law_piece: of a value -/
def sp_piece : Sp := fun vs H Q _ => ∃ (p : Addr) (v : V), vs = [.ref p] ∧ H p = some (.tup [.str "value", v]) ∧ Vl v ∧ ∀ z, Pn 25 z → Q (.str z) H
theorem ok_l_piece (T : Tx K mg) : Cal P w K mg base CX0 1 "_law_piece" ["_law_term"] sp_piece := by
  refine Cal.of T.d_l_piece sc_l_piece (fun vs H Q E h => ?len) (fun _ _ _ _ _ _ _ us hl => match us, hl with | [_], _ => rfl) (fun f cdv A outer s H vs Q E hr h => ?body)
  case len =>
    obtain ⟨p, v, rfl, _⟩ := h
    rfl
  case body =>
    obtain ⟨p, v, rfl, hp, hv, q⟩ := h
    refine ⟨_, PSs.nox (pss_cons (ps_if (pt_cmpR op_eq (pe_ix ix_tup (pv 0) pe_int (fun _ _ => rfl)) pe_str (nomark _)) (pss_one (ps_ret (pe_ix ix_tup (pv 0) pe_int (fun _ _ => rfl))))
  pss_nil)
  (pss_cons (ps_if (pt_val (pe_callB call_isi (by rfl) T.b_isinstance boot_isinstance (pa_cons (pe_ix ix_tup (pv 0) pe_int (fun _ _ => rfl)) (pa_cons (pe_bltn (v := .ty "str") (by rfl) T.b_str boot_str rfl) pa_nil)))) (pss_one (ps_ret (pe_op op_add_str (pe_op op_add_str pe_str (pe_ix ix_tup (pv 0) pe_int (fun _ _ => rfl))) pe_str)))
  pss_nil)
  (pss_one (ps_ret (pe_callTy call_str_int (by rfl) T.b_str boot_str (pa_cons (pe_ix ix_tup (pv 0) pe_int (fun _ _ => rfl)) pa_nil)))))), ?_⟩
    refine ⟨_, rfl, p, _, 0, _, rfl, rfl, SqT.of hp, atI_nat (j := 0) rfl, rfl, _, rfl, ?_⟩
    have nv : decide (V.str "value" = V.str "var") = false := by decide +kernel
    rw [nv]
    refine iteF ?_
    cases v with
    | str z =>
      refine ⟨_, rfl, p, _, 1, _, rfl, rfl, SqT.of hp, atI_nat (j := 1) rfl, .str z, .ty "str", _, _, true, rfl, .ty "str", .base (.str z), kit_ty (by decide +kernel), true, rfl, iteT ?_⟩
      have hz : Pn 23 z := hv
      refine ⟨_, rfl, p, _, 1, _, rfl, rfl, SqT.of hp, atI_nat (j := 1) rfl, "\"", z, rfl, rfl, ?_, _, "\"", rfl, rfl, ?_, q _ (pn_quote hz)⟩
      · exact sz_of (show 1 + z.length ≤ 100000 by have := hz.2.1; omega)
      · rw [app_len]
        exact sz_of (show 1 + z.length + 1 ≤ 100000 by have := hz.2.1; omega)
    | int i =>
      refine ⟨_, rfl, p, _, 1, _, rfl, rfl, SqT.of hp, atI_nat (j := 1) rfl, .int i, .ty "str", _, _, false, rfl, .ty "str", .base (.int i), kit_ty (by decide +kernel), false, rfl, iteF ?_⟩
      exact ⟨_, rfl, p, _, 1, _, rfl, rfl, SqT.of hp, atI_nat (j := 1) rfl, i, rfl, log_small hv.1 hv.2, q _ ((pn_int hv.1 hv.2).mono (by decide))⟩
    | _ => exact absurd hv (fun z => z)
/-! ### _law_listed -/
def sp_listed : Sp := fun vs H Q _ => ∃ (p : Addr) (zs : List Str), vs = [.ref p] ∧ H p = some (.lst (zs.map V.str)) ∧ (∀ z ∈ zs, Pn 25 z) ∧ zs.length ≤ 1000 ∧
  ∀ q H' (ys : List Str), H q = none → H' q = some (.lst (ys.map V.str)) → ys.length ≤ 2 * zs.length - 1 → (∀ z ∈ ys, Pn 25 z) → Bx [] H H' → Q (.ref q) H'
theorem pn_comma : Pn 25 "," := by
  unfold Pn
  decide +kernel
theorem ok_l_listed (T : Tx K mg) : Cal P w K mg base CX0 1 "_law_listed" ["_law_pieces"] sp_listed := by
  refine Cal.of T.d_l_listed sc_l_listed (fun vs H Q E h => ?len) (fun _ _ _ _ _ _ _ us hl => match us, hl with | [_], _ => rfl) (fun f cdv A outer s H vs Q E hr h => ?body)
  case len =>
    obtain ⟨p, zs, rfl, _⟩ := h
    rfl
  case body =>
    obtain ⟨p, zs, rfl, hp, hz, hzl, q⟩ := h
    refine ⟨_, PSs.nox (pss_cons (ps_set (i := 1) sc_l_listed.nd rfl (Or.inl rfl) (pe_lst pa_nil))
  (pss_cons (ps_for PassesOwn.never rfl (pi_list (pv 0)) (pg_name (i := 2) sc_l_listed.nd rfl (Or.inl rfl))
  (Evl.pss_cut (ps_if (pt_cmpR op_gt (pe_callB call_len_seq (by rfl) T.b_len PySem.boot_len (pa_cons (pv 1) pa_nil)) pe_int (nomark _)) (pss_one (ps_expr (pe_bm PySem.F.plainAttrs_list PySem.F.slot_list_append PySem.F.type_list_append mt_append (pv 1) (pa_cons pe_str pa_nil))))
  pss_nil)
  (pss_one (ps_expr (pe_bm PySem.F.plainAttrs_list PySem.F.slot_list_append PySem.F.type_list_append mt_append (pv 1) (pa_cons (pv 2) pa_nil))))))
  (pss_one (ps_ret (pv 1))))), ?_⟩
    refine ⟨by decide, fun l hl => ?_⟩
    have npl := ne_of_none hp hl
    refine ⟨_, rfl, p, rfl, ⟨_, SqL.of (by rw [upd_ne npl]; exact hp)⟩, for_list (K := K) (a := p) (xs := zs.map V.str) (fun i σ H' => ∃ (ys : List Str) (y : Option V), σ = [some (.ref p), some (.ref l), y] ∧ H' l = some (.lst (ys.map V.str)) ∧
        ys.length ≤ 2 * i - 1 ∧ (∀ z ∈ ys, Pn 25 z) ∧ Bx [] H H' ∧ (i = 0 → ys = [])) ⟨[], _, rfl, upd_same, Nat.zero_le _, (fun z h => nomatch h), .new hl, fun _ => rfl⟩ ?_ ?_ ?_⟩
    · rintro i σ H' _ ⟨_, _, _, _, _, _, b, _⟩
      exact SqL.of (b.l0 hp)
    · rintro i x σ H1 hx ⟨ys, y, rfl, hys, hyl, hyp, b1, hy0⟩
      obtain ⟨z, hzm, rfl⟩ := List.mem_map.mp (List.mem_of_getElem? hx)
      have hi : i < zs.length := by
        have := (List.getElem?_eq_some_iff.mp hx).1
        rw [List.length_map] at this
        exact this
      refine ⟨fun σ H' => ∃ (ys : List Str), σ = [some (.ref p), some (.ref l), some (.str z)] ∧ H' l = some (.lst (ys.map V.str)) ∧ ys.length ≤ 2 * i ∧ (∀ z ∈ ys, Pn 25 z) ∧ Bx [] H H', ?_, ?_⟩
      · refine ⟨_, rfl, l, _, rfl, .inl (SqL.of hys), _, _, rfl, rfl, _, rfl, ite2 (fun hc => ?_) (fun _ => ⟨ys, rfl, hys, by omega, hyp, b1⟩)⟩
        have hi0 : i ≠ 0 := fun z => by
          rw [hy0 z] at hc
          exact absurd (of_decide_eq_true hc) (by decide)
        refine ⟨_, rfl, .inl ⟨rfl, _, SqL.of hys⟩, l, _, _, rfl, rfl, hys, ?_, ys ++ [("," : Str)], rfl, ?_, ?_, fun y hy => ?_, Bx.mut b1 (.inr hl) hys⟩
        · rw [List.length_map]
          exact sz_lt (by omega)
        · rw [upd_same, List.map_append]
          rfl
        · rw [List.length_append, List.length_singleton]
          omega
        · rcases List.mem_append.mp hy with hy | hy
          · exact hyp y hy
          · rw [List.mem_singleton.mp hy]
            exact pn_comma
      · rintro σ H2 ⟨ys2, rfl, hys2, hyl2, hyp2, b2⟩
        refine ⟨_, rfl, .inl ⟨rfl, _, SqL.of hys2⟩, _, rfl, l, _, _, rfl, rfl, hys2, ?_, ys2 ++ [z], _, rfl, ?_, ?_, fun y hy => ?_, Bx.mut b2 (.inr hl) hys2, fun h => by omega⟩
        · rw [List.length_map]
          exact sz_lt (by omega)
        · rw [upd_same, List.map_append]
          rfl
        · rw [List.length_append, List.length_singleton]
          omega
        · rcases List.mem_append.mp hy with hy | hy
          · exact hyp2 y hy
          · rw [List.mem_singleton.mp hy]
            exact hz z hzm
    · rintro σ H1 ⟨ys, y, rfl, hys, hyl, hyp, b1, _⟩
      refine ⟨_, rfl, q l H1 ys hl hys ?_ hyp b1⟩
      rw [List.length_map] at hyl
      exact hyl
end
end Ev
namespace Ev
open PySem PySem.Spec PyProof.Rows L2
theorem cat_step {l b : Addr} {xs zs : List V} {H : Hp} {Q : VK} (hl : H l = some (.lst xs)) (hb : H b = some (.lst zs)) (hz : xs.length + zs.length ≤ 100000)
    (k : ∀ p H', H p = none → H' p = some (.lst (xs ++ zs)) → Bx [] H H' → Q (.ref p) H') : rCat (.ref l) (.ref b) H Q :=
  ⟨l, b, xs, zs, rfl, rfl, hl, hb, sz_of hz, fun p hp => k p _ hp upd_same (.new hp)⟩
/-- a term of a fact: a pair of a text and a value -/
def Tm (H : Hp) (x : V) : Prop := ∃ (p : Addr) (v : V), x = .ref p ∧ H p = some (.tup [.str "value", v]) ∧ Vl v
theorem Tm.mono {D : List Addr} {H H' : Hp} {v : V} (h : Tm H v) (b : Bx D H H') : Tm H' v := by
  obtain ⟨p, v, e, hp, z⟩ := h
  exact ⟨p, v, e, b.t _ _ hp, z⟩
def IPc (D : Addr) (H1 : Hp) (j : Nat) (H' : Hp) : Prop := ∃ zs : List Str, H' D = some (.lst (zs.map V.str)) ∧ zs.length = j ∧ (∀ z ∈ zs, Pn 25 z) ∧ Bx [] H1 H'
theorem ipc_turn {σ : L2.St} {D : Addr} {xs : List V} {H1 H' : Hp} {i : Nat} {x : V} (hs : σ[4]? = some (some x)) (hl : xs.length ≤ 1000) (hD : H1 D = none) (hx : ∀ x ∈ xs, Tm H1 x) (hi : xs[i]? = some x) (p : IPc D H1 i H') :
    tCal sp_piece E0 (tCons (tVar 4) tNil) σ H' fun y H4 => ∃ acc, H4 D = some (.lst acc) ∧ acc.length < sizeLine ∧ IPc D H1 (i + 1) (upd H4 D (.lst (acc ++ [y]))) := by
  obtain ⟨zs, hD', hzl, hzp, b⟩ := p
  obtain ⟨q, v, rfl, hq, hv⟩ := (hx x (List.mem_of_getElem? hi)).mono b
  have hil := (List.getElem?_eq_some_iff.mp hi).1
  refine ⟨_, hs, q, v, rfl, hq, hv, fun z hz => ⟨_, hD', ?_, zs ++ [z], ?_, ?_, fun y hy => ?_, Bx.mut b (.inr hD) hD'⟩⟩
  · rw [List.length_map]
    exact sz_lt (by omega)
  · rw [upd_same, List.map_append]
    rfl
  · rw [List.length_append, hzl]
    rfl
  · rcases List.mem_append.mp hy with hy | hy
    · exact hzp y hy
    · rw [List.mem_singleton.mp hy]
      exact hz
section
variable {P : Program} {w : World} {K : PySem.W.Frag} {mg : Str → Option Value} {base : Heap}
/-! ### _law_atom_pieces -/
def sp_atom_pieces : Sp := fun vs H Q _ => ∃ (t a : Addr) (nm : Str) (k r : Int) (xs : List V), vs = [.ref t, .ref a] ∧ H t = some (.tup [.str nm, .int k, .int r]) ∧ Pn 24 nm ∧ H a = some (.lst xs) ∧ xs.length ≤ 8 ∧ (∀ x ∈ xs, Tm H x) ∧ 0 ≤ k ∧
  ∀ q H' (ys : List Str), H q = none → H' q = some (.lst (ys.map V.str)) → ys.length ≤ 19 → (∀ z ∈ ys, Pn 25 z) → Bx [] H H' → Q (.ref q) H'
theorem pn_brackets : Pn 25 "(" ∧ Pn 25 "|" ∧ Pn 25 ")" := by
  unfold Pn
  decide +kernel
theorem cut_two (xs : List V) (k : Nat) : (cutV xs none (some (k : Int))).length + (cutV xs (some (k : Int)) none).length ≤ xs.length := by
  unfold cutV
  rw [List.length_take, List.length_take, List.length_drop, List.length_drop, HT.sIx_nat, HT.sIx_none, HT.sIx_nat, HT.sIx_none]
  omega
theorem ok_l_atom_pieces (T : Tx K mg) : Cal P w K mg base CX0 2 "_law_atom_pieces" ["_law_table_here", "_law_terms"] sp_atom_pieces := by
  have H_l_piece := ok_l_piece (P := P) (w := w) (base := base) T
  have H_l_listed := ok_l_listed (P := P) (w := w) (base := base) T
  refine Cal.of T.d_l_atom_pieces sc_l_atom_pieces (fun vs H Q E h => ?len) (fun _ _ _ _ _ _ _ us hl => match us, hl with | [_, _], _ => rfl) (fun f cdv A outer s H vs Q E hr h => ?body)
  case len =>
    obtain ⟨t, a, nm, k, r, xs, rfl, _⟩ := h
    rfl
  case body =>
    obtain ⟨t, a, nm, k, r, xs, rfl, ht, hnm, ha, hxl, hx, hk, q⟩ := h
    refine ⟨_, PSs.nox (pss_cons (ps_set (i := 2) sc_l_atom_pieces.nd rfl (Or.inl rfl) (pe_cal H_l_listed (hr.mono (by decide)) pass0 (pa_cons (pe_lc (own := [("_law_term", 4)]) (g := gName 4) (by rfl) sc_l_atom_pieces.nd (pi_list (pe_slice sl_list (pv 1) po_none (po_some (pe_ix ix_tup (pv 0) pe_int (fun _ _ => rfl))))) (blkOk_by (own := [("_law_term", 4)]) (N := n_l_atom_pieces) (sc := defScope s_l_atom_pieces) (by decide +kernel)) (fun _ _ _ _ _ => pg_name (i := 4) sc_l_atom_pieces.nd rfl (Or.inl rfl)) (fun _ _ _ _ _ => pts_nil) (fun _ _ _ _ _ => (pe_cal H_l_piece (hr.mono (by decide)) pass0 (pa_cons (pv 4) pa_nil)))) pa_nil)))
  (pss_cons (ps_set (i := 3) sc_l_atom_pieces.nd rfl (Or.inl rfl) (pe_cal H_l_listed (hr.mono (by decide)) pass0 (pa_cons (pe_lc (own := [("_law_term", 4)]) (g := gName 4) (by rfl) sc_l_atom_pieces.nd (pi_list (pe_slice sl_list (pv 1) (po_some (pe_ix ix_tup (pv 0) pe_int (fun _ _ => rfl))) po_none)) (blkOk_by (own := [("_law_term", 4)]) (N := n_l_atom_pieces) (sc := defScope s_l_atom_pieces) (by decide +kernel)) (fun _ _ _ _ _ => pg_name (i := 4) sc_l_atom_pieces.nd rfl (Or.inl rfl)) (fun _ _ _ _ _ => pts_nil) (fun _ _ _ _ _ => (pe_cal H_l_piece (hr.mono (by decide)) pass0 (pa_cons (pv 4) pa_nil)))) pa_nil)))
  (pss_one (ps_ret (pe_op op_cat (pe_op op_cat (pe_op op_cat (pe_op op_cat (pe_lst (pa_cons (pe_ix ix_tup (pv 0) pe_int (fun _ _ => rfl)) (pa_cons pe_str pa_nil))) (pv 2)) (pe_lst (pa_cons pe_str pa_nil))) (pv 3)) (pe_lst (pa_cons pe_str pa_nil))))))), ?_⟩
    have c12 := cut_two xs k.toNat
    rw [Int.toNat_of_nonneg hk] at c12
    refine ⟨_, rfl, _, rfl, t, _, 1, _, rfl, rfl, SqT.of ht, atI_nat (j := 1) rfl, k, rfl, a, xs, rfl, SqL.of ha, fun pc hpc => ?_⟩
    have b1 : Bx [] H (upd H pc (.lst (cutV xs none (some k)))) := .new hpc
    have l1 := cut_len xs none (some k)
    refine ⟨pc, rfl, ⟨_, SqL.of upd_same⟩, fun D hD => ?_⟩
    refine lc_list (K := K) (a := pc) (xs := cutV xs none (some k)) (IPc D (upd H pc (.lst (cutV xs none (some k))))) ⟨[], upd_same, rfl, (fun z hz => nomatch hz), .new hD⟩ (fun i H' _ ⟨_, _, _, _, b⟩ => SqL.of (b.l0 upd_same))
      (fun i x H' hi p => ⟨rfl, tyes (ipc_turn rfl (by omega) hD (fun x hx' => (hx x (cut_mem hx')).mono b1) hi p)⟩) ?_
    rintro H2 ⟨zs, hzs, hzl, hzp, b2⟩
    refine ⟨D, zs, rfl, hzs, hzp, by omega, fun pl H3 ys hpl hys hyl hyp b3 => ?_⟩
    have b03 := (b1.trans b2).trans b3
    have ht3 := b03.t _ _ ht
    have ha3 := b03.l0 ha
    refine ⟨_, rfl, _, rfl, t, _, 1, _, rfl, rfl, SqT.of ht3, atI_nat (j := 1) rfl, k, rfl, a, xs, rfl, SqL.of ha3, fun pc2 hpc2 => ?_⟩
    have b4 : Bx [] H3 (upd H3 pc2 (.lst (cutV xs (some k) none))) := .new hpc2
    have l2 := cut_len xs (some k) none
    refine ⟨pc2, rfl, ⟨_, SqL.of upd_same⟩, fun D2 hD2 => ?_⟩
    refine lc_list (K := K) (a := pc2) (xs := cutV xs (some k) none) (IPc D2 (upd H3 pc2 (.lst (cutV xs (some k) none)))) ⟨[], upd_same, rfl, (fun z hz => nomatch hz), .new hD2⟩ (fun i H' _ ⟨_, _, _, _, b⟩ => SqL.of (b.l0 upd_same))
      (fun i x H' hi p => ⟨rfl, tyes (ipc_turn rfl (by omega) hD2 (fun x hx' => (hx x (cut_mem hx')).mono (b03.trans b4)) hi p)⟩) ?_
    rintro H5 ⟨zs2, hzs2, hzl2, hzp2, b5⟩
    refine ⟨D2, zs2, rfl, hzs2, hzp2, by omega, fun pr H6 ws hpr hws hwl hwp b6 => ?_⟩
    have b36 := (b4.trans b5).trans b6
    have b06 := b03.trans b36
    have ht6 := b06.t _ _ ht
    have hpl6 := b36.l0 hys
    -- the five lists
    refine ⟨_, rfl, t, _, 0, _, rfl, rfl, SqT.of ht6, atI_nat (j := 0) rfl, by show 2 ≤ sizeLine; decide, fun p1 hp1 => ?_⟩
    have c1 : Bx [] H6 (upd H6 p1 (.lst [.str nm, .str "("])) := .new hp1
    refine ⟨_, rfl, cat_step upd_same (c1.l0 hpl6) (by rw [List.length_map]; show 2 + ys.length ≤ 100000; omega) fun p2 H7 hp2 hp2' c2 => ?_⟩
    refine ⟨by show 1 ≤ sizeLine; decide, fun p3 hp3 => ?_⟩
    have c3 : Bx [] H7 (upd H7 p3 (.lst [.str "|"])) := .new hp3
    refine cat_step (c3.l0 hp2') upd_same (by rw [List.length_append, List.length_map]; show 2 + ys.length + 1 ≤ 100000; omega) fun p4 H8 hp4 hp4' c4 => ?_
    have c18 := ((c1.trans c2).trans c3).trans c4
    refine ⟨_, rfl, cat_step hp4' (c18.l0 hws) (by rw [List.length_append, List.length_append, List.length_map, List.length_map]; show 2 + ys.length + 1 + ws.length ≤ 100000; omega) fun p5 H9 hp5 hp5' c5 => ?_⟩
    refine ⟨by show 1 ≤ sizeLine; decide, fun p6 hp6 => ?_⟩
    have c6 : Bx [] H9 (upd H9 p6 (.lst [.str ")"])) := .new hp6
    refine cat_step (c6.l0 hp5') upd_same (by rw [List.length_append, List.length_append, List.length_append, List.length_map, List.length_map]; show 2 + ys.length + 1 + ws.length + 1 ≤ 100000; omega) fun p7 H10 hp7 hp7' c7 => ?_
    have c09 := ((b06.trans c18).trans c5).trans c6
    refine q p7 H10 ([nm, ("(" : Str)] ++ ys ++ [("|" : Str)] ++ ws ++ [(")" : Str)]) (c09.free0 hp7) ?_ ?_ (fun z hz => ?_) (c09.trans c7)
    · rw [hp7', List.map_append, List.map_append, List.map_append, List.map_append]
      rfl
    · simp only [List.length_append, List.length_cons, List.length_nil]
      omega
    · simp only [List.mem_append, List.mem_cons, List.not_mem_nil, or_false] at hz
      rcases hz with ((((rfl | rfl) | h) | rfl) | h) | rfl
      · exact hnm.mono (by decide)
      · exact pn_brackets.1
      · exact hyp z h
      · exact pn_brackets.2.1
      · exact hwp z h
      · exact pn_brackets.2.2
/-! ### _law_table_pieces -/
def sp_table_pieces : Sp := fun vs H Q _ => ∃ v : V, vs = [v] ∧ Tb H v ∧ ∀ q H' (ys : List Str), H q = none → H' q = some (.lst (ys.map V.str)) → ys.length ≤ 19 → (∀ z ∈ ys, Pn 25 z) → Bx [] H H' → Q (.ref q) H'
theorem ok_l_table_pieces (T : Tx K mg) : Cal P w K mg base CX0 1 "_law_table_pieces" ["_law_table_here"] sp_table_pieces := by
  refine Cal.of T.d_l_table_pieces sc_l_table_pieces (fun vs H Q E h => ?len) (fun _ _ _ _ _ _ _ us hl => match us, hl with | [_], _ => rfl) (fun f cdv A outer s H vs Q E hr h => ?body)
  case len =>
    obtain ⟨v, rfl, _⟩ := h
    rfl
  case body =>
    obtain ⟨v, rfl, ⟨p, nm, k, r, rfl, hp, hnm, hk, hr', hkr⟩, q⟩ := h
    refine ⟨_, PSs.nox (pss_one (ps_ret (pe_lst (pa_cons pe_str (pa_cons (pe_ix ix_tup (pv 0) pe_int (fun _ _ => rfl)) (pa_cons (pe_callTy call_str_int (by rfl) T.b_str boot_str (pa_cons (pe_ix ix_tup (pv 0) pe_int (fun _ _ => rfl)) pa_nil)) (pa_cons (pe_callTy call_str_int (by rfl) T.b_str boot_str (pa_cons (pe_ix ix_tup (pv 0) pe_int (fun _ _ => rfl)) pa_nil)) pa_nil))))))), ?_⟩
    have k0 : -(10 ^ 15) < k ∧ k < 10 ^ 15 := by omega
    have r0 : -(10 ^ 15) < r ∧ r < 10 ^ 15 := by omega
    refine ⟨_, rfl, p, _, 0, _, rfl, rfl, SqT.of hp, atI_nat (j := 0) rfl, _, rfl, p, _, 1, _, rfl, rfl, SqT.of hp, atI_nat (j := 1) rfl, k, rfl, log_small k0.1 k0.2, _, rfl, p, _, 2, _, rfl, rfl, SqT.of hp, atI_nat (j := 2) rfl, r, rfl, log_small r0.1 r0.2,
      by show 4 ≤ sizeLine; decide, fun l hl => ?_⟩
    refine q l _ ["table", nm, (toString k : String), (toString r : String)] hl upd_same (by show 4 ≤ 19; decide) (fun z hz => ?_) (.new hl)
    simp only [List.mem_cons, List.not_mem_nil, or_false] at hz
    rcases hz with rfl | rfl | rfl | rfl
    · exact pn_kw.1.mono (by decide)
    · exact hnm.mono (by decide)
    · exact (pn_int k0.1 k0.2).mono (by decide)
    · exact (pn_int r0.1 r0.2).mono (by decide)
/-! ### _law_fact_pieces -/
def sp_fact_pieces : Sp := fun vs H Q _ => ∃ (t : Addr) (es : List TE4) (v : V), vs = [.ref t, v] ∧ H t = some (.tup (refsT es)) ∧ (∀ e ∈ es, TabAt H e) ∧ (∀ e ∈ es, Tb H (.ref e.1)) ∧ Fc (refsT es) H v ∧
  ∀ q H' (ys : List Str), H q = none → H' q = some (.lst (ys.map V.str)) → ys.length ≤ 19 → (∀ z ∈ ys, Pn 25 z) → Bx [] H H' → Q (.ref q) H'
theorem ok_l_fact_pieces (T : Tx K mg) : Cal P w K mg base CX0 3 "_law_fact_pieces" ["_law_schema", "_law_fact"] sp_fact_pieces := by
  have H_l_table := ok_l_table (P := P) (w := w) (base := base) T
  have H_l_atom_pieces := ok_l_atom_pieces (P := P) (w := w) (base := base) T
  refine Cal.of T.d_l_fact_pieces sc_l_fact_pieces (fun vs H Q E h => ?len) (fun _ _ _ _ _ _ _ us hl => match us, hl with | [_, _], _ => rfl) (fun f cdv A outer s H vs Q E hr h => ?body)
  case len =>
    obtain ⟨t, es, v, rfl, _⟩ := h
    rfl
  case body =>
    obtain ⟨t, es, v, rfl, ht, hes, heb, ⟨p, rw', nm, rs, rfl, hp, hrw, hrl, hrv, tq, k, r, htq, htq'⟩, q⟩ := h
    refine ⟨_, PSs.nox (pss_one (ps_ret (pe_cal H_l_atom_pieces (hr.mono (by decide)) pass0 (pa_cons (pe_cal H_l_table (hr.mono (by decide)) pass0 (pa_cons (pv 0) (pa_cons (pe_ix ix_tup (pv 1) pe_int (fun _ _ => rfl)) pa_nil))) (pa_cons (pe_lc (own := [("_law_value", 2)]) (g := gName 2) (by rfl) sc_l_fact_pieces.nd (pi_tup (pe_ix ix_tup (pv 1) pe_int (fun _ _ => rfl))) (blkOk_by (own := [("_law_value", 2)]) (N := n_l_fact_pieces) (sc := defScope s_l_fact_pieces) (by decide +kernel)) (fun _ _ _ _ _ => pg_name (i := 2) sc_l_fact_pieces.nd rfl (Or.inl rfl)) (fun _ _ _ _ _ => pts_nil) (fun _ _ _ _ _ => (pe_tup (pa_cons pe_str (pa_cons (pv 2) pa_nil))))) pa_nil))))), ?_⟩
    -- the table is found
    obtain ⟨e0, he0, ee0⟩ := List.mem_map.mp htq
    have hn0 : e0.2.1 = nm := by
      have h1 := hes e0 he0
      have h2 : e0.1 = tq := V.ref.inj ee0
      unfold TabAt at h1
      rw [h2, htq'] at h1
      injection h1 with h1
      injection h1 with h1
      injection h1 with h1 _
      injection h1 with h1
      exact h1.symm
    obtain ⟨e1, he1, hf⟩ : ∃ e, e ∈ es ∧ findT es nm = .ref e.1 := by
      unfold findT
      cases hq : es.find? (fun e => decide (e.2.1 = nm)) with
      | some e => exact ⟨e, List.mem_of_find?_eq_some hq, rfl⟩
      | none => exact absurd (decide_eq_true hn0) (List.find?_eq_none.mp hq e0 he0)
    refine ⟨_, rfl, _, rfl, p, _, 0, _, rfl, rfl, SqT.of hp, atI_nat (j := 0) rfl, t, nm, es, rfl, .inr ht, hes, ?_⟩
    obtain ⟨t1, nm1, k1, r1, et1, ht1, hnm1, hk1, hr1, hkr1⟩ := heb e1 he1
    rw [hf, et1]
    refine ⟨_, rfl, p, _, 1, _, rfl, rfl, SqT.of hp, atI_nat (j := 1) rfl, rw', rfl, ⟨_, SqT.of hrw⟩, fun D hD => ?_⟩
    refine lc_tup (K := K) (a := rw') (xs := rs) (fun j H' => ∃ xs : List V, H' D = some (.lst xs) ∧ xs.length = j ∧ (∀ x ∈ xs, Tm H' x) ∧ Bx [] H H') ⟨[], upd_same, rfl, (fun x hx => nomatch hx), .new hD⟩ ?_ ?_ ?_
    · rintro i H' _ ⟨_, _, _, _, b⟩
      exact SqT.of (b.t _ _ hrw)
    · rintro i x H1 hi ⟨xs, hxs, hxl, hxt, b1⟩
      have hil := (List.getElem?_eq_some_iff.mp hi).1
      refine ⟨rfl, tyes ?_⟩
      refine ⟨_, rfl, by show 2 ≤ sizeLine; decide, fun u hu => ?_⟩
      have nDu : D ≠ u := ne_of_none hxs hu
      have hxs' : upd H1 u (.tup [.str "value", x]) D = some (.lst xs) := by
        rw [upd_ne nDu]
        exact hxs
      have b1n : Bx [] H1 (upd H1 u (.tup [.str "value", x])) := .new hu
      have bm : Bx [D] H1 (upd (upd H1 u (.tup [.str "value", x])) D (.lst (xs ++ [.ref u]))) := Bx.mut b1n.any (.inl (by simp)) hxs'
      refine ⟨xs, hxs', sz_lt (by omega), xs ++ [.ref u], upd_same, ?_, fun y hy => ?_, Bx.mut (b1.trans b1n) (.inr hD) hxs'⟩
      · rw [List.length_append, hxl]
        rfl
      · rcases List.mem_append.mp hy with hy | hy
        · exact (hxt y hy).mono bm
        · rw [List.mem_singleton.mp hy]
          refine ⟨u, x, rfl, ?_, hrv x (List.mem_of_getElem? hi)⟩
          rw [upd_ne nDu.symm]
          exact upd_same
    · rintro H1 ⟨xs, hxs, hxl, hxt, b1⟩
      refine ⟨t1, D, nm1, k1, r1, xs, rfl, b1.t _ _ ht1, hnm1, hxs, by omega, hxt, hk1, fun pq H2 ys hpq hys hyl hyp b2 => ?_⟩
      exact q pq H2 ys (b1.free0 hpq) hys hyl hyp (b1.trans b2)
end
end Ev
namespace Ev
open PySem PySem.Spec PyProof.Rows L2
theorem slice_step {K : PySem.W.Frag} {a : Addr} {xs : List V} {lo hi : Option Int} {H : Hp} {Q : VK} (ha : H a = some (.lst xs))
    (k : ∀ p H', H p = none → H' p = some (.lst (cutV xs lo hi)) → Bx [] H H' → Q (.ref p) H') : rSlL K (.ref a) lo hi H Q :=
  ⟨a, xs, rfl, SqL.of ha, fun p hp => k p _ hp upd_same (.new hp)⟩
theorem at_last {cs : List Nat} (h : cs ≠ []) : ∃ c, atI cs (-1) = some c := by
  refine ⟨cs.getLast h, ?_⟩
  have q := atI_last cs.dropLast (cs.getLast h)
  rw [List.dropLast_concat_getLast] at q
  exact q
theorem ne_nil_of {z : Str} (h : 1 ≤ z.length) : z.cps.toList ≠ [] := fun e => by
  have h2 := len_cps z
  rw [e] at h2
  simp at h2
  omega
theorem spaces {u : Str} {n : Nat} (h : u.cps.toList = (List.replicate n (" " : Str).cps.toList).flatten) : u.length = n ∧ ∀ c ∈ u.cps.toList, Gc c := by
  refine ⟨?_, fun c hc => ?_⟩
  · rw [← len_cps, h, flat_len]
    show n * 1 = n
    omega
  · rw [h] at hc
    obtain ⟨l, hl, hcl⟩ := List.mem_flatten.mp hc
    have e := List.eq_of_mem_replicate hl
    rw [e] at hcl
    have h2 : ∀ x ∈ (" " : Str).cps.toList, Gc x := by decide +kernel
    exact h2 c hcl
theorem cutS_cps (z : Str) (k : Nat) : (cutS z none (some (k : Int))).cps.toList = z.cps.toList.take k := by
  unfold cutS
  rw [HT.sIx_nat, HT.sIx_none, List.drop_zero, Nat.sub_zero]
  show List.take (min k z.length) z.cps.toList = _
  rw [← len_cps, ← List.take_eq_take_min]
theorem pn_cut {n : Nat} {z : Str} (h : Pn n z) : Pn n (cutS z none (some 12)) := by
  have e := cutS_cps z 12
  have hl : (cutS z none (some 12)).length = min 12 z.length := by
    rw [← len_cps]
    show (cutS z none (some ((12 : Nat) : Int))).cps.toList.length = _
    rw [e, List.length_take, len_cps]
  obtain ⟨h1, h2, h3⟩ := h
  refine ⟨by omega, by omega, fun c hc => h3 c ?_⟩
  have hc' : c ∈ (cutS z none (some ((12 : Nat) : Int))).cps.toList := hc
  rw [e] at hc'
  exact List.mem_of_mem_take hc'
section
variable {P : Program} {w : World} {K : PySem.W.Frag} {mg : Str → Option Value} {base : Heap}
/-! ### _law_glue -/
def sp_glue : Sp := fun vs H Q _ => ∃ (x y : Str), vs = [.str x, .str y] ∧ 1 ≤ x.length ∧ x.length ≤ 2000 ∧ 1 ≤ y.length ∧ y.length ≤ 2000 ∧ ∀ b H', Bx [] H H' → Q (.bl b) H'
theorem ok_l_glue (T : Tx K mg) : Cal P w K mg base CX0 1 "_law_glue" ["_law_one", "_law_other"] sp_glue := by
  refine Cal.of T.d_l_glue sc_l_glue (fun vs H Q E h => ?len) (fun _ _ _ _ _ _ _ us hl => match us, hl with | [_, _], _ => rfl) (fun f cdv A outer s H vs Q E hr h => ?body)
  case len =>
    obtain ⟨x, y, rfl, _⟩ := h
    rfl
  case body =>
    obtain ⟨x, y, rfl, x1, x2, y1, y2, q⟩ := h
    refine ⟨_, PSs.nox (pss_cons (ps_for PassesOwn.never rfl (pi_list (pe_lst (pa_cons pe_str (pa_cons pe_str pa_nil)))) (pg_name (i := 2) sc_l_glue.nd rfl (Or.inl rfl))
  (pss_one (ps_if (PW.pt (pw_and (pt_cmpR op_in_sign (pe_ix ix_str (pv 0) (pe_un un_neg pe_int) (fun _ _ => rfl)) (pv 2) rfl) (pw_and1 (pt_cmpR op_in_sign (pe_ix ix_str (pv 1) pe_int (fun _ _ => rfl)) (pv 2) rfl)))) (pss_one (ps_ret pe_bl))
  pss_nil)))
  (pss_one (ps_ret pe_bl))), ?_⟩
    obtain ⟨c, hc⟩ := at_last (ne_nil_of x1)
    obtain ⟨c2, hc2, _⟩ := at_int (xs := y.cps.toList) (i := 0) (Int.le_refl 0) (by rw [len_cps]; omega)
    refine ⟨by show 2 ≤ sizeLine; decide, fun l hl => ?_⟩
    refine ⟨l, rfl, ⟨_, SqL.of upd_same⟩, for_list (K := K) (a := l) (xs := [.str "abcdefghijklmnopqrstuvwxyz", .str "0123456789"]) (fun i σ H' => ∃ y2, σ = [some (.str x), some (.str y), y2] ∧ Bx [] H H' ∧ H' l = some (.lst [.str "abcdefghijklmnopqrstuvwxyz", .str "0123456789"]))
      ⟨none, rfl, .new hl, upd_same⟩ (fun i σ H' _ ⟨_, _, _, e⟩ => SqL.of e) ?_ ?_⟩
    · rintro i v σ H' hv ⟨y2, rfl, b, e⟩
      obtain ⟨z, rfl⟩ : ∃ z, v = .str z := by
        have hm := List.mem_of_getElem? hv
        simp only [List.mem_cons, List.not_mem_nil, or_false] at hm
        rcases hm with rfl | rfl
        · exact ⟨_, rfl⟩
        · exact ⟨_, rfl⟩
      refine ⟨_, rfl, 1, rfl, x, _, c, rfl, rfl, sz_of (by omega), hc, _, rfl, c, z, rfl, rfl, _, rfl, ite2 (fun _ => ?_) (fun _ => iteF ⟨_, rfl, b, e⟩)⟩
      refine ⟨_, rfl, y, 0, c2, rfl, rfl, sz_of (by omega), hc2, _, rfl, c2, z, rfl, rfl, _, rfl, ite2 (fun _ => q true H' b) (fun _ => ⟨_, rfl, b, e⟩)⟩
    · rintro σ H' ⟨y2, rfl, b, e⟩
      exact q false H' b
/-! ### _law_spaced -/
def sp_spaced : Sp := fun vs H Q _ => ∃ (d a : Addr) (zs : List Str) (m : Int), vs = [.ref d, .ref a, .int m] ∧ a ≠ d ∧ H a = some (.lst (zs.map V.str)) ∧ (∀ z ∈ zs, Pn 25 z) ∧ zs.length ≤ 50 ∧ 0 ≤ m ∧ m ≤ 1 ∧ Dr d H ∧
  ∀ z H', z.length ≤ 1 + 27 * zs.length → (∀ c ∈ z.cps.toList, Gc c) → Bx [d] H H' → Dr d H' → Q (.str z) H'
theorem ok_l_spaced (T : Tx K mg) : Cal P w K mg base CX0 2 "_law_spaced" ["_law_draws_here", "_law_pieces", "_law_most"] sp_spaced := by
  have H_l_take := ok_l_take (P := P) (w := w) (base := base) T
  have H_l_glue := ok_l_glue (P := P) (w := w) (base := base) T
  refine Cal.of T.d_l_spaced sc_l_spaced (fun vs H Q E h => ?len) (fun _ _ _ _ _ _ _ us hl => match us, hl with | [_, _, _], _ => rfl) (fun f cdv A outer s H vs Q E hr h => ?body)
  case len =>
    obtain ⟨d, a, zs, m, rfl, _⟩ := h
    rfl
  case body =>
    obtain ⟨d, a, zs, m, rfl, nad, ha, hz, hzl, m0, m1, hd, q⟩ := h
    refine ⟨_, PSs.nox (pss_cons (ps_set (i := 3) sc_l_spaced.nd rfl (Or.inl rfl) (pe_op op_mulS pe_str (pe_cal H_l_take (hr.mono (by decide)) pass0 (pa_cons (pv 0) (pa_cons (pe_op op_add (pv 2) pe_int) pa_nil)))))
  (pss_cons (ps_for PassesOwn.never rfl (pi_range1 (by rfl) T.b_range (pa_cons (pe_callB call_len_seq (by rfl) T.b_len PySem.boot_len (pa_cons (pv 1) pa_nil)) pa_nil)) (pg_name (i := 4) sc_l_spaced.nd rfl (Or.inl rfl))
  (pss_cons (ps_set (i := 3) sc_l_spaced.nd rfl (Or.inl rfl) (pe_op op_add_str (pe_op op_add_str (pv 3) (pe_ix ix_list (pv 1) (pv 4) (fun _ _ => rfl))) (pe_op op_mulS pe_str (pe_cal H_l_take (hr.mono (by decide)) pass0 (pa_cons (pv 0) (pa_cons (pe_op op_add (pv 2) pe_int) pa_nil))))))
  (pss_one (ps_if (PW.pt (pw_and (pt_cmpR op_lt (pe_op op_add (pv 4) pe_int) (pe_callB call_len_seq (by rfl) T.b_len PySem.boot_len (pa_cons (pv 1) pa_nil)) (nomark _)) (pw_and1 (pt_val (pe_cal H_l_glue (hr.mono (by decide)) pass0 (pa_cons (pv 3) (pa_cons (pe_ix ix_list (pv 1) (pe_op op_add (pv 4) pe_int) (fun _ _ => rfl)) pa_nil))))))) (pss_one (ps_set (i := 3) sc_l_spaced.nd rfl (Or.inl rfl) (pe_op op_add_str (pv 3) pe_str)))
  pss_nil))))
  (pss_one (ps_ret (pv 3))))), ?_⟩
    refine ⟨_, rfl, _, rfl, _, _, rfl, rfl, d, _, rfl, by omega, hd, fun r H1 r0 r1 b1 d1 => ?_⟩
    refine ⟨" ", r, rfl, rfl, r0, by omega, by decide, fun u hu => ?_⟩
    obtain ⟨u1, u2⟩ := spaces hu
    refine ⟨_, rfl, a, _, rfl, .inl (SqL.of (b1.l1 nad ha)), _, rfl, by omega, by rw [List.length_map]; omega, for_range (n := (((zs.map V.str).length : Nat) : Int).toNat) (fun i σ H' => ∃ (z : Str) (y : Option V), σ = [some (.ref d), some (.ref a), some (.int m), some (.str z), y] ∧ z.length ≤ 1 + 27 * i ∧ (∀ c ∈ z.cps.toList, Gc c) ∧ Bx [d] H H' ∧ Dr d H')
      ⟨u, _, rfl, by omega, u2, b1, d1⟩ ?_ ?_⟩
    · rintro i σ H2 hi ⟨z, y, rfl, hzl2, hzn, b2, d2⟩
      have hin : i < zs.length := by
        rw [List.length_map] at hi
        omega
      have ha2 := b2.l1 nad ha
      obtain ⟨p, hpm, _, ep⟩ := at_strs (ws := zs) (r := 0 + (i : Int)) (by omega) (by omega)
      have pp := hz p hpm
      have hp2 := pp.2.1
      have hp1 := pp.1
      refine ⟨_, rfl, _, rfl, _, rfl, a, _, _, _, rfl, rfl, SqL.of ha2, ep, z, p, rfl, rfl, sz_of (by omega), ?_⟩
      refine ⟨_, rfl, _, rfl, _, _, rfl, rfl, d, _, rfl, by omega, d2, fun r3 H3 r30 r31 b3 d3 => ?_⟩
      refine ⟨" ", r3, rfl, rfl, r30, by omega, by decide, fun u3 hu3 => ?_⟩
      obtain ⟨u31, u32⟩ := spaces hu3
      have l1 : (z ++ p).length = z.length + p.length := app_len z p
      have l2 : ((z ++ p) ++ u3).length = z.length + p.length + u3.length := by rw [app_len, l1]
      have b23 := b2.trans b3
      have ha3 := b23.l1 nad ha
      have n2 : ∀ c ∈ ((z ++ p) ++ u3).cps.toList, Gc c := by
        intro c hc
        rw [app_cps, app_cps] at hc
        rcases List.mem_append.mp hc with hc | hc
        · rcases List.mem_append.mp hc with hc | hc
          · exact hzn c hc
          · exact pp.2.2 c hc
        · exact u32 c hc
      refine ⟨_, u3, rfl, rfl, sz_of (by omega), ?_⟩
      have nope : ∀ H4, Bx [] H3 H4 → ∃ (z' : Str) (y' : Option V), [some (V.ref d), some (.ref a), some (.int m), some (.str ((z ++ p) ++ u3)), some (.int (0 + (i : Int)))] = [some (.ref d), some (.ref a), some (.int m), some (.str z'), y'] ∧ z'.length ≤ 1 + 27 * (i + 1) ∧ (∀ c ∈ z'.cps.toList, Gc c) ∧ Bx [d] H H4 ∧ Dr d H4 :=
        fun H4 b4 => ⟨_, _, rfl, by omega, n2, b23.trans b4.any, d3.b0 b4⟩
      refine ⟨_, rfl, _, _, rfl, rfl, _, rfl, a, _, rfl, .inl (SqL.of ha3), _, _, rfl, rfl, _, rfl, ite2 (fun hlt => ?_) (fun _ => iteF (nope H3 (.refl _ _)))⟩
      have hlt' : 0 + (i : Int) + 1 < (((zs.map V.str).length : Nat) : Int) := of_decide_eq_true hlt
      rw [List.length_map] at hlt'
      obtain ⟨p4, hpm4, _, ep4⟩ := at_strs (ws := zs) (r := 0 + (i : Int) + 1) (by omega) hlt'
      have pp4 := hz p4 hpm4
      refine ⟨_, rfl, _, rfl, _, rfl, _, _, rfl, rfl, a, _, _, _, rfl, rfl, SqL.of ha3, ep4, _, p4, rfl, by omega, by omega, pp4.1, by have := pp4.2.1; omega, fun bb H4 b4 => ?_⟩
      refine ⟨bb, rfl, ite2 (fun _ => ?_) (fun _ => nope H4 b4)⟩
      have l5 : ((((z ++ p) ++ u3) ++ (" " : Str)).length) = z.length + p.length + u3.length + 1 := by rw [app_len, l2]; rfl
      refine ⟨_, rfl, _, " ", rfl, rfl, sz_of (show ((z ++ p) ++ u3).length + 1 ≤ 100000 by omega), _, _, rfl, by omega, fun c hc => ?_, b23.trans b4.any, d3.b0 b4⟩
      rw [app_cps] at hc
      rcases List.mem_append.mp hc with hc | hc
      · exact n2 c hc
      · have h2 : ∀ x ∈ (" " : Str).cps.toList, Gc x := by decide +kernel
        exact h2 c hc
    · rintro σ H2 ⟨z, y, rfl, hzl2, hzn, b2, d2⟩
      refine ⟨_, rfl, q z H2 ?_ hzn b2 d2⟩
      rw [List.length_map] at hzl2
      exact hzl2
/-! ### _law_short -/
def sp_short : Sp := fun vs H Q _ => ∃ (p : Addr) (zs : List Str), vs = [.ref p] ∧ H p = some (.lst (zs.map V.str)) ∧ (∀ z ∈ zs, Pn 25 z) ∧ zs.length ≤ 1000 ∧
  ∀ q H' (ys : List Str), H q = none → H' q = some (.lst (ys.map V.str)) → ys.length ≤ zs.length → (∀ z ∈ ys, Pn 25 z) → Bx [] H H' → Q (.ref q) H'
theorem ok_l_short (T : Tx K mg) : Cal P w K mg base CX0 1 "_law_short" ["_law_pieces"] sp_short := by
  refine Cal.of T.d_l_short sc_l_short (fun vs H Q E h => ?len) (fun _ _ _ _ _ _ _ us hl => match us, hl with | [_], _ => rfl) (fun f cdv A outer s H vs Q E hr h => ?body)
  case len =>
    obtain ⟨p, zs, rfl, _⟩ := h
    rfl
  case body =>
    obtain ⟨p, zs, rfl, hp, hz, hzl, q⟩ := h
    refine ⟨_, PSs.nox (pss_cons (ps_set (i := 1) sc_l_short.nd rfl (Or.inl rfl) (pe_lst pa_nil))
  (pss_cons (ps_for PassesOwn.never rfl (pi_list (pv 0)) (pg_name (i := 2) sc_l_short.nd rfl (Or.inl rfl))
  (Evl.pss_cut (ps_if (pt_cmpR op_in_sign (pe_ix ix_str (pv 2) pe_int (fun _ _ => rfl)) pe_str rfl) (pss_one (ps_set (i := 2) sc_l_short.nd rfl (Or.inl rfl) (pe_slice sl_str (pv 2) po_none (po_some pe_int))))
  pss_nil)
  (pss_one (ps_expr (pe_bm PySem.F.plainAttrs_list PySem.F.slot_list_append PySem.F.type_list_append mt_append (pv 1) (pa_cons (pv 2) pa_nil))))))
  (pss_one (ps_ret (pv 1))))), ?_⟩
    refine ⟨by decide, fun l hl => ?_⟩
    have npl := ne_of_none hp hl
    refine ⟨_, rfl, p, rfl, ⟨_, SqL.of (by rw [upd_ne npl]; exact hp)⟩, for_list (K := K) (a := p) (xs := zs.map V.str) (fun i σ H' => ∃ (ys : List Str) (y : Option V), σ = [some (.ref p), some (.ref l), y] ∧ H' l = some (.lst (ys.map V.str)) ∧
        ys.length = i ∧ (∀ z ∈ ys, Pn 25 z) ∧ Bx [] H H') ⟨[], _, rfl, upd_same, rfl, (fun z h => nomatch h), .new hl⟩ ?_ ?_ ?_⟩
    · rintro i σ H' _ ⟨_, _, _, _, _, _, b⟩
      exact SqL.of (b.l0 hp)
    · rintro i x σ H1 hx ⟨ys, y, rfl, hys, hyl, hyp, b1⟩
      obtain ⟨z, hzm, rfl⟩ := List.mem_map.mp (List.mem_of_getElem? hx)
      have hi : i < zs.length := by
        have := (List.getElem?_eq_some_iff.mp hx).1
        rw [List.length_map] at this
        exact this
      have pz := hz z hzm
      obtain ⟨c, hc, _⟩ := at_int (xs := z.cps.toList) (i := 0) (Int.le_refl 0) (by rw [len_cps]; have := pz.1; omega)
      have zsz : z.length ≤ sizeLine := sz_of (by have := pz.2.1; omega)
      refine ⟨fun σ H' => ∃ (z : Str), σ = [some (.ref p), some (.ref l), some (.str z)] ∧ H' = H1 ∧ Pn 25 z, ?_, ?_⟩
      · refine ⟨_, rfl, z, 0, c, rfl, rfl, zsz, hc, c, _, rfl, rfl, _, rfl, ite2 (fun _ => ?_) (fun _ => ⟨z, rfl, rfl, pz⟩)⟩
        exact ⟨_, rfl, 12, rfl, z, rfl, zsz, _, rfl, rfl, pn_cut pz⟩
      · rintro σ H2 ⟨z2, rfl, rfl, pz2⟩
        refine ⟨_, rfl, .inl ⟨rfl, _, SqL.of hys⟩, _, rfl, l, _, _, rfl, rfl, hys, ?_, ys ++ [z2], _, rfl, ?_, ?_, fun y hy => ?_, Bx.mut b1 (.inr hl) hys⟩
        · rw [List.length_map]
          exact sz_lt (by omega)
        · rw [upd_same, List.map_append]
          rfl
        · rw [List.length_append, hyl]
          rfl
        · rcases List.mem_append.mp hy with hy | hy
          · exact hyp y hy
          · rw [List.mem_singleton.mp hy]
            exact pz2
    · rintro σ H1 ⟨ys, y, rfl, hys, hyl, hyp, b1⟩
      refine ⟨_, rfl, q l H1 ys hl hys ?_ hyp b1⟩
      rw [hyl, List.length_map]
      exact Nat.le_refl _
end
end Ev
namespace Ev
open PySem PySem.Spec PyProof.Rows L2
/-- a slice of a list of anything -/
def cutL {α : Type} (xs : List α) (lo hi : Option Int) : List α := (xs.drop (HT.sIx xs.length 0 lo)).take (HT.sIx xs.length xs.length hi - HT.sIx xs.length 0 lo)
theorem cutL_map {α β : Type} (f : α → β) (xs : List α) (lo hi : Option Int) : cutL (xs.map f) lo hi = (cutL xs lo hi).map f := by
  unfold cutL
  rw [List.length_map, List.map_take, List.map_drop]
theorem cutV_strs (zs : List Str) (lo hi : Option Int) : cutV (zs.map V.str) lo hi = (cutL zs lo hi).map V.str := cutL_map V.str zs lo hi
theorem cutL_mem {α : Type} {xs : List α} {lo hi : Option Int} {v : α} (h : v ∈ cutL xs lo hi) : v ∈ xs := List.mem_of_mem_drop (List.mem_of_mem_take h)
theorem sIx_int {n d : Nat} {k : Int} (h : 0 ≤ k) : HT.sIx n d (some k) = min k.toNat n := by
  have e := HT.sIx_nat n d k.toNat
  rw [Int.toNat_of_nonneg h] at e
  exact e
theorem len_to {α : Type} (xs : List α) {k : Int} (h : 0 ≤ k) : (cutL xs none (some k)).length = min k.toNat xs.length := by
  unfold cutL
  rw [List.length_take, List.length_drop, sIx_int h, HT.sIx_none]
  omega
theorem len_from {α : Type} (xs : List α) {k : Int} (h : 0 ≤ k) : (cutL xs (some k) none).length = xs.length - k.toNat := by
  unfold cutL
  rw [List.length_take, List.length_drop, sIx_int h, HT.sIx_none]
  omega
theorem len_part {α : Type} (xs : List α) {k m : Int} (h : 0 ≤ k) (h2 : 0 ≤ m) : (cutL xs (some k) (some m)).length = min m.toNat xs.length - min k.toNat xs.length := by
  unfold cutL
  rw [List.length_take, List.length_drop, sIx_int h, sIx_int h2]
  omega
theorem cat_strs {l b : Addr} {xs zs : List Str} {H : Hp} {Q : VK} (hl : H l = some (.lst (xs.map V.str))) (hb : H b = some (.lst (zs.map V.str))) (hz : xs.length + zs.length ≤ 100000)
    (k : ∀ p H', H p = none → H' p = some (.lst ((xs ++ zs).map V.str)) → Bx [] H H' → Q (.ref p) H') : rCat (.ref l) (.ref b) H Q :=
  cat_step hl hb (by rw [List.length_map, List.length_map]; exact hz) fun p H' hp e c => k p H' hp (by rw [List.map_append]; exact e) c
theorem slice_strs {K : PySem.W.Frag} {a : Addr} {zs : List Str} {lo hi : Option Int} {H : Hp} {Q : VK} (ha : H a = some (.lst (zs.map V.str)))
    (k : ∀ p H', H p = none → H' p = some (.lst ((cutL zs lo hi).map V.str)) → Bx [] H H' → Q (.ref p) H') : rSlL K (.ref a) lo hi H Q :=
  slice_step ha fun p H' hp e c => k p H' hp (by rw [e, cutV_strs]) c
theorem slice_from {K : PySem.W.Frag} {a : Addr} {zs : List Str} {lo : Option Int} {σ : L2.St} {H : Hp} {Q : VK} (ha : H a = some (.lst (zs.map V.str)))
    (k : ∀ p H', H p = none → H' p = some (.lst ((cutL zs lo none).map V.str)) → Bx [] H H' → Q (.ref p) H') : tNoPart σ H (fun u H3 => rSlL K (.ref a) lo u H3 Q) := slice_strs ha k
theorem pick_all {ws : List Str} {v : V} (h : v ∈ ws.map V.str) {n : Nat} (hw : ∀ z ∈ ws, Pn n z) : ∃ z, v = .str z ∧ Pn n z := by
  obtain ⟨z, hz, rfl⟩ := List.mem_map.mp h
  exact ⟨z, rfl, hw z hz⟩
theorem signs7 : ("()[],;|" : Str).cps.toList.length = 7 ∧ ∀ c ∈ ("()[],;|" : Str).cps.toList, Gc c := by decide +kernel
def some15 : List Str := ["07", "00", "-0", "-", "\"", "\"\"", "\"a", "A", "a1", "+1", "_", ".", "a(", "x,", "table("]
theorem some15_ok : ∀ z ∈ some15, Pn 25 z := by
  unfold Pn some15
  decide +kernel
def some4 : List Str := ["table", "none", "0", "8"]
theorem some4_ok : ∀ z ∈ some4, Pn 25 z := by
  unfold Pn some4
  decide +kernel
section
variable {P : Program} {w : World} {K : PySem.W.Frag} {mg : Str → Option Value} {base : Heap}
/-! ### _law_some_piece -/
def sp_some_piece : Sp := fun vs H Q _ => ∃ (d a : Addr) (ws : List Str), vs = [.ref d, .ref a] ∧ a ≠ d ∧ H a = some (.lst (ws.map V.str)) ∧ Ws ws ∧ ws.length ≤ 1000 ∧ Dr d H ∧ ∀ z H', Pn 25 z → Bx [d] H H' → Dr d H' → Q (.str z) H'
theorem ok_l_some_piece (T : Tx K mg) : Cal P w K mg base CX0 3 "_law_some_piece" ["_law_draws_here", "_law_words_here"] sp_some_piece := by
  have H_l_take := ok_l_take (P := P) (w := w) (base := base) T
  have H_l_pick := ok_l_pick (P := P) (w := w) (base := base) T
  refine Cal.of T.d_l_some_piece sc_l_some_piece (fun vs H Q E h => ?len) (fun _ _ _ _ _ _ _ us hl => match us, hl with | [_, _], _ => rfl) (fun f cdv A outer s H vs Q E hr h => ?body)
  case len =>
    obtain ⟨d, a, ws, rfl, _⟩ := h
    rfl
  case body =>
    obtain ⟨d, a, ws, rfl, nad, ha, hws, hwl, hd, q⟩ := h
    refine ⟨_, PSs.nox (pss_cons (ps_set (i := 2) sc_l_some_piece.nd rfl (Or.inl rfl) (pe_cal H_l_take (hr.mono (by decide)) pass0 (pa_cons (pv 0) (pa_cons pe_int pa_nil))))
  (pss_cons (ps_if (pt_cmpR op_lt (pv 2) pe_int (nomark _)) (pss_one (ps_ret (pe_ix ix_str pe_str (pe_cal H_l_take (hr.mono (by decide)) pass0 (pa_cons (pv 0) (pa_cons pe_int pa_nil))) (fun _ _ => rfl))))
  pss_nil)
  (pss_cons (ps_if (pt_cmpR op_eq (pv 2) pe_int (nomark _)) (pss_one (ps_ret (pe_op op_add_str (pe_op op_add_str pe_str (pe_cal H_l_pick (hr.mono (by decide)) pass0 (pa_cons (pv 0) (pa_cons (pe_op op_cat (pv 1) (pe_lst (pa_cons pe_str pa_nil))) pa_nil)))) pe_str)))
  pss_nil)
  (pss_cons (ps_if (pt_cmpR op_eq (pv 2) pe_int (nomark _)) (pss_one (ps_ret (pe_callTy call_str_int (by rfl) T.b_str boot_str (pa_cons (pe_op op_sub (pe_cal H_l_take (hr.mono (by decide)) pass0 (pa_cons (pv 0) (pa_cons pe_int pa_nil))) pe_int) pa_nil))))
  pss_nil)
  (pss_cons (ps_if (pt_cmpR op_eq (pv 2) pe_int (nomark _)) (pss_one (ps_ret (pe_cal H_l_pick (hr.mono (by decide)) pass0 (pa_cons (pv 0) (pa_cons (pe_lst (pa_cons pe_str (pa_cons pe_str (pa_cons pe_str (pa_cons pe_str pa_nil))))) pa_nil)))))
  pss_nil)
  (pss_cons (ps_if (pt_cmpR op_eq (pv 2) pe_int (nomark _)) (pss_one (ps_ret (pe_cal H_l_pick (hr.mono (by decide)) pass0 (pa_cons (pv 0) (pa_cons (pv 1) pa_nil)))))
  pss_nil)
  (pss_cons (ps_set (i := 3) sc_l_some_piece.nd rfl (Or.inl rfl) (pe_lst (pa_cons pe_str (pa_cons pe_str (pa_cons pe_str (pa_cons pe_str (pa_cons pe_str (pa_cons pe_str (pa_cons pe_str (pa_cons pe_str (pa_cons pe_str (pa_cons pe_str (pa_cons pe_str (pa_cons pe_str (pa_cons pe_str (pa_cons pe_str (pa_cons pe_str pa_nil)))))))))))))))))
  (pss_one (ps_ret (pe_cal H_l_pick (hr.mono (by decide)) pass0 (pa_cons (pv 0) (pa_cons (pv 3) pa_nil)))))))))))), ?_⟩
    refine ⟨_, rfl, d, 9, rfl, by decide, hd, fun kd H1 k0 k1 b1 d1 => ?_⟩
    have ha1 := b1.l1 nad ha
    refine ⟨_, rfl, kd, 4, rfl, rfl, _, rfl, ite2 (fun _ => ?_) (fun _ => ?_)⟩
    · refine ⟨_, rfl, d, 7, rfl, by decide, d1, fun r H2 r0 r1 b2 d2 => ?_⟩
      obtain ⟨c, e1, e2⟩ := at_int (xs := ("()[],;|" : Str).cps.toList) r0 (by rw [signs7.1]; exact r1)
      refine ⟨_, r, c, rfl, rfl, by decide, e1, q (sg c) H2 ⟨Nat.le_refl 1, by show 1 ≤ 25; decide, fun x hx => ?_⟩ (b1.trans b2) d2⟩
      have hx' : x ∈ [c] := hx
      rw [List.mem_singleton.mp hx']
      exact signs7.2 c (List.mem_of_getElem? e2)
    refine ⟨_, rfl, rfl, _, rfl, ite2 (fun _ => ?_) (fun _ => ?_)⟩
    · refine ⟨_, rfl, _, rfl, by show 1 ≤ sizeLine; decide, fun l hl => ?_⟩
      have c1 : Bx [] H1 (upd H1 l (.lst [.str "table"])) := .new hl
      refine cat_strs (zs := ["table"]) (c1.l0 ha1) upd_same (by show ws.length + 1 ≤ 100000; omega) fun p H2 hp hp' c2 => ?_
      have d2 := (d1.b0 c1).b0 c2
      have np : p ≠ d := (d1.b0 c1).ne hp
      refine ⟨d, p, (ws ++ [("table" : Str)]).map V.str, rfl, np, .inl hp', ?_, d2, fun v H3 hv b3 d3 => ?_⟩
      · intro z
        have h2 := congrArg List.length z
        rw [List.length_map, List.length_append] at h2
        exact absurd h2 (by show ¬ (ws.length + 1 = 0); omega)
      · obtain ⟨z, rfl, hz⟩ := pick_all (n := 23) hv fun z hz => by
          rcases List.mem_append.mp hz with hz | hz
          · exact hws.2 z hz
          · rw [List.mem_singleton.mp hz]
            exact pn_kw.1
        have z2 := hz.2.1
        refine ⟨"\"", z, rfl, rfl, sz_of (by show 1 + z.length ≤ 100000; omega), _, "\"", rfl, rfl, ?_, q _ H3 (pn_quote hz) (((b1.trans c1.any).trans c2.any).trans b3) d3⟩
        rw [app_len]
        exact sz_of (by show 1 + z.length + 1 ≤ 100000; omega)
    refine ⟨_, rfl, rfl, _, rfl, ite2 (fun _ => ?_) (fun _ => ?_)⟩
    · refine ⟨_, rfl, d, 24, rfl, by decide, d1, fun r H2 r0 r1 b2 d2 => ?_⟩
      refine ⟨_, _, rfl, rfl, _, rfl, log_small (by omega) (by omega), q _ H2 ((pn_int (by omega) (by omega)).mono (by decide)) (b1.trans b2) d2⟩
    refine ⟨_, rfl, rfl, _, rfl, ite2 (fun _ => ?_) (fun _ => ?_)⟩
    · refine ⟨_, rfl, by show 4 ≤ sizeLine; decide, fun l hl => ?_⟩
      refine ⟨d, l, some4.map V.str, rfl, d1.ne hl, .inl upd_same, (by unfold some4; simp), d1.new hl, fun v H3 hv b3 d3 => ?_⟩
      obtain ⟨z, rfl, hz⟩ := pick_all hv some4_ok
      exact q z H3 hz ((b1.trans (.new hl)).trans b3) d3
    refine ⟨_, rfl, rfl, _, rfl, ite2 (fun _ => ?_) (fun _ => ?_)⟩
    · refine ⟨_, rfl, _, rfl, d, a, ws.map V.str, rfl, nad, .inl ha1, fun z => hws.1 (List.map_eq_nil_iff.mp z), d1, fun v H3 hv b3 d3 => ?_⟩
      obtain ⟨z, rfl, hz⟩ := pick_all hv hws.2
      exact q z H3 (hz.mono (by decide)) (b1.trans b3) d3
    refine ⟨by show 15 ≤ sizeLine; decide, fun l hl => ?_⟩
    refine ⟨_, rfl, _, rfl, d, l, some15.map V.str, rfl, d1.ne hl, .inl upd_same, (by unfold some15; simp), d1.new hl, fun v H3 hv b3 d3 => ?_⟩
    obtain ⟨z, rfl, hz⟩ := pick_all hv some15_ok
    exact q z H3 hz ((b1.trans (.new hl)).trans b3) d3
/-! ### _law_mutated -/
def sp_mutated : Sp := fun vs H Q _ => ∃ (d a p : Addr) (ws zs : List Str), vs = [.ref d, .ref a, .ref p] ∧ a ≠ d ∧ H a = some (.lst (ws.map V.str)) ∧ Ws ws ∧ ws.length ≤ 1000 ∧ p ≠ d ∧ H p = some (.lst (zs.map V.str)) ∧ (∀ z ∈ zs, Pn 25 z) ∧ zs.length ≤ 1000 ∧ Dr d H ∧
  ∀ q H' (ys : List Str), q ≠ d → H q = none → H' q = some (.lst (ys.map V.str)) → ys.length ≤ zs.length + 1 → (∀ z ∈ ys, Pn 25 z) → Bx [d] H H' → Dr d H' → Q (.ref q) H'
theorem ok_l_mutated (T : Tx K mg) : Cal P w K mg base CX0 4 "_law_mutated" ["_law_draws_here", "_law_words_here", "_law_pieces"] sp_mutated := by
  have H_l_take := ok_l_take (P := P) (w := w) (base := base) T
  have H_l_some_piece := ok_l_some_piece (P := P) (w := w) (base := base) T
  refine Cal.of T.d_l_mutated sc_l_mutated (fun vs H Q E h => ?len) (fun _ _ _ _ _ _ _ us hl => match us, hl with | [_, _, _], _ => rfl) (fun f cdv A outer s H vs Q E hr h => ?body)
  case len =>
    obtain ⟨d, a, p, ws, zs, rfl, _⟩ := h
    rfl
  case body =>
    obtain ⟨d, a, p, ws, zs, rfl, nad, ha, hws, hwl, npd, hp, hz, hzl, hd, q⟩ := h
    refine ⟨_, PSs.nox (pss_cons (ps_set (i := 3) sc_l_mutated.nd rfl (Or.inl rfl) (pe_cal H_l_take (hr.mono (by decide)) pass0 (pa_cons (pv 0) (pa_cons (pe_op op_add (pe_callB call_len_seq (by rfl) T.b_len PySem.boot_len (pa_cons (pv 2) pa_nil)) pe_int) pa_nil))))
  (pss_cons (ps_set (i := 4) sc_l_mutated.nd rfl (Or.inl rfl) (pe_cal H_l_take (hr.mono (by decide)) pass0 (pa_cons (pv 0) (pa_cons pe_int pa_nil))))
  (pss_cons (ps_if (pt_cmpR op_eq (pv 4) pe_int (nomark _)) (pss_one (ps_ret (pe_op op_cat (pe_op op_cat (pe_slice sl_list (pv 2) po_none (po_some (pv 3))) (pe_lst (pa_cons (pe_cal H_l_some_piece (hr.mono (by decide)) pass0 (pa_cons (pv 0) (pa_cons (pv 1) pa_nil))) pa_nil))) (pe_slice sl_list (pv 2) (po_some (pv 3)) po_none))))
  pss_nil)
  (pss_cons (ps_if (pt_cmpR op_eq (pv 4) pe_int (nomark _)) (pss_one (ps_ret (pe_op op_cat (pe_slice sl_list (pv 2) po_none (po_some (pv 3))) (pe_slice sl_list (pv 2) (po_some (pe_op op_add (pv 3) pe_int)) po_none))))
  pss_nil)
  (pss_cons (ps_if (pt_cmpR op_eq (pv 4) pe_int (nomark _)) (pss_one (ps_ret (pe_op op_cat (pe_op op_cat (pe_slice sl_list (pv 2) po_none (po_some (pv 3))) (pe_lst (pa_cons (pe_cal H_l_some_piece (hr.mono (by decide)) pass0 (pa_cons (pv 0) (pa_cons (pv 1) pa_nil))) pa_nil))) (pe_slice sl_list (pv 2) (po_some (pe_op op_add (pv 3) pe_int)) po_none))))
  pss_nil)
  (pss_cons (ps_if (pt_cmpR op_eq (pv 4) pe_int (nomark _)) (pss_one (ps_ret (pe_op op_cat (pe_op op_cat (pe_op op_cat (pe_slice sl_list (pv 2) po_none (po_some (pv 3))) (pe_slice sl_list (pv 2) (po_some (pe_op op_add (pv 3) pe_int)) (po_some (pe_op op_add (pv 3) pe_int)))) (pe_slice sl_list (pv 2) (po_some (pv 3)) (po_some (pe_op op_add (pv 3) pe_int)))) (pe_slice sl_list (pv 2) (po_some (pe_op op_add (pv 3) pe_int)) po_none))))
  pss_nil)
  (pss_one (ps_ret (pe_op op_cat (pe_slice sl_list (pv 2) po_none (po_some (pv 3))) (pe_slice sl_list (pv 2) (po_some (pe_op op_add (pe_op op_add (pv 3) pe_int) (pe_cal H_l_take (hr.mono (by decide)) pass0 (pa_cons (pv 0) (pa_cons pe_int pa_nil))))) po_none)))))))))), ?_⟩
    refine ⟨_, rfl, _, rfl, p, _, rfl, .inl (SqL.of hp), _, _, rfl, rfl, d, _, rfl, by rw [List.length_map]; omega, hd, fun at_ H1 a0 a1 b1 d1 => ?_⟩
    rw [List.length_map] at a1
    refine ⟨_, rfl, d, 5, rfl, by decide, d1, fun kd H2 k0 k1 b2 d2 => ?_⟩
    have b02 := b1.trans b2
    have hp2 := b02.l1 npd hp
    have ha2 := b02.l1 nad ha
    have at0 : 0 ≤ at_ := a0
    have at1 : at_.toNat ≤ zs.length := by omega
    have ok2 : ∀ {lo hi : Option Int} {z : Str}, z ∈ cutL zs lo hi → Pn 25 z := fun h => hz _ (cutL_mem h)
    refine ⟨_, rfl, rfl, _, rfl, ite2 (fun _ => ?_) (fun _ => ?_)⟩
    · -- [:at] + [some] + [at:]
      refine ⟨_, rfl, _, rfl, at_, rfl, slice_strs hp2 fun p1 H3 hp1 e1 c1 => ?_⟩
      have d3 := d2.b0 c1
      refine ⟨_, rfl, _, rfl, d, a, ws, rfl, nad, c1.l0 ha2, hws, hwl, d3, fun z H4 hz4 b4 d4 => ?_⟩
      have n1 : p1 ≠ d := d2.ne hp1
      refine ⟨by show 1 ≤ sizeLine; decide, fun p2 hp2' => ?_⟩
      have c2 : Bx [] H4 (upd H4 p2 (.lst [.str z])) := .new hp2'
      have l1 := len_to zs at0
      have l2 := len_from zs at0
      refine cat_strs (zs := [z]) (c2.l0 (b4.l1 n1 e1)) upd_same (by show _ + 1 ≤ 100000; omega) fun p3 H5 hp3 e3 c3 => ?_
      have c25 := c2.trans c3
      refine ⟨_, rfl, _, rfl, at_, rfl, slice_from (c25.l0 (b4.l1 npd (c1.l0 hp2))) fun p4 H6 hp4 e4 c4 => ?_⟩
      refine cat_strs (c4.l0 e3) e4 (by rw [List.length_append]; show _ + 1 + _ ≤ 100000; omega) fun p5 H7 hp5 e5 c5 => ?_
      have c47 := (c25.trans c4).trans c5
      have b07 := ((b02.trans c1.any).trans b4).trans c47.any
      have d7 := d4.b0 c47
      have np5 : p5 ≠ d := ((d4.b0 c25).b0 c4).ne hp5
      refine q p5 H7 _ np5 ((((b02.trans c1.any).trans b4).trans (c25.trans c4).any).free ((d4.b0 c25).b0 c4) hp5) e5 ?_ (fun y hy => ?_) b07 d7
      · rw [List.length_append, List.length_append]
        show _ + 1 + _ ≤ _
        omega
      · rcases List.mem_append.mp hy with hy | hy
        · rcases List.mem_append.mp hy with hy | hy
          · exact ok2 hy
          · rw [List.mem_singleton.mp hy]
            exact hz4
        · exact ok2 hy
    refine ⟨_, rfl, rfl, _, rfl, ite2 (fun _ => ?_) (fun _ => ?_)⟩
    · -- [:at] + [at + 1:]
      refine ⟨_, rfl, _, rfl, at_, rfl, slice_strs hp2 fun p1 H3 hp1 e1 c1 => ?_⟩
      refine ⟨_, rfl, _, rfl, _, _, rfl, rfl, at_ + 1, rfl, slice_from (c1.l0 hp2) fun p2 H4 hp2' e2 c2 => ?_⟩
      have l1 := len_to zs at0
      have l2 := len_from zs (k := at_ + 1) (by omega)
      refine cat_strs (c2.l0 e1) e2 (by omega) fun p3 H5 hp3 e3 c3 => ?_
      have c25 := (c1.trans c2).trans c3
      have d4 := (d2.b0 c1).b0 c2
      refine q p3 H5 _ (d4.ne hp3) ((b02.trans (c1.trans c2).any).free d4 hp3) e3 ?_ (fun y hy => ?_) (b02.trans c25.any) (d4.b0 c3)
      · rw [List.length_append]
        omega
      · rcases List.mem_append.mp hy with hy | hy
        · exact ok2 hy
        · exact ok2 hy
    refine ⟨_, rfl, rfl, _, rfl, ite2 (fun _ => ?_) (fun _ => ?_)⟩
    · -- [:at] + [some] + [at + 1:]
      refine ⟨_, rfl, _, rfl, at_, rfl, slice_strs hp2 fun p1 H3 hp1 e1 c1 => ?_⟩
      have d3 := d2.b0 c1
      refine ⟨_, rfl, _, rfl, d, a, ws, rfl, nad, c1.l0 ha2, hws, hwl, d3, fun z H4 hz4 b4 d4 => ?_⟩
      have n1 : p1 ≠ d := d2.ne hp1
      refine ⟨by show 1 ≤ sizeLine; decide, fun p2 hp2' => ?_⟩
      have c2 : Bx [] H4 (upd H4 p2 (.lst [.str z])) := .new hp2'
      have l1 := len_to zs at0
      have l2 := len_from zs (k := at_ + 1) (by omega)
      refine cat_strs (zs := [z]) (c2.l0 (b4.l1 n1 e1)) upd_same (by show _ + 1 ≤ 100000; omega) fun p3 H5 hp3 e3 c3 => ?_
      have c25 := c2.trans c3
      refine ⟨_, rfl, _, rfl, _, _, rfl, rfl, at_ + 1, rfl, slice_from (c25.l0 (b4.l1 npd (c1.l0 hp2))) fun p4 H6 hp4 e4 c4 => ?_⟩
      refine cat_strs (c4.l0 e3) e4 (by rw [List.length_append]; show _ + 1 + _ ≤ 100000; omega) fun p5 H7 hp5 e5 c5 => ?_
      have c47 := (c25.trans c4).trans c5
      have b07 := ((b02.trans c1.any).trans b4).trans c47.any
      have d7 := d4.b0 c47
      have np5 : p5 ≠ d := ((d4.b0 c25).b0 c4).ne hp5
      refine q p5 H7 _ np5 ((((b02.trans c1.any).trans b4).trans (c25.trans c4).any).free ((d4.b0 c25).b0 c4) hp5) e5 ?_ (fun y hy => ?_) b07 d7
      · rw [List.length_append, List.length_append]
        show _ + 1 + _ ≤ _
        omega
      · rcases List.mem_append.mp hy with hy | hy
        · rcases List.mem_append.mp hy with hy | hy
          · exact ok2 hy
          · rw [List.mem_singleton.mp hy]
            exact hz4
        · exact ok2 hy
    refine ⟨_, rfl, rfl, _, rfl, ite2 (fun _ => ?_) (fun _ => ?_)⟩
    · -- [:at] + [at + 1:at + 2] + [at:at + 1] + [at + 2:]
      refine ⟨_, rfl, _, rfl, at_, rfl, slice_strs hp2 fun p1 H3 hp1 e1 c1 => ?_⟩
      refine ⟨_, rfl, _, rfl, _, _, rfl, rfl, at_ + 1, rfl, _, rfl, _, _, rfl, rfl, at_ + 2, rfl, slice_strs (c1.l0 hp2) fun p2 H4 hp2' e2 c2 => ?_⟩
      have l1 := len_to zs at0
      have l2 := len_part zs (k := at_ + 1) (m := at_ + 2) (by omega) (by omega)
      have l3 := len_part zs (k := at_) (m := at_ + 1) (by omega) (by omega)
      have l4 := len_from zs (k := at_ + 2) (by omega)
      refine cat_strs (c2.l0 e1) e2 (by omega) fun p3 H5 hp3 e3 c3 => ?_
      have c25 := (c1.trans c2).trans c3
      refine ⟨_, rfl, _, rfl, at_, rfl, _, rfl, _, _, rfl, rfl, at_ + 1, rfl, slice_strs (c25.l0 hp2) fun p4 H6 hp4 e4 c4 => ?_⟩
      refine cat_strs (c4.l0 e3) e4 (by rw [List.length_append]; omega) fun p5 H7 hp5 e5 c5 => ?_
      have c27 := (c25.trans c4).trans c5
      refine ⟨_, rfl, _, rfl, _, _, rfl, rfl, at_ + 2, rfl, slice_from (c27.l0 hp2) fun p6 H8 hp6 e6 c6 => ?_⟩
      refine cat_strs (c6.l0 e5) e6 (by rw [List.length_append, List.length_append]; omega) fun p7 H9 hp7 e7 c7 => ?_
      have c28 := c27.trans c6
      have d8 := d2.b0 c28
      refine q p7 H9 _ (d8.ne hp7) ((b02.trans c28.any).free d8 hp7) e7 ?_ (fun y hy => ?_) (b02.trans (c28.trans c7).any) (d8.b0 c7)
      · rw [List.length_append, List.length_append, List.length_append]
        omega
      · rcases List.mem_append.mp hy with hy | hy
        · rcases List.mem_append.mp hy with hy | hy
          · rcases List.mem_append.mp hy with hy | hy
            · exact ok2 hy
            · exact ok2 hy
          · exact ok2 hy
        · exact ok2 hy
    · -- [:at] + [at + 1 + take:]
      refine ⟨_, rfl, _, rfl, at_, rfl, slice_strs hp2 fun p1 H3 hp1 e1 c1 => ?_⟩
      have d3 := d2.b0 c1
      refine ⟨_, rfl, _, rfl, _, _, rfl, rfl, _, rfl, d, 6, rfl, by decide, d3, fun r H4 r0 r1 b4 d4 => ?_⟩
      have n1 : p1 ≠ d := d2.ne hp1
      refine ⟨_, _, rfl, rfl, at_ + 1 + r, rfl, slice_from (b4.l1 npd (c1.l0 hp2)) fun p2 H5 hp2' e2 c2 => ?_⟩
      have l1 := len_to zs at0
      have l2 := len_from zs (k := at_ + 1 + r) (by omega)
      refine cat_strs (c2.l0 (b4.l1 n1 e1)) e2 (by omega) fun p3 H6 hp3 e3 c3 => ?_
      have d5 := d4.b0 c2
      have b05 := ((b02.trans c1.any).trans b4).trans c2.any
      refine q p3 H6 _ (d5.ne hp3) (b05.free d5 hp3) e3 ?_ (fun y hy => ?_) (b05.trans c3.any) (d5.b0 c3)
      · rw [List.length_append]
        omega
      · rcases List.mem_append.mp hy with hy | hy
        · exact ok2 hy
        · exact ok2 hy
end
end Ev
namespace Ev
open PySem PySem.Spec PyProof.Rows L2
/-- a line: a list of at most m pieces -/
def Ln (d m : Nat) (H : Hp) (v : V) : Prop := ∃ (a : Addr) (zs : List Str), v = .ref a ∧ a ≠ d ∧ H a = some (.lst (zs.map V.str)) ∧ zs.length ≤ m ∧ ∀ z ∈ zs, Pn 25 z
theorem Ln.mono {d m : Nat} {H H' : Hp} {v : V} (h : Ln d m H v) (b : Bx [d] H H') : Ln d m H' v := by
  obtain ⟨a, zs, e, na, ha, z⟩ := h
  exact ⟨a, zs, e, na, b.l1 na ha, z⟩
theorem Ln.up {d m n : Nat} {H : Hp} {v : V} (h : Ln d m H v) (l : m ≤ n) : Ln d n H v := by
  obtain ⟨a, zs, e, na, ha, z, y⟩ := h
  exact ⟨a, zs, e, na, ha, Nat.le_trans z l, y⟩
theorem cutV_L (xs : List V) (lo hi : Option Int) : cutV xs lo hi = cutL xs lo hi := rfl
theorem sliceV_from {K : PySem.W.Frag} {a : Addr} {xs : List V} {lo : Option Int} {σ : L2.St} {H : Hp} {Q : VK} (ha : H a = some (.lst xs))
    (k : ∀ p H', H p = none → H' p = some (.lst (cutL xs lo none)) → Bx [] H H' → Q (.ref p) H') : tNoPart σ H (fun u H3 => rSlL K (.ref a) lo u H3 Q) := slice_step ha k
theorem sliceV {K : PySem.W.Frag} {a : Addr} {xs : List V} {lo hi : Option Int} {H : Hp} {Q : VK} (ha : H a = some (.lst xs))
    (k : ∀ p H', H p = none → H' p = some (.lst (cutL xs lo hi)) → Bx [] H H' → Q (.ref p) H') : rSlL K (.ref a) lo hi H Q := slice_step ha k
section
variable {P : Program} {w : World} {K : PySem.W.Frag} {mg : Str → Option Value} {base : Heap}
/-! ### _law_changed -/
def sp_changed : Sp := fun vs H Q _ => ∃ (d a p : Addr) (ws : List Str) (rs : List V) (m : Nat), vs = [.ref d, .ref a, .ref p] ∧ a ≠ d ∧ H a = some (.lst (ws.map V.str)) ∧ Ws ws ∧ ws.length ≤ 1000 ∧ p ≠ d ∧ H p = some (.lst rs) ∧ (∀ x ∈ rs, Ln d m H x) ∧ rs.length ≤ 1000 ∧ m ≤ 1000 ∧ Dr d H ∧
  ∀ q H' (ys : List V), q ≠ d → H' q = some (.lst ys) → ys.length ≤ rs.length + 1 → (∀ x ∈ ys, Ln d (m + 1) H' x) → Bx [d] H H' → Dr d H' → Q (.ref q) H'
theorem ok_l_changed (T : Tx K mg) : Cal P w K mg base CX0 5 "_law_changed" ["_law_draws_here", "_law_words_here", "_law_lines"] sp_changed := by
  have H_l_take := ok_l_take (P := P) (w := w) (base := base) T
  have H_l_mutated := ok_l_mutated (P := P) (w := w) (base := base) T
  refine Cal.of T.d_l_changed sc_l_changed (fun vs H Q E h => ?len) (fun _ _ _ _ _ _ _ us hl => match us, hl with | [_, _, _], _ => rfl) (fun f cdv A outer s H vs Q E hr h => ?body)
  case len =>
    obtain ⟨d, a, p, ws, rs, m, rfl, _⟩ := h
    rfl
  case body =>
    obtain ⟨d, a, p, ws, rs, m, rfl, nad, ha, hws, hwl, npd, hp, hr', hrl, hm, hd, q⟩ := h
    refine ⟨_, PSs.nox (pss_cons (ps_set (i := 3) sc_l_changed.nd rfl (Or.inl rfl) (pe_cal H_l_take (hr.mono (by decide)) pass0 (pa_cons (pv 0) (pa_cons (pe_op op_add (pe_callB call_len_seq (by rfl) T.b_len PySem.boot_len (pa_cons (pv 2) pa_nil)) pe_int) pa_nil))))
  (pss_cons (ps_set (i := 4) sc_l_changed.nd rfl (Or.inl rfl) (pe_cal H_l_take (hr.mono (by decide)) pass0 (pa_cons (pv 0) (pa_cons pe_int pa_nil))))
  (pss_cons (ps_if (PW.pt (pw_and (pt_cmpR op_lt (pv 4) pe_int (nomark _)) (pw_and1 (pt_cmpR op_lt (pv 3) (pe_callB call_len_seq (by rfl) T.b_len PySem.boot_len (pa_cons (pv 2) pa_nil)) (nomark _))))) (pss_one (ps_ret (pe_op op_cat (pe_op op_cat (pe_slice sl_list (pv 2) po_none (po_some (pv 3))) (pe_lst (pa_cons (pe_cal H_l_mutated (hr.mono (by decide)) pass0 (pa_cons (pv 0) (pa_cons (pv 1) (pa_cons (pe_ix ix_list (pv 2) (pv 3) (fun _ _ => rfl)) pa_nil)))) pa_nil))) (pe_slice sl_list (pv 2) (po_some (pe_op op_add (pv 3) pe_int)) po_none))))
  pss_nil)
  (pss_cons (ps_if (pt_cmpR op_eq (pv 4) pe_int (nomark _)) (pss_one (ps_ret (pe_op op_cat (pe_op op_cat (pe_op op_cat (pe_slice sl_list (pv 2) po_none (po_some (pv 3))) (pe_slice sl_list (pv 2) (po_some (pe_op op_add (pv 3) pe_int)) (po_some (pe_op op_add (pv 3) pe_int)))) (pe_slice sl_list (pv 2) (po_some (pv 3)) (po_some (pe_op op_add (pv 3) pe_int)))) (pe_slice sl_list (pv 2) (po_some (pe_op op_add (pv 3) pe_int)) po_none))))
  pss_nil)
  (pss_cons (ps_if (pt_cmpR op_eq (pv 4) pe_int (nomark _)) (pss_one (ps_ret (pe_op op_cat (pe_slice sl_list (pv 2) po_none (po_some (pv 3))) (pe_slice sl_list (pv 2) (po_some (pe_op op_add (pv 3) pe_int)) po_none))))
  pss_nil)
  (pss_one (ps_ret (pe_op op_cat (pe_op op_cat (pe_slice sl_list (pv 2) po_none (po_some (pv 3))) (pe_slice sl_list (pv 2) (po_some (pv 3)) (po_some (pe_op op_add (pv 3) pe_int)))) (pe_slice sl_list (pv 2) (po_some (pv 3)) po_none))))))))), ?_⟩
    refine ⟨_, rfl, _, rfl, p, _, rfl, .inl (SqL.of hp), _, _, rfl, rfl, d, _, rfl, by omega, hd, fun at_ H1 a0 a1 b1 d1 => ?_⟩
    refine ⟨_, rfl, d, 7, rfl, by decide, d1, fun kd H2 k0 k1 b2 d2 => ?_⟩
    have b02 := b1.trans b2
    have hp2 := b02.l1 npd hp
    have ha2 := b02.l1 nad ha
    have at0 : 0 ≤ at_ := a0
    have at1 : at_.toNat ≤ rs.length := by omega
    have ok2 : ∀ {H' : Hp} {lo hi : Option Int} {x : V}, x ∈ cutL rs lo hi → Bx [d] H H' → Ln d (m + 1) H' x := fun h b => ((hr' _ (cutL_mem h)).mono b).up (Nat.le_succ m)
    -- the ways behind the first
    have others : ∀ (D : Ends), D.rt = Q →
        (tSeq (tIfS (tTest (tOp rEq (tVar 4) (tC (.int 4)))) (tRet (tOp rCat (tOp rCat (tOp rCat (tSl (rSlL K) (tVar 2) tNoPart (tPart (tVar 3))) (tSl (rSlL K) (tVar 2) (tPart (tOp (rI0 fun i j => .int (i + j)) (tVar 3) (tC (.int 1)))) (tPart (tOp (rI0 fun i j => .int (i + j)) (tVar 3) (tC (.int 2))))))
            (tSl (rSlL K) (tVar 2) (tPart (tVar 3)) (tPart (tOp (rI0 fun i j => .int (i + j)) (tVar 3) (tC (.int 1)))))) (tSl (rSlL K) (tVar 2) (tPart (tOp (rI0 fun i j => .int (i + j)) (tVar 3) (tC (.int 2)))) tNoPart))) tNext)
          (tSeq (tIfS (tTest (tOp rEq (tVar 4) (tC (.int 5)))) (tRet (tOp rCat (tSl (rSlL K) (tVar 2) tNoPart (tPart (tVar 3))) (tSl (rSlL K) (tVar 2) (tPart (tOp (rI0 fun i j => .int (i + j)) (tVar 3) (tC (.int 1)))) tNoPart))) tNext)
            (tRet (tOp rCat (tOp rCat (tSl (rSlL K) (tVar 2) tNoPart (tPart (tVar 3))) (tSl (rSlL K) (tVar 2) (tPart (tVar 3)) (tPart (tOp (rI0 fun i j => .int (i + j)) (tVar 3) (tC (.int 1)))))) (tSl (rSlL K) (tVar 2) (tPart (tVar 3)) tNoPart)))))
        D [some (.ref d), some (.ref a), some (.ref p), some (.int at_), some (.int kd)] H2 := by
      intro D hD
      refine ⟨_, rfl, rfl, _, rfl, ite2 (fun _ => ?_) (fun _ => ?_)⟩
      · refine ⟨_, rfl, _, rfl, at_, rfl, sliceV hp2 fun p1 H3 hp1 e1 c1 => ?_⟩
        refine ⟨_, rfl, _, rfl, _, _, rfl, rfl, at_ + 1, rfl, _, rfl, _, _, rfl, rfl, at_ + 2, rfl, sliceV (c1.l0 hp2) fun p2 H4 hp2' e2 c2 => ?_⟩
        have l1 := len_to rs at0
        have l2 := len_part rs (k := at_ + 1) (m := at_ + 2) (by omega) (by omega)
        have l3 := len_part rs (k := at_) (m := at_ + 1) (by omega) (by omega)
        have l4 := len_from rs (k := at_ + 2) (by omega)
        refine cat_step (c2.l0 e1) e2 (by omega) fun p3 H5 hp3 e3 c3 => ?_
        have c25 := (c1.trans c2).trans c3
        refine ⟨_, rfl, _, rfl, at_, rfl, _, rfl, _, _, rfl, rfl, at_ + 1, rfl, sliceV (c25.l0 hp2) fun p4 H6 hp4 e4 c4 => ?_⟩
        refine cat_step (c4.l0 e3) e4 (by rw [List.length_append]; omega) fun p5 H7 hp5 e5 c5 => ?_
        have c27 := (c25.trans c4).trans c5
        refine ⟨_, rfl, _, rfl, _, _, rfl, rfl, at_ + 2, rfl, sliceV_from (c27.l0 hp2) fun p6 H8 hp6 e6 c6 => ?_⟩
        refine cat_step (c6.l0 e5) e6 (by rw [List.length_append, List.length_append]; omega) fun p7 H9 hp7 e7 c7 => ?_
        have c28 := c27.trans c6
        have d8 := d2.b0 c28
        have b29 := b02.trans (c28.trans c7).any
        show D.rt _ _
        rw [hD]
        refine q p7 H9 _ (d8.ne hp7) e7 ?_ (fun y hy => ?_) b29 (d8.b0 c7)
        · rw [List.length_append, List.length_append, List.length_append]
          omega
        · rcases List.mem_append.mp hy with hy | hy
          · rcases List.mem_append.mp hy with hy | hy
            · rcases List.mem_append.mp hy with hy | hy
              · exact ok2 hy b29
              · exact ok2 hy b29
            · exact ok2 hy b29
          · exact ok2 hy b29
      refine ⟨_, rfl, rfl, _, rfl, ite2 (fun _ => ?_) (fun _ => ?_)⟩
      · refine ⟨_, rfl, _, rfl, at_, rfl, sliceV hp2 fun p1 H3 hp1 e1 c1 => ?_⟩
        refine ⟨_, rfl, _, rfl, _, _, rfl, rfl, at_ + 1, rfl, sliceV_from (c1.l0 hp2) fun p2 H4 hp2' e2 c2 => ?_⟩
        have l1 := len_to rs at0
        have l2 := len_from rs (k := at_ + 1) (by omega)
        refine cat_step (c2.l0 e1) e2 (by omega) fun p3 H5 hp3 e3 c3 => ?_
        have c25 := (c1.trans c2).trans c3
        have d4 := (d2.b0 c1).b0 c2
        have b25 := b02.trans (c25).any
        show D.rt _ _
        rw [hD]
        refine q p3 H5 _ (d4.ne hp3) e3 ?_ (fun y hy => ?_) b25 (d4.b0 c3)
        · rw [List.length_append]
          omega
        · rcases List.mem_append.mp hy with hy | hy
          · exact ok2 hy b25
          · exact ok2 hy b25
      · refine ⟨_, rfl, _, rfl, at_, rfl, sliceV hp2 fun p1 H3 hp1 e1 c1 => ?_⟩
        refine ⟨_, rfl, _, rfl, at_, rfl, _, rfl, _, _, rfl, rfl, at_ + 1, rfl, sliceV (c1.l0 hp2) fun p2 H4 hp2' e2 c2 => ?_⟩
        have l1 := len_to rs at0
        have l2 := len_part rs (k := at_) (m := at_ + 1) (by omega) (by omega)
        have l3 := len_from rs at0
        refine cat_step (c2.l0 e1) e2 (by omega) fun p3 H5 hp3 e3 c3 => ?_
        have c25 := (c1.trans c2).trans c3
        refine ⟨_, rfl, _, rfl, at_, rfl, sliceV_from (c25.l0 hp2) fun p4 H6 hp4 e4 c4 => ?_⟩
        refine cat_step (c4.l0 e3) e4 (by rw [List.length_append]; omega) fun p5 H7 hp5 e5 c5 => ?_
        have c27 := (c25.trans c4).trans c5
        have d6 := d2.b0 (c25.trans c4)
        have b27 := b02.trans c27.any
        show D.rt _ _
        rw [hD]
        refine q p5 H7 _ (d6.ne hp5) e5 ?_ (fun y hy => ?_) b27 (d6.b0 c5)
        · rw [List.length_append, List.length_append]
          omega
        · rcases List.mem_append.mp hy with hy | hy
          · rcases List.mem_append.mp hy with hy | hy
            · exact ok2 hy b27
            · exact ok2 hy b27
          · exact ok2 hy b27
    refine ⟨_, rfl, _, _, rfl, rfl, _, rfl, ite2 (fun _ => ?_) (fun _ => iteF (others _ rfl))⟩
    refine ⟨_, rfl, _, rfl, p, _, rfl, .inl (SqL.of hp2), _, _, rfl, rfl, _, rfl, ite2 (fun hlt => ?_) (fun _ => others _ rfl)⟩
    have hlt' : at_ < (rs.length : Int) := of_decide_eq_true hlt
    obtain ⟨x, ex, ex2⟩ := at_int (xs := rs) at0 hlt'
    have hx := List.mem_of_getElem? ex2
    refine ⟨_, rfl, _, rfl, at_, rfl, sliceV hp2 fun p1 H3 hp1 e1 c1 => ?_⟩
    have d3 := d2.b0 c1
    obtain ⟨xa, xz, rfl, nxa, hxa, hxl, hxp⟩ := (hr' x hx).mono (b02.trans c1.any)
    refine ⟨_, rfl, _, rfl, _, rfl, _, rfl, p, _, _, _, rfl, rfl, SqL.of (c1.l0 hp2), ex, ?_⟩
    refine ⟨d, a, xa, ws, xz, rfl, nad, c1.l0 ha2, hws, hwl, nxa, hxa, hxp, by omega, d3, fun qm H4 ys nq _ hq hyl hyp b4 d4 => ?_⟩
    have n1 : p1 ≠ d := d2.ne hp1
    refine ⟨by show 1 ≤ sizeLine; decide, fun p2 hp2' => ?_⟩
    have c2 : Bx [] H4 (upd H4 p2 (.lst [.ref qm])) := .new hp2'
    have l1 := len_to rs at0
    have l2 := len_from rs (k := at_ + 1) (by omega)
    refine cat_step (c2.l0 (b4.l1 n1 e1)) upd_same (by show _ + 1 ≤ 100000; omega) fun p3 H5 hp3 e3 c3 => ?_
    have c25 := c2.trans c3
    refine ⟨_, rfl, _, rfl, _, _, rfl, rfl, at_ + 1, rfl, sliceV_from (c25.l0 (b4.l1 npd (c1.l0 hp2))) fun p4 H6 hp4 e4 c4 => ?_⟩
    refine cat_step (c4.l0 e3) e4 (by rw [List.length_append]; show _ + 1 + _ ≤ 100000; omega) fun p5 H7 hp5 e5 c5 => ?_
    have c47 := (c25.trans c4).trans c5
    have b07 := ((b02.trans c1.any).trans b4).trans c47.any
    refine q p5 H7 _ (((d4.b0 c25).b0 c4).ne hp5) e5 ?_ (fun y hy => ?_) b07 (d4.b0 c47)
    · rw [List.length_append, List.length_append]
      show _ + 1 + _ ≤ _
      omega
    · rcases List.mem_append.mp hy with hy | hy
      · rcases List.mem_append.mp hy with hy | hy
        · exact ok2 hy b07
        · rw [List.mem_singleton.mp hy]
          exact ⟨qm, ys, rfl, nq, c47.l0 hq, by omega, hyp⟩
      · exact ok2 hy b07
end
end Ev
namespace Ev
open PySem PySem.Spec PyProof.Rows L2
/-! ### lists of texts as data -/
theorem dp_strs {K : PySem.W.Frag} {H : Hp} : ∀ zs : List Str, DpAll K H (zs.map V.str) (zs.map PyData.str)
  | [] => .nil
  | z :: r => .cons (.str z) (dp_strs r)
theorem strOk_of {z : Str} (h : ∀ c ∈ z.cps.toList, c < 128) : PyData.strOk z = true := by
  unfold PyData.strOk
  rw [Array.all_eq_true]
  intro i hi
  have hm : z.cps[i] ∈ z.cps.toList := by
    rw [Array.mem_toList_iff]
    exact Array.getElem_mem hi
  have h1 := h _ hm
  exact decide_eq_true (by omega)
theorem lay_strs : ∀ {zs : List Str}, (∀ z ∈ zs, ∀ c ∈ z.cps.toList, c < 128) → PyData.canLayAll0 (zs.map PyData.str) = true ∧ PyData.depthAll (zs.map PyData.str) = 0
  | [], _ => ⟨by simp [PyData.canLayAll0], by simp [PyData.depthAll]⟩
  | z :: r, h => by
    obtain ⟨h1, h2⟩ := lay_strs (zs := r) fun y hy => h y (List.mem_cons_of_mem _ hy)
    rw [List.map_cons, PyData.canLayAll0, PyData.depthAll, h1, h2]
    exact ⟨by simp [PyData.canLay0, strOk_of (h z List.mem_cons_self)], by simp [PyData.depth]⟩
theorem shaped_strs {zs : List Str} (h : ∀ z ∈ zs, ∀ c ∈ z.cps.toList, c < 128) : SeqAt.shaped (.list (zs.map PyData.str)) = true := by
  obtain ⟨h1, h2⟩ := lay_strs h
  unfold SeqAt.shaped
  rw [show PyData.canLay0 (.list (zs.map PyData.str)) = true by simp [PyData.canLay0, h1], show PyData.depth (.list (zs.map PyData.str)) = 1 by simp [PyData.depth, h2]]
  rfl
/-- a line of the list at pl -/
def Lb (d pl : Addr) (H : Hp) (v : V) : Prop := ∃ (a : Addr) (zs : List Str), v = .ref a ∧ a ≠ d ∧ a ≠ pl ∧ H a = some (.lst (zs.map V.str)) ∧ zs.length ≤ 19 ∧ ∀ z ∈ zs, Pn 25 z
theorem Lb.mono {d pl : Addr} {H H' : Hp} {v : V} (h : Lb d pl H v) (b : Bx [d, pl] H H') : Lb d pl H' v := by
  obtain ⟨a, zs, e, na, np, ha, z⟩ := h
  exact ⟨a, zs, e, na, np, b.k _ _ (by simp [na, np]) ha, z⟩
theorem Bx.two {d p : Addr} {H H' : Hp} (b : Bx [d] H H') : Bx [d, p] H H' := b.sub fun x hx => by rw [List.mem_singleton.mp hx]; exact List.mem_cons_self
/-- the lines at pl, at most n -/
def Ls (d pl : Addr) (n : Nat) (H : Hp) : Prop := ∃ rs : List V, H pl = some (.lst rs) ∧ rs.length ≤ n ∧ ∀ x ∈ rs, Lb d pl H x
theorem Ls.mono {d pl : Addr} {n : Nat} {H H' : Hp} (h : Ls d pl n H) (b : Bx [d] H H') (np : pl ≠ d) : Ls d pl n H' := by
  obtain ⟨rs, hp, hl, hx⟩ := h
  exact ⟨rs, b.l1 np hp, hl, fun x h => (hx x h).mono b.two⟩
theorem Ls.up {d pl : Addr} {m n : Nat} {H : Hp} (h : Ls d pl m H) (l : m ≤ n) : Ls d pl n H := by
  obtain ⟨rs, hp, hl, hx⟩ := h
  exact ⟨rs, hp, Nat.le_trans hl l, hx⟩
/-- one more line -/
theorem Ls.ins {d pl : Addr} {n : Nat} {H : Hp} {rs : List V} {v : V} (i : Int) (hp : H pl = some (.lst rs)) (hl : rs.length ≤ n) (hx : ∀ x ∈ rs, Lb d pl H x) (hv : Lb d pl H v) :
    Ls d pl (n + 1) (upd H pl (.lst (rs.take i.toNat ++ [v] ++ rs.drop i.toNat))) := by
  have bm : Bx [d, pl] H (upd H pl (.lst (rs.take i.toNat ++ [v] ++ rs.drop i.toNat))) := Bx.mut (.refl _ _) (.inl (by simp)) hp
  refine ⟨_, upd_same, ?_, fun x h => ?_⟩
  · rw [List.length_append, List.length_append, List.length_take, List.length_drop, List.length_singleton]
    omega
  · rcases List.mem_append.mp h with h | h
    · rcases List.mem_append.mp h with h | h
      · exact (hx x (List.mem_of_mem_take h)).mono bm
      · rw [List.mem_singleton.mp h]
        exact hv.mono bm
    · exact (hx x (List.mem_of_mem_drop h)).mono bm
section
variable {P : Program} {w : World} {K : PySem.W.Frag} {mg : Str → Option Value} {base : Heap}
/-! ### _law_book_lines -/
def sp_book_lines : Sp := fun vs H Q _ => ∃ (d t pf : Addr) (es : List TE4) (fs : List V), vs = [.ref d, .ref t, .ref pf] ∧ H t = some (.tup (refsT es)) ∧ es.length ≤ 16 ∧ (∀ e ∈ es, TabAt H e) ∧ (∀ e ∈ es, Tb H (.ref e.1)) ∧ pf ≠ d ∧ H pf = some (.lst fs) ∧ fs.length ≤ 8 ∧ (∀ x ∈ fs, Fc (refsT es) H x) ∧ Dr d H ∧
  ∀ q H' (ys : List V), q ≠ d → H' q = some (.lst ys) → ys.length ≤ 35 → (∀ x ∈ ys, Ln d 19 H' x) → Bx [d] H H' → Dr d H' → Q (.ref q) H'
theorem ok_l_book_lines (T : Tx K mg) : Cal P w K mg base CX0 5 "_law_book_lines" ["_law_draws_here", "_law_schema", "_law_facts"] sp_book_lines := by
  have H_l_take := ok_l_take (P := P) (w := w) (base := base) T
  have H_l_table_pieces := ok_l_table_pieces (P := P) (w := w) (base := base) T
  have H_l_fact_pieces := ok_l_fact_pieces (P := P) (w := w) (base := base) T
  refine Cal.of T.d_l_book_lines sc_l_book_lines (fun vs H Q E h => ?len) (fun _ _ _ _ _ _ _ us hl => match us, hl with | [_, _, _], _ => rfl) (fun f cdv A outer s H vs Q E hr h => ?body)
  case len =>
    obtain ⟨d, t, pf, es, fs, rfl, _⟩ := h
    rfl
  case body =>
    obtain ⟨d, t, pf, es, fs, rfl, ht, hel, hes, heb, npf, hpf, hfl, hfc, hd, q⟩ := h
    refine ⟨_, PSs.nox (pss_cons (ps_set (i := 3) sc_l_book_lines.nd rfl (Or.inl rfl) (pe_lst pa_nil))
  (pss_cons (ps_for PassesOwn.never rfl (pi_tup (pv 1)) (pg_name (i := 4) sc_l_book_lines.nd rfl (Or.inl rfl))
  (pss_one (ps_expr (pe_bm PySem.F.plainAttrs_list PySem.F.slot_list_insert PySem.F.type_list_insert mt_insert (pv 3) (pa_cons (pe_cal H_l_take (hr.mono (by decide)) pass0 (pa_cons (pv 0) (pa_cons (pe_op op_add (pe_callB call_len_seq (by rfl) T.b_len PySem.boot_len (pa_cons (pv 3) pa_nil)) pe_int) pa_nil))) (pa_cons (pe_cal H_l_table_pieces (hr.mono (by decide)) pass0 (pa_cons (pv 4) pa_nil)) pa_nil))))))
  (pss_cons (ps_for PassesOwn.never rfl (pi_list (pv 2)) (pg_name (i := 5) sc_l_book_lines.nd rfl (Or.inl rfl))
  (pss_one (ps_for PassesOwn.never rfl (pi_range1 (by rfl) T.b_range (pa_cons (pe_op op_add pe_int (pe_callTy call_int1 (by rfl) T.b_int boot_int (pa_cons (pe_cmpR op_eq (pe_cal H_l_take (hr.mono (by decide)) pass0 (pa_cons (pv 0) (pa_cons pe_int pa_nil))) pe_int (nomark _)) pa_nil))) pa_nil)) (pg_name (i := 6) sc_l_book_lines.nd rfl (Or.inl rfl))
  (pss_cons (ps_set (i := 7) sc_l_book_lines.nd rfl (Or.inl rfl) pe_int)
  (pss_cons (ps_for PassesOwn.never rfl (pi_range1 (by rfl) T.b_range (pa_cons (pe_callB call_len_seq (by rfl) T.b_len PySem.boot_len (pa_cons (pv 3) pa_nil)) pa_nil)) (pg_name (i := 8) sc_l_book_lines.nd rfl (Or.inl rfl))
  (pss_one (ps_if (PW.pt (pw_and (pt_cmpR (op_eqD hr.units) (pe_slice sl_list (pe_ix ix_list (pv 3) (pv 8) (fun _ _ => rfl)) po_none (po_some pe_int)) (pe_lst (pa_cons pe_str pa_nil)) (nomark _)) (pw_and (pt_cmpR op_eq (pe_callB call_len_seq (by rfl) T.b_len PySem.boot_len (pa_cons (pe_ix ix_list (pv 3) (pv 8) (fun _ _ => rfl)) pa_nil)) pe_int (nomark _)) (pw_and1 (pt_cmpR op_eq (pe_ix ix_list (pe_ix ix_list (pv 3) (pv 8) (fun _ _ => rfl)) pe_int (fun _ _ => rfl)) (pe_ix ix_tup (pv 5) pe_int (fun _ _ => rfl)) (nomark _)))))) (pss_one (ps_set (i := 7) sc_l_book_lines.nd rfl (Or.inl rfl) (pe_op op_add (pv 8) pe_int)))
  pss_nil)))
  (pss_cons (ps_set (i := 9) sc_l_book_lines.nd rfl (Or.inl rfl) (pe_op op_add (pv 7) (pe_cal H_l_take (hr.mono (by decide)) pass0 (pa_cons (pv 0) (pa_cons (pe_op op_add (pe_op op_sub (pe_callB call_len_seq (by rfl) T.b_len PySem.boot_len (pa_cons (pv 3) pa_nil)) (pv 7)) pe_int) pa_nil)))))
  (pss_one (ps_expr (pe_bm PySem.F.plainAttrs_list PySem.F.slot_list_insert PySem.F.type_list_insert mt_insert (pv 3) (pa_cons (pv 9) (pa_cons (pe_cal H_l_fact_pieces (hr.mono (by decide)) pass0 (pa_cons (pv 1) (pa_cons (pv 5) pa_nil))) pa_nil)))))))))))
  (pss_cons (ps_for PassesOwn.never rfl (pi_range1 (by rfl) T.b_range (pa_cons (pe_ix ix_list (pe_lst (pa_cons pe_int (pa_cons pe_int (pa_cons pe_int (pa_cons pe_int pa_nil))))) (pe_cal H_l_take (hr.mono (by decide)) pass0 (pa_cons (pv 0) (pa_cons pe_int pa_nil))) (fun _ _ => rfl)) pa_nil)) (pg_name (i := 6) sc_l_book_lines.nd rfl (Or.inl rfl))
  (pss_one (ps_expr (pe_bm PySem.F.plainAttrs_list PySem.F.slot_list_insert PySem.F.type_list_insert mt_insert (pv 3) (pa_cons (pe_cal H_l_take (hr.mono (by decide)) pass0 (pa_cons (pv 0) (pa_cons (pe_op op_add (pe_callB call_len_seq (by rfl) T.b_len PySem.boot_len (pa_cons (pv 3) pa_nil)) pe_int) pa_nil))) (pa_cons (pe_lst pa_nil) pa_nil))))))
  (pss_one (ps_ret (pv 3))))))), ?_⟩
    refine ⟨by decide, fun pl hpl => ?_⟩
    have npl := hd.ne hpl
    -- the tables
    refine ⟨_, rfl, t, rfl, ⟨_, SqT.of (by rw [upd_ne (ne_of_none ht hpl)]; exact ht)⟩, for_tup (K := K) (a := t) (xs := refsT es) (fun i σ H' => ∃ y4, σ = [some (.ref d), some (.ref t), some (.ref pf), some (.ref pl), y4, none, none, none, none, none] ∧ Ls d pl i H' ∧ Bx [d] H H' ∧ Dr d H')
      ⟨none, rfl, ⟨[], upd_same, Nat.le_refl 0, fun x hx => nomatch hx⟩, .new hpl, hd.new hpl⟩ (fun i σ H' _ ⟨_, _, _, b, _⟩ => SqT.of (b.t _ _ ht)) ?_ ?_⟩
    · rintro i x σ H1 hx ⟨y4, rfl, ⟨rs, hrs, hrl, hrx⟩, b1, d1⟩
      have hi : i < es.length := by
        have := (List.getElem?_eq_some_iff.mp hx).1
        unfold refsT at this
        rw [List.length_map] at this
        exact this
      obtain ⟨e, he, rfl⟩ := List.mem_map.mp (List.mem_of_getElem? hx)
      refine ⟨_, rfl, .inl ⟨rfl, _, SqL.of hrs⟩, ?_⟩
      refine ⟨_, rfl, _, rfl, pl, _, rfl, .inl (SqL.of hrs), _, _, rfl, rfl, d, _, rfl, by omega, d1, fun r H2 r0 r1 b2 d2 => ?_⟩
      refine ⟨_, rfl, _, rfl, (heb e he).mono (b1.trans b2), fun qa H3 ys hqa hya hyl hyp b3 => ?_⟩
      have b23 := b2.trans b3.any
      have hrs3 := b23.l1 npl hrs
      have nqd : qa ≠ d := d2.ne hqa
      have nqp : qa ≠ pl := (ne_of_none (b2.l1 npl hrs) hqa).symm
      refine ⟨pl, rs, r, _, rfl, rfl, hrs3, sz_lt (by omega), r0, by omega, _, rfl, ?_, Bx.mut (b1.trans b23) (.inr hpl) hrs3, (d2.b0 b3).at npl.symm⟩
      exact Ls.ins r hrs3 hrl (fun x h => (hrx x h).mono b23.two) ⟨qa, ys, rfl, nqd, nqp, hya, hyl, hyp⟩
    rintro σ H1 ⟨y4, rfl, l1, b1, d1⟩
    have l1' : Ls d pl 16 H1 := l1.up (by unfold refsT; rw [List.length_map]; exact hel)
    -- the facts
    refine ⟨_, rfl, pf, rfl, ⟨_, SqL.of (b1.l1 npf hpf)⟩, for_list (K := K) (a := pf) (xs := fs) (fun i σ H' => ∃ y4 y5 y6 y7 y8 y9, σ = [some (.ref d), some (.ref t), some (.ref pf), some (.ref pl), y4, y5, y6, y7, y8, y9] ∧ Ls d pl (16 + 2 * i) H' ∧ Bx [d] H H' ∧ Dr d H')
      ⟨_, _, _, _, _, _, rfl, l1', b1, d1⟩ (fun i σ H' _ ⟨_, _, _, _, _, _, _, _, b, _⟩ => SqL.of (b.l1 npf hpf)) ?_ ?_⟩
    · rintro i fv σ H2 hx ⟨y4, y5, y6, y7, y8, y9, rfl, l2, b2, d2⟩
      have hi : i < fs.length := (List.getElem?_eq_some_iff.mp hx).1
      have hfv := hfc fv (List.mem_of_getElem? hx)
      refine ⟨_, rfl, d, 5, rfl, by decide, d2, fun r H3 r0 r1 b3 d3 => ?_⟩
      -- one turn or two
      have tm : ∃ n : Int, 0 ≤ n ∧ n ≤ 2 ∧ n = 1 + (if decide (V.int r = V.int 0) = true then 1 else 0) := by
        refine ⟨_, ?_, ?_, rfl⟩
        · split <;> decide
        · split <;> decide
      obtain ⟨n, n0, n2, en⟩ := tm
      refine ⟨rfl, .inr ⟨_, rfl, _, _, rfl, rfl, n, by rw [en], by omega, by omega, for_range (n := n.toNat) (fun j σ H' => ∃ y4 y6 y7 y8 y9, σ = [some (.ref d), some (.ref t), some (.ref pf), some (.ref pl), y4, some fv, y6, y7, y8, y9] ∧ Ls d pl (16 + 2 * i + j) H' ∧ Bx [d] H H' ∧ Dr d H')
        ⟨_, _, _, _, _, rfl, l2.mono b3 npl, b2.trans b3, d3⟩ ?_ ?_⟩⟩
      · rintro j σ H4 hj ⟨y4, y6, y7, y8, y9, rfl, ⟨rs, hrs, hrl, hrx⟩, b4, d4⟩
        obtain ⟨fp, frw, fnm, frs, rfl, hfp, hfrest⟩ := hfv.mono b4
        -- where the fact's table is told
        refine ⟨_, rfl, pl, _, rfl, .inl (SqL.of hrs), _, rfl, by omega, by omega, for_range (n := ((rs.length : Nat) : Int).toNat) (fun k σ H' => ∃ (y4 y6 y8 y9 : Option V) (m : Int), σ = [some (.ref d), some (.ref t), some (.ref pf), some (.ref pl), y4, some (.ref fp), y6, some (.int m), y8, y9] ∧ 0 ≤ m ∧ m ≤ (k : Int) ∧ Bx [] H4 H')
          ⟨_, _, _, _, 0, rfl, Int.le_refl 0, Int.le_refl 0, .refl _ _⟩ ?_ ?_⟩
        · rintro k σ H5 hk ⟨y4, y6, y8, y9, m, rfl, m0, m1, b5⟩
          have hrs5 := b5.l0 hrs
          have hkl : k < rs.length := by omega
          obtain ⟨lv, elv, elv2⟩ := at_int (xs := rs) (i := 0 + (k : Int)) (by omega) (by omega)
          obtain ⟨la, zs, rfl, nla, nlp, hla, hll, hlp⟩ := hrx lv (List.mem_of_getElem? elv2)
          have hla5 := b5.l0 hla
          have stay : ∀ H6, Bx [] H5 H6 → ∃ (y4' y6' y8' y9' : Option V) (m' : Int), [some (V.ref d), some (.ref t), some (.ref pf), some (.ref pl), y4, some (.ref fp), y6, some (.int m), some (.int (0 + (k : Int))), y9] = [some (.ref d), some (.ref t), some (.ref pf), some (.ref pl), y4', some (.ref fp), y6', some (.int m'), y8', y9'] ∧ 0 ≤ m' ∧ m' ≤ ((k + 1 : Nat) : Int) ∧ Bx [] H4 H6 :=
            fun H6 b6 => ⟨_, _, _, _, m, rfl, m0, by omega, b5.trans b6⟩
          refine ⟨_, rfl, _, rfl, pl, _, _, _, rfl, rfl, SqL.of hrs5, elv, 1, rfl, slice_strs hla5 fun p6 H6 hp6 e6 c6 => ?_⟩
          refine ⟨by show 1 ≤ sizeLine; decide, fun p7 hp7 => ?_⟩
          have c7 : Bx [] H6 (upd H6 p7 (.lst [.str "table"])) := .new hp7
          have c57 := c6.trans c7
          refine ⟨_, .list ([("table" : Str)].map PyData.str), .lst (SqL.of (c7.l0 e6)) (dp_strs _), .lst (SqL.of upd_same) (dp_strs [("table" : Str)]), shaped_strs fun z hz c hc => ((hlp z (cutL_mem hz)).2.2 c hc).2, shaped_strs fun z hz c hc => ?_, _, rfl, ite2 (fun _ => ?_) (fun _ => iteF (stay _ c57))⟩
          · rw [List.mem_singleton.mp hz] at hc
            exact (pn_kw.1.2.2 c hc).2
          have hla7 := c57.l0 hla5
          refine ⟨_, rfl, _, rfl, pl, _, _, _, rfl, rfl, SqL.of (c57.l0 hrs5), elv, la, _, rfl, .inl (SqL.of hla7), rfl, _, rfl, ite2 (fun h4 => ?_) (fun _ => iteF (stay _ c57))⟩
          have h4' : ((zs.map V.str).length : Int) = 4 := V.int.inj (of_decide_eq_true h4)
          rw [List.length_map] at h4'
          obtain ⟨z1, _, _, ez1⟩ := at_strs (ws := zs) (r := 1) (by decide) (by omega)
          refine ⟨_, rfl, _, rfl, pl, _, _, _, rfl, rfl, SqL.of (c57.l0 hrs5), elv, la, _, 1, _, rfl, rfl, SqL.of hla7, ez1, ?_⟩
          refine ⟨_, rfl, fp, _, 0, _, rfl, rfl, SqT.of (c57.t _ _ (b5.t _ _ hfp)), atI_nat (j := 0) rfl, rfl, _, rfl, ite2 (fun _ => ?_) (fun _ => stay _ c57)⟩
          exact ⟨_, rfl, _, _, rfl, rfl, _, _, _, _, 0 + (k : Int) + 1, rfl, by omega, by omega, b5.trans c57⟩
        · rintro σ H5 ⟨y4, y6, y8, y9, m, rfl, m0, m1, b5⟩
          have hrs5 := b5.l0 hrs
          have m1' : m ≤ (rs.length : Int) := by omega
          have d5 := d4.b0 b5
          refine ⟨_, rfl, _, rfl, _, rfl, pl, _, rfl, .inl (SqL.of hrs5), _, rfl, _, _, rfl, rfl, _, _, rfl, rfl, d, _, rfl, by omega, d5, fun r5 H6 r50 r51 b6 d6 => ?_⟩
          refine ⟨_, _, rfl, rfl, ?_⟩
          have hrs6 := b6.l1 npl hrs5
          have b46 : Bx [d] H4 H6 := b5.any.trans b6
          have b06 := b4.trans b46
          refine ⟨_, rfl, .inl ⟨rfl, _, SqL.of hrs6⟩, ?_⟩
          refine ⟨_, rfl, _, rfl, _, rfl, t, es, _, rfl, b06.t _ _ ht, (fun e he => b06.t _ _ (hes e he)), (fun e he => (heb e he).mono b06), hfv.mono b06, fun qa H7 ys hqa hya hyl hyp b7 => ?_⟩
          have hrs7 := b7.l0 hrs6
          have nqd : qa ≠ d := d6.ne hqa
          have nqp : qa ≠ pl := (ne_of_none hrs6 hqa).symm
          refine ⟨pl, rs, m + r5, _, rfl, rfl, hrs7, sz_lt (by omega), by omega, by omega, _, _, _, _, _, rfl, ?_, Bx.mut (b06.trans b7.any) (.inr hpl) hrs7, (d6.b0 b7).at npl.symm⟩
          exact Ls.ins (m + r5) hrs7 hrl (fun x h => (hrx x h).mono (b46.trans b7.any).two) ⟨qa, ys, rfl, nqd, nqp, hya, hyl, hyp⟩
      · rintro σ H4 ⟨y4, y6, y7, y8, y9, rfl, l4, b4, d4⟩
        exact ⟨_, _, _, _, _, _, rfl, l4.up (by omega), b4, d4⟩
    rintro σ H2 ⟨y4, y5, y6, y7, y8, y9, rfl, l2, b2, d2⟩
    have l2' : Ls d pl 32 H2 := l2.up (by omega)
    -- the empty lines
    refine ⟨by decide, fun l0 hl0 => ?_⟩
    refine ⟨_, rfl, d, 4, rfl, by decide, d2.new hl0, fun r H3 r0 r1 b3 d3 => ?_⟩
    obtain ⟨n, hn, en⟩ := at_ints (ns := [0, 1, 0, 3]) r0 r1
    have hn3 : 0 ≤ n ∧ n ≤ 3 := (by decide : ∀ n ∈ ([0, 1, 0, 3] : List Int), 0 ≤ n ∧ n ≤ 3) n hn
    have b23 : Bx [d] H2 H3 := (Bx.new hl0).trans b3
    refine ⟨l0, [.int 0, .int 1, .int 0, .int 3], r, _, rfl, rfl, SqL.of (b3.l1 (d2.ne hl0) upd_same), en, n, rfl, by omega, by omega, for_range (n := n.toNat) (fun i σ H' => ∃ y4 y5 y6 y7 y8 y9, σ = [some (.ref d), some (.ref t), some (.ref pf), some (.ref pl), y4, y5, y6, y7, y8, y9] ∧ Ls d pl (32 + i) H' ∧ Bx [d] H H' ∧ Dr d H')
      ⟨_, _, _, _, _, _, rfl, l2'.mono b23 npl, b2.trans b23, d3⟩ ?_ ?_⟩
    · rintro i σ H4 hi ⟨y4, y5, y6, y7, y8, y9, rfl, ⟨rs, hrs, hrl, hrx⟩, b4, d4⟩
      refine ⟨_, rfl, .inl ⟨rfl, _, SqL.of hrs⟩, ?_⟩
      refine ⟨_, rfl, _, rfl, pl, _, rfl, .inl (SqL.of hrs), _, _, rfl, rfl, d, _, rfl, by omega, d4, fun r5 H5 r50 r51 b5 d5 => ?_⟩
      refine ⟨by decide, fun e he => ?_⟩
      have hrs5 := b5.l1 npl hrs
      have nep : e ≠ pl := (ne_of_none hrs5 he).symm
      have b5n : Bx [d] H4 (upd H5 e (.lst [])) := b5.trans (.new he)
      have hrs6 : upd H5 e (.lst []) pl = some (.lst rs) := by
        rw [upd_ne nep.symm]
        exact hrs5
      refine ⟨pl, rs, r5, _, rfl, rfl, hrs6, sz_lt (by omega), r50, by omega, _, _, _, _, _, _, rfl, ?_, Bx.mut (b4.trans b5n) (.inr hpl) hrs6, (d5.new he).at npl.symm⟩
      exact Ls.ins r5 hrs6 hrl (fun x h => (hrx x h).mono b5n.two) ⟨e, [], rfl, d5.ne he, nep, upd_same, Nat.zero_le _, fun z hz => nomatch hz⟩
    · rintro σ H4 ⟨y4, y5, y6, y7, y8, y9, rfl, ⟨rs, hrs, hrl, hrx⟩, b4, d4⟩
      refine ⟨_, rfl, q pl H4 rs npl hrs (by omega) (fun x hx => ?_) b4 d4⟩
      obtain ⟨a, zs, e, na, _, ha, z⟩ := hrx x hx
      exact ⟨a, zs, e, na, ha, z⟩
end
end Ev
namespace Ev
open PySem PySem.Spec PyProof.Rows L2
/-! ### joined texts: how long, which signs -/
theorem joinL_len (S : List Nat) : ∀ ls : List (List Nat), (TL.joinL S ls).length ≤ (ls.map List.length).sum + ls.length * S.length
  | [] => Nat.zero_le _
  | [p] => by
    show p.length ≤ _
    rw [List.map_cons, List.sum_cons]
    omega
  | p :: q :: r => by
    have ih := joinL_len S (q :: r)
    show (p ++ (S ++ TL.joinL S (q :: r))).length ≤ _
    rw [List.length_append, List.length_append, List.map_cons, List.sum_cons, List.length_cons, Nat.succ_mul]
    omega
theorem joinL_mem {S : List Nat} {c : Nat} : ∀ {ls : List (List Nat)}, c ∈ TL.joinL S ls → c ∈ S ∨ ∃ l ∈ ls, c ∈ l
  | [], h => nomatch h
  | [p], h => .inr ⟨p, List.mem_singleton.mpr rfl, h⟩
  | p :: q :: r, h => by
    have h' : c ∈ p ++ (S ++ TL.joinL S (q :: r)) := h
    rcases List.mem_append.mp h' with h | h
    · exact .inr ⟨p, List.mem_cons_self, h⟩
    · rcases List.mem_append.mp h with h | h
      · exact .inl h
      · rcases joinL_mem h with h | ⟨l, hl, h⟩
        · exact .inl h
        · exact .inr ⟨l, List.mem_cons_of_mem _ hl, h⟩
theorem join_cps (y : Str) (zs : List Str) : (Txt.join y zs).cps.toList = TL.joinL y.cps.toList (zs.map fun z => z.cps.toList) := by
  rw [TL.join_eq]
  exact TL.tl_join y zs
theorem sum_le {n : Nat} : ∀ {zs : List Str}, (∀ z ∈ zs, z.length ≤ n) → (zs.map (·.length)).sum ≤ n * zs.length
  | [], _ => Nat.zero_le _
  | z :: r, h => by
    have ih := sum_le (zs := r) fun y hy => h y (List.mem_cons_of_mem _ hy)
    have h1 := h z List.mem_cons_self
    rw [List.map_cons, List.sum_cons, List.length_cons, Nat.mul_succ]
    omega
theorem join_len (y : Str) (zs : List Str) : (Txt.join y zs).length ≤ (zs.map (·.length)).sum + zs.length * y.length := by
  have h := joinL_len y.cps.toList (zs.map fun z => z.cps.toList)
  rw [List.map_map, List.length_map, len_cps] at h
  rw [← len_cps, join_cps]
  have e : (List.length ∘ fun z : Str => z.cps.toList) = fun z : Str => z.length := by
    funext z
    exact len_cps z
  rw [e] at h
  exact h
theorem join_mem {y : Str} {zs : List Str} {c : Nat} (h : c ∈ (Txt.join y zs).cps.toList) : c ∈ y.cps.toList ∨ ∃ z ∈ zs, c ∈ z.cps.toList := by
  rw [join_cps] at h
  rcases joinL_mem h with h | ⟨l, hl, h⟩
  · exact .inl h
  · obtain ⟨z, hz, rfl⟩ := List.mem_map.mp hl
    exact .inr ⟨z, hz, h⟩
/-- the text of a line -/
def Lt (z : Str) : Prop := z.length ≤ 600 ∧ ∀ c ∈ z.cps.toList, Gc c
theorem tabs_of {H : Hp} : ∀ {ts : List V}, (∀ t ∈ ts, Tb H t) → ∃ es : List TE4, ts = refsT es ∧ (∀ e ∈ es, TabAt H e) ∧ (∀ e ∈ es, Tb H (.ref e.1))
  | [], _ => ⟨[], rfl, (fun e he => nomatch he), fun e he => nomatch he⟩
  | t :: r, h => by
    obtain ⟨es, e1, e2, e3⟩ := tabs_of (ts := r) fun y hy => h y (List.mem_cons_of_mem _ hy)
    have ht := h t List.mem_cons_self
    obtain ⟨p, nm, k, s, rfl, hp, _⟩ := id ht
    refine ⟨(p, nm, k, s) :: es, ?_, fun e he => ?_, fun e he => ?_⟩
    · rw [e1]
      rfl
    · rcases List.mem_cons.mp he with rfl | he
      · exact hp
      · exact e2 e he
    · rcases List.mem_cons.mp he with rfl | he
      · exact ht
      · exact e3 e he
def ILt (d D : Addr) (H1 : Hp) (j : Nat) (H' : Hp) : Prop := ∃ zs : List Str, H' D = some (.lst (zs.map V.str)) ∧ zs.length = j ∧ (∀ z ∈ zs, Lt z) ∧ Bx [d] H1 H' ∧ Dr d H'
theorem ILt.more {d D : Addr} {H1 H' H2 : Hp} {j : Nat} {z : Str} (h : ILt d D H1 j H') (hD : H1 D = none) (nD : D ≠ d) (b : Bx [d] H' H2) (d2 : Dr d H2) (hz : Lt z) (hj : j ≤ 1000) :
    ∃ acc, H2 D = some (.lst acc) ∧ acc.length < sizeLine ∧ ILt d D H1 (j + 1) (upd H2 D (.lst (acc ++ [.str z]))) := by
  obtain ⟨zs, hzs, hl, hp, b1, d1⟩ := h
  have hD2 := b.l1 nD hzs
  refine ⟨_, hD2, ?_, zs ++ [z], ?_, ?_, fun y hy => ?_, Bx.mut (b1.trans b) (.inr hD) hD2, d2.at nD.symm⟩
  · rw [List.length_map]
    exact sz_lt (by omega)
  · rw [upd_same, List.map_append]
    rfl
  · rw [List.length_append, hl]
    rfl
  · rcases List.mem_append.mp hy with hy | hy
    · exact hp y hy
    · rw [List.mem_singleton.mp hy]
      exact hz
section
variable {P : Program} {w : World} {K : PySem.W.Frag} {mg : Str → Option Value} {base : Heap}
/-! ### _law_any_lines -/
def sp_any_lines : Sp := fun vs H Q _ => ∃ (d a : Addr) (ws : List Str), vs = [.ref d, .ref a] ∧ a ≠ d ∧ H a = some (.lst (ws.map V.str)) ∧ ws.length = 10 ∧ (∀ z ∈ ws, Pn 23 z) ∧ Dr d H ∧
  ∀ q H' (zs : List Str), q ≠ d → H' q = some (.lst (zs.map V.str)) → zs.length ≤ 40 → (∀ z ∈ zs, Lt z) → Bx [d] H H' → Dr d H' → Q (.ref q) H'
theorem ok_l_any_lines (T : Tx K mg) : Cal P w K mg base CX0 7 "_law_any_lines" ["_law_draws_here", "_law_words_here"] sp_any_lines := by
  have H_l_take := ok_l_take (P := P) (w := w) (base := base) T
  have H_l_any_chars := ok_l_any_chars (P := P) (w := w) (base := base) T
  have H_l_some_piece := ok_l_some_piece (P := P) (w := w) (base := base) T
  have H_l_any_schema := ok_l_any_schema (P := P) (w := w) (base := base) T
  have H_l_any_facts := ok_l_any_facts (P := P) (w := w) (base := base) T
  have H_l_book_lines := ok_l_book_lines (P := P) (w := w) (base := base) T
  have H_l_short := ok_l_short (P := P) (w := w) (base := base) T
  have H_l_changed := ok_l_changed (P := P) (w := w) (base := base) T
  have H_l_spaced := ok_l_spaced (P := P) (w := w) (base := base) T
  refine Cal.of T.d_l_any_lines sc_l_any_lines (fun vs H Q E h => ?len) (fun _ _ _ _ _ _ _ us hl => match us, hl with | [_, _], _ => rfl) (fun f cdv A outer s H vs Q E hr h => ?body)
  case len =>
    obtain ⟨d, a, ws, rfl, _⟩ := h
    rfl
  case body =>
    obtain ⟨d, a, ws, rfl, nad, ha, hwl, hwp, hd, q⟩ := h
    have hws : Ws ws := ⟨fun z => by rw [z] at hwl; exact absurd hwl (by decide), hwp⟩
    refine ⟨_, PSs.nox (pss_cons (ps_set (i := 2) sc_l_any_lines.nd rfl (Or.inr rfl) (pe_cal H_l_take (hr.mono (by decide)) pass0 (pa_cons (pv 0) (pa_cons pe_int pa_nil))))
  (pss_cons (ps_if (pt_cmpR op_eq (pv 2) pe_int (nomark _)) (pss_one (ps_ret (pe_lc (own := [("_law_k", 3)]) (g := gName 3) (by rfl) sc_l_any_lines.nd (pi_range1 (by rfl) T.b_range (pa_cons (pe_op op_add pe_int (pe_cal H_l_take (hr.mono (by decide)) pass0 (pa_cons (pv 0) (pa_cons pe_int pa_nil)))) pa_nil)) (blkOk_by (own := [("_law_k", 3)]) (N := n_l_any_lines) (sc := defScope s_l_any_lines) (by decide +kernel)) (fun _ _ _ _ _ => pg_name (i := 3) sc_l_any_lines.nd rfl (Or.inl rfl)) (fun _ _ _ _ _ => pts_nil) (fun _ _ _ _ _ => (pe_cal H_l_any_chars (hr.mono (by decide)) pass0 (pa_cons (pv 0) (pa_cons (pe_cal H_l_take (hr.mono (by decide)) pass0 (pa_cons (pv 0) (pa_cons pe_int pa_nil))) pa_nil)))))))
  pss_nil)
  (pss_cons (ps_if (pt_cmpR op_eq (pv 2) pe_int (nomark _)) (pss_cons (ps_set (i := 4) sc_l_any_lines.nd rfl (Or.inl rfl) (pe_lst pa_nil))
  (pss_cons (ps_for PassesOwn.never rfl (pi_range1 (by rfl) T.b_range (pa_cons (pe_op op_add pe_int (pe_cal H_l_take (hr.mono (by decide)) pass0 (pa_cons (pv 0) (pa_cons pe_int pa_nil)))) pa_nil)) (pg_name (i := 3) sc_l_any_lines.nd rfl (Or.inl rfl))
  (pss_one (ps_expr (pe_bm PySem.F.plainAttrs_list PySem.F.slot_list_append PySem.F.type_list_append mt_append (pv 4) (pa_cons (pe_join pe_str (pe_lc (own := [("_law_j", 8)]) (g := gName 8) (by rfl) sc_l_any_lines.nd (pi_range1 (by rfl) T.b_range (pa_cons (pe_cal H_l_take (hr.mono (by decide)) pass0 (pa_cons (pv 0) (pa_cons pe_int pa_nil))) pa_nil)) (blkOk_by (own := [("_law_j", 8)]) (N := n_l_any_lines) (sc := defScope s_l_any_lines) (by decide +kernel)) (fun _ _ _ _ _ => pg_name (i := 8) sc_l_any_lines.nd rfl (Or.inl rfl)) (fun _ _ _ _ _ => pts_nil) (fun _ _ _ _ _ => (pe_cal H_l_some_piece (hr.mono (by decide)) pass0 (pa_cons (pv 0) (pa_cons (pv 1) pa_nil)))))) pa_nil)))))
  (pss_one (ps_ret (pv 4)))))
  pss_nil)
  (pss_cons (ps_set (i := 5) sc_l_any_lines.nd rfl (Or.inl rfl) (pe_slice sl_tupC (pe_cal H_l_any_schema (hr.mono (by decide)) pass0 (pa_cons (pv 0) (pa_cons (pv 1) pa_nil))) po_none (po_some pe_int)))
  (pss_cons (ps_set (i := 6) sc_l_any_lines.nd rfl (Or.inl rfl) (pe_cal H_l_book_lines (hr.mono (by decide)) pass0 (pa_cons (pv 0) (pa_cons (pv 5) (pa_cons (pe_cal H_l_any_facts (hr.mono (by decide)) pass0 (pa_cons (pv 0) (pa_cons (pe_lst pa_nil) (pa_cons (pv 1) (pa_cons (pv 5) (pa_cons pe_int pa_nil)))))) pa_nil)))))
  (pss_cons (ps_setLc (i := 6) (own := [("_law_pieces", 7)]) (g := gName 7) (by rfl) sc_l_any_lines.nd rfl rfl (sw_true rfl rfl rfl (by decide +kernel)) (pi_list (pv 6)) (blkOk_by (own := [("_law_pieces", 7)]) (N := n_l_any_lines) (sc := defScope s_l_any_lines) (by decide +kernel)) (fun _ _ _ _ _ => pg_name (i := 7) sc_l_any_lines.nd rfl (Or.inl rfl)) (fun _ _ _ _ _ => pts_nil) (fun _ _ _ _ _ => (pe_cal H_l_short (hr.mono (by decide)) pass0 (pa_cons (pv 7) pa_nil))))
  (pss_cons (ps_for PassesOwn.never rfl (pi_range1 (by rfl) T.b_range (pa_cons (pe_cal H_l_take (hr.mono (by decide)) pass0 (pa_cons (pv 0) (pa_cons pe_int pa_nil))) pa_nil)) (pg_name (i := 3) sc_l_any_lines.nd rfl (Or.inl rfl))
  (pss_one (ps_set (i := 6) sc_l_any_lines.nd rfl (Or.inl rfl) (pe_cal H_l_changed (hr.mono (by decide)) pass0 (pa_cons (pv 0) (pa_cons (pv 1) (pa_cons (pv 6) pa_nil)))))))
  (pss_cons (ps_if (pt_cmpR op_eq (pv 2) pe_int (nomark _)) (pss_one (ps_ret (pe_lc (own := [("_law_pieces", 7)]) (g := gName 7) (by rfl) sc_l_any_lines.nd (pi_list (pv 6)) (blkOk_by (own := [("_law_pieces", 7)]) (N := n_l_any_lines) (sc := defScope s_l_any_lines) (by decide +kernel)) (fun _ _ _ _ _ => pg_name (i := 7) sc_l_any_lines.nd rfl (Or.inl rfl)) (fun _ _ _ _ _ => pts_nil) (fun _ _ _ _ _ => (pe_joinK K pe_str (pv 7))))))
  pss_nil)
  (pss_one (ps_ret (pe_lc (own := [("_law_pieces", 7)]) (g := gName 7) (by rfl) sc_l_any_lines.nd (pi_list (pv 6)) (blkOk_by (own := [("_law_pieces", 7)]) (N := n_l_any_lines) (sc := defScope s_l_any_lines) (by decide +kernel)) (fun _ _ _ _ _ => pg_name (i := 7) sc_l_any_lines.nd rfl (Or.inl rfl)) (fun _ _ _ _ _ => pts_nil) (fun _ _ _ _ _ => (pe_cal H_l_spaced (hr.mono (by decide)) pass0 (pa_cons (pv 0) (pa_cons (pv 7) (pa_cons (pe_callTy call_int1 (by rfl) T.b_int boot_int (pa_cons (pe_cmpR op_gt (pv 2) pe_int (nomark _)) pa_nil)) pa_nil)))))))))))))))), ?_⟩
    refine ⟨_, rfl, d, 8, rfl, by decide, hd, fun kd H1 k0 k1 b1 d1 => ?_⟩
    have ha1 := b1.l1 nad ha
    refine ⟨_, rfl, rfl, _, rfl, ite2 (fun _ => ?_) (fun _ => ?_)⟩
    · -- drawn signs
      refine ⟨_, rfl, d, 5, rfl, by decide, d1, fun r H2 r0 r1 b2 d2 => ?_⟩
      refine ⟨1, r, rfl, rfl, _, rfl, by omega, by omega, fun D hD => ?_⟩
      have nD := d2.ne hD
      refine lc_range (lo := 0) (n := (1 + r).toNat) (ILt d D H2) ⟨[], upd_same, rfl, (fun z hz => nomatch hz), .new hD, d2.new hD⟩ ?_ ?_
      · rintro j H3 hj p
        have d3 : Dr d H3 := by
          obtain ⟨_, _, _, _, _, d3⟩ := p
          exact d3
        refine ⟨rfl, tyes ?_⟩
        refine ⟨_, rfl, _, rfl, d, 26, rfl, by decide, d3, fun r4 H4 r40 r41 b4 d4 => ?_⟩
        refine ⟨d, r4, rfl, r40, by omega, d4, fun z H5 hz hzc b5 d5 => ?_⟩
        refine p.more hD nD (b4.trans b5) d5 ⟨?_, hzc⟩ (by omega)
        rw [← len_cps, hz]
        omega
      · rintro H3 ⟨zs, hzs, hzl, hzp, b3, d3⟩
        exact q D H3 zs nD hzs (by omega) hzp ((b1.trans b2).trans b3) d3
    refine ⟨_, rfl, rfl, _, rfl, ite2 (fun _ => ?_) (fun _ => ?_)⟩
    · -- drawn tokens
      refine ⟨by decide, fun pf hpf => ?_⟩
      have npf := d1.ne hpf
      refine ⟨_, rfl, d, 5, rfl, by decide, d1.new hpf, fun r H2 r0 r1 b2 d2 => ?_⟩
      refine ⟨1, r, rfl, rfl, _, rfl, by omega, by omega, for_range (n := (1 + r).toNat) (fun i σ H' => ∃ y3, σ = [some (.ref d), some (.ref a), some (.int kd), y3, some (.ref pf), none, none, none, none] ∧ ILt d pf H1 i H')
        ⟨_, rfl, [], b2.l1 npf upd_same, rfl, (fun z hz => nomatch hz), (Bx.new hpf).trans b2, d2⟩ ?_ ?_⟩
      · rintro i σ H3 hi ⟨y3, rfl, p⟩
        obtain ⟨zs, hzs, hzl, hzp, b3, d3⟩ := id p
        refine ⟨_, rfl, .inl ⟨rfl, _, SqL.of hzs⟩, ⟨_, rfl⟩, _, rfl, d, 11, rfl, by decide, d3, fun n H4 n0 n1 b4 d4 => ⟨n, rfl, by omega, by omega, fun D hD => ?_⟩⟩
        have nD := d4.ne hD
        refine lc_range (lo := 0) (n := n.toNat) (fun j H' => ∃ ps : List Str, H' D = some (.lst (ps.map V.str)) ∧ ps.length = j ∧ (∀ z ∈ ps, Pn 25 z) ∧ Bx [d] H4 H' ∧ Dr d H') ⟨[], upd_same, rfl, (fun z hz => nomatch hz), .new hD, d4.new hD⟩ ?_ ?_
        · rintro j H5 hj ⟨ps, hps, hpl, hpp, b5, d5⟩
          refine ⟨rfl, tyes ?_⟩
          refine ⟨_, rfl, _, rfl, d, a, ws, rfl, nad, (b4.trans b5).l1 nad (b3.l1 nad ha1), hws, by omega, d5, fun z H6 hz b6 d6 => ?_⟩
          have hD6 := b6.l1 nD hps
          refine ⟨_, hD6, ?_, ps ++ [z], ?_, ?_, fun y hy => ?_, Bx.mut (b5.trans b6) (.inr hD) hD6, d6.at nD.symm⟩
          · rw [List.length_map]
            exact sz_lt (by omega)
          · rw [upd_same, List.map_append]
            rfl
          · rw [List.length_append, hpl]
            rfl
          · rcases List.mem_append.mp hy with hy | hy
            · exact hpp y hy
            · rw [List.mem_singleton.mp hy]
              exact hz
        · rintro H5 ⟨ps, hps, hpl, hpp, b5, d5⟩
          have hsum := sum_le (n := 25) (zs := ps) fun z hz => (hpp z hz).2.1
          have hjl := join_len " " ps
          have h1 : (" " : Str).length = 1 := rfl
          rw [h1] at hjl
          refine ⟨" ", D, ps, rfl, rfl, .inl (SqL.of hps), by rw [h1]; omega, ?_⟩
          have hlt : Lt (Txt.join " " ps) := by
            refine ⟨by omega, fun c hc => ?_⟩
            rcases join_mem hc with hc | ⟨z, hz, hc⟩
            · have h2 : ∀ x ∈ (" " : Str).cps.toList, Gc x := by decide +kernel
              exact h2 c hc
            · exact (hpp z hz).2.2 c hc
          obtain ⟨acc, e1, e2, p'⟩ := p.more hpf npf (b4.trans b5) d5 hlt (by omega)
          exact ⟨pf, acc, _, rfl, rfl, e1, e2, _, rfl, p'⟩
      · rintro σ H3 ⟨y3, rfl, zs, hzs, hzl, hzp, b3, d3⟩
        exact ⟨_, rfl, q pf H3 zs npf hzs (by omega) hzp (b1.trans b3) d3⟩
    -- a book, changed
    refine ⟨_, rfl, _, rfl, d, a, ws, rfl, nad, ha1, hwl, hwp, d1, fun pt H2 ts npt hpt htl htb b2 d2 => ⟨16, rfl, pt, ts, rfl, SqT.of hpt, fun ps H3 hps hst => ?_⟩⟩
    obtain ⟨b3, d3⟩ := sl_keep (K := K) d2 hps
    have hps3 : H3 ps = some (.tup (cutV ts none (some 16))) := by
      rcases hps with ⟨rfl, rfl, e⟩ | ⟨_, rfl⟩
      · rw [e]
        exact hpt
      · exact upd_same
    have l16 : (cutV ts none (some 16)).length ≤ 16 := cut_le ts 16
    obtain ⟨es, ees, hes, heb⟩ := tabs_of (H := H3) (ts := cutV ts none (some 16)) fun t ht => (htb t (cut_mem ht)).mono b3
    rw [ees] at hps3 l16
    have hel : es.length ≤ 16 := by
      unfold refsT at l16
      rw [List.length_map] at l16
      exact l16
    have b13 := b2.trans b3
    have ha3 := b13.l1 nad ha1
    refine ⟨_, rfl, _, rfl, _, rfl, by decide, fun e he => ?_⟩
    have b4 : Bx [d] H3 (upd H3 e (.lst [])) := .new he
    refine ⟨_, rfl, _, rfl, d, e, a, ps, ws, refsT es, rfl, d3.ne he, upd_same, nad, b4.l1 nad ha3, hws, b4.t _ _ hps3, fun t ht => ?_, d3.new he, fun pf H5 fs npf hpf hfl hfc b5 d5 => ?_⟩
    · obtain ⟨e0, h0, rfl⟩ := List.mem_map.mp ht
      exact (heb e0 h0).mono b4
    have b35 := b4.trans b5
    refine ⟨d, ps, pf, es, fs, rfl, b35.t _ _ hps3, hel, (fun e he => b35.t _ _ (hes e he)), (fun e he => (heb e he).mono b35), npf, hpf, hfl, hfc, d5, fun pq H6 ys npq hpq hyl hyx b6 d6 => ?_⟩
    have b16 := (b13.trans b35).trans b6
    -- integers of at most twelve signs
    refine ⟨_, rfl, pq, rfl, ⟨_, SqL.of hpq⟩, fun D hD => ?_⟩
    have nD := d6.ne hD
    refine lc_list (K := K) (a := pq) (xs := ys) (fun j H' => ∃ rs : List V, H' D = some (.lst rs) ∧ rs.length = j ∧ (∀ x ∈ rs, Lb d D H' x) ∧ Bx [d] H6 H' ∧ Dr d H') ⟨[], upd_same, rfl, (fun z hz => nomatch hz), .new hD, d6.new hD⟩ (fun i H' _ ⟨_, _, _, _, b, _⟩ => SqL.of (b.l1 npq hpq)) ?_ ?_
    · rintro j x H7 hx ⟨rs, hrs, hrl, hrx, b7, d7⟩
      have hj := (List.getElem?_eq_some_iff.mp hx).1
      obtain ⟨xa, xz, rfl, nxa, hxa, hxl, hxp⟩ := (hyx x (List.mem_of_getElem? hx)).mono b7
      refine ⟨rfl, tyes ?_⟩
      refine ⟨_, rfl, xa, xz, rfl, hxa, hxp, by omega, fun qa H8 zs hqa hqa' hzl hzp b8 => ?_⟩
      have hrs8 := b8.l0 hrs
      have nqD : qa ≠ D := (ne_of_none hrs hqa).symm
      have nqd : qa ≠ d := d7.ne hqa
      have bm : Bx [d, D] H8 (upd H8 D (.lst (rs ++ [.ref qa]))) := Bx.mut (.refl _ _) (.inl (by simp)) hrs8
      refine ⟨rs, hrs8, sz_lt (by omega), rs ++ [.ref qa], upd_same, ?_, fun y hy => ?_, Bx.mut (b7.trans b8.any) (.inr hD) hrs8, (d7.b0 b8).at nD.symm⟩
      · rw [List.length_append, hrl]
        rfl
      · rcases List.mem_append.mp hy with hy | hy
        · exact ((hrx y hy).mono b8.any).mono bm
        · rw [List.mem_singleton.mp hy]
          refine Lb.mono ?_ bm
          exact ⟨qa, zs, rfl, nqd, nqD, hqa', by omega, hzp⟩
    rintro H7 ⟨rs, hrs, hrl, hrx, b7, d7⟩
    have b17 := b16.trans b7
    -- the changes
    refine ⟨_, rfl, d, 4, rfl, by decide, d7, fun n H8 n0 n1 b8 d8 => ?_⟩
    refine ⟨n, rfl, by omega, by omega, for_range (n := n.toNat) (fun i σ H' => ∃ (y3 : Option V) (p : Addr) (rs : List V), σ = [some (.ref d), some (.ref a), some (.int kd), y3, none, some (.ref ps), some (.ref p), none, none] ∧ p ≠ d ∧ H' p = some (.lst rs) ∧ rs.length ≤ 35 + i ∧ (∀ x ∈ rs, Ln d (19 + i) H' x) ∧ Bx [d] H1 H' ∧ Dr d H')
      ⟨_, D, rs, rfl, nD, b8.l1 nD hrs, by omega, fun x hx => ?_, b17.trans b8, d8⟩ ?_ ?_⟩
    · obtain ⟨xa, xz, rfl, nxa, _, hxa, hxl, hxp⟩ := hrx x hx
      exact Ln.mono ⟨xa, xz, rfl, nxa, hxa, hxl, hxp⟩ b8
    · rintro i σ H9 hi ⟨y3, p, rs, rfl, np, hp, hpl, hpx, b9, d9⟩
      refine ⟨_, rfl, _, rfl, _, rfl, d, a, p, ws, rs, 19 + i, rfl, nad, b9.l1 nad ha1, hws, by omega, np, hp, hpx, by omega, by omega, d9, fun qa H10 ys nqa hqa hyl hyx b10 d10 => ?_⟩
      exact ⟨_, qa, ys, rfl, nqa, hqa, by omega, hyx, b9.trans b10, d10⟩
    rintro σ H9 ⟨y3, p, rs, rfl, np, hp, hpl, hpx, b9, d9⟩
    have hpl' : rs.length ≤ 38 := by omega
    have hpx' : ∀ x ∈ rs, Ln d 22 H9 x := fun x hx => (hpx x hx).up (by omega)
    refine ⟨_, rfl, rfl, _, rfl, ite2 (fun _ => ?_) (fun _ => ?_)⟩
    · -- joined
      refine ⟨_, rfl, p, rfl, ⟨_, SqL.of hp⟩, fun D hD => ?_⟩
      have nD := d9.ne hD
      refine lc_list (K := K) (a := p) (xs := rs) (ILt d D H9) ⟨[], upd_same, rfl, (fun z hz => nomatch hz), .new hD, d9.new hD⟩ (fun i H' _ ⟨_, _, _, _, b, _⟩ => SqL.of (b.l1 np hp)) ?_ ?_
      · rintro j x H10 hx pp
        obtain ⟨_, _, _, _, b10, d10⟩ := id pp
        have hj := (List.getElem?_eq_some_iff.mp hx).1
        obtain ⟨xa, xz, rfl, nxa, hxa, hxl, hxp⟩ := (hpx' x (List.mem_of_getElem? hx)).mono b10
        have hsum := sum_le (n := 25) (zs := xz) fun z hz => (hxp z hz).2.1
        have hjl := join_len "" xz
        have h1 : ("" : Str).length = 0 := rfl
        rw [h1] at hjl
        refine ⟨rfl, tyes ⟨⟨_, rfl⟩, _, rfl, "", xa, xz, rfl, rfl, .inl (SqL.of hxa), by rw [h1]; omega, ?_⟩⟩
        refine pp.more hD nD (.refl _ _) d10 ⟨by omega, fun c hc => ?_⟩ (by omega)
        rcases join_mem hc with hc | ⟨z, hz, hc⟩
        · exact nomatch hc
        · exact (hxp z hz).2.2 c hc
      · rintro H10 ⟨zs, hzs, hzl, hzp, b10, d10⟩
        exact q D H10 zs nD hzs (by omega) hzp ((b1.trans b9).trans b10) d10
    · -- spaced
      refine ⟨_, rfl, p, rfl, ⟨_, SqL.of hp⟩, fun D hD => ?_⟩
      have nD := d9.ne hD
      refine lc_list (K := K) (a := p) (xs := rs) (ILt d D H9) ⟨[], upd_same, rfl, (fun z hz => nomatch hz), .new hD, d9.new hD⟩ (fun i H' _ ⟨_, _, _, _, b, _⟩ => SqL.of (b.l1 np hp)) ?_ ?_
      · rintro j x H10 hx pp
        obtain ⟨_, _, _, _, b10, d10⟩ := id pp
        have hj := (List.getElem?_eq_some_iff.mp hx).1
        obtain ⟨xa, xz, rfl, nxa, hxa, hxl, hxp⟩ := (hpx' x (List.mem_of_getElem? hx)).mono b10
        have hm : 0 ≤ (if decide (4 < kd) = true then (1 : Int) else 0) ∧ (if decide (4 < kd) = true then (1 : Int) else 0) ≤ 1 := by
          split <;> decide
        refine ⟨rfl, tyes ⟨_, rfl, _, rfl, _, rfl, kd, 4, rfl, rfl, .inr ⟨_, rfl, d, xa, xz, _, rfl, nxa, hxa, hxp, by omega, hm.1, hm.2, d10, fun z H11 hz hzc b11 d11 => ?_⟩⟩⟩
        exact pp.more hD nD b11 d11 ⟨by omega, hzc⟩ (by omega)
      · rintro H10 ⟨zs, hzs, hzl, hzp, b10, d10⟩
        exact q D H10 zs nD hzs (by omega) hzp ((b1.trans b9).trans b10) d10
end
end Ev
namespace Ev
open PySem PySem.Spec PyProof.Rows L2
theorem sqB {K : PySem.W.Frag} {a : Addr} {xs : List V} {H H' : Hp} (h : SqL K H a xs) (b : Bx [] H H') : SqL K H' a xs := by
  rcases h with (h | ⟨o, h⟩) | h
  · exact .inl (.inl (b.l0 h))
  · exact .inl (.inr ⟨o, b.l0 h⟩)
  · exact .inr h
/-- a list of ints at a -/
def Li (a : Addr) (n : Nat) (H : Hp) : Prop := ∃ ns : List Int, H a = some (.lst (ns.map V.int)) ∧ ns.length = n
theorem Li.l0 {a : Addr} {n : Nat} {H H' : Hp} (h : Li a n H) (b : Bx [] H H') : Li a n H' := by
  obtain ⟨ns, e, l⟩ := h
  exact ⟨ns, b.l0 e, l⟩
theorem Li.at {a p : Addr} {n : Nat} {H : Hp} {o : HO} (h : Li a n H) (ne : a ≠ p) : Li a n (upd H p o) := by
  obtain ⟨ns, e, l⟩ := h
  exact ⟨ns, by rw [upd_ne ne]; exact e, l⟩
section
variable {P : Program} {w : World} {K : PySem.W.Frag} {mg : Str → Option Value} {base : Heap}
/-! ### _law_draws -/
def sp_draws (K : PySem.W.Frag) : Sp := fun vs H Q _ => ∃ (a : Addr) (ns : List Int), vs = [.ref a, .int 1600] ∧ SqL K H a (ns.map V.int) ∧ ns.length ≤ 63 ∧ ∀ p H', H p = none → Bx [] H H' → Dr p H' → Q (.ref p) H'
theorem ok_l_draws (T : Tx K mg) : Cal P w K mg base CX0 1 "_law_draws" ["_law_script", "_law_many"] (sp_draws K) := by
  refine Cal.of T.d_l_draws sc_l_draws (fun vs H Q E h => ?len) (fun _ _ _ _ _ _ _ us hl => match us, hl with | [_, _], _ => rfl) (fun f cdv A outer s H vs Q E hr h => ?body)
  case len =>
    obtain ⟨a, ns, rfl, _⟩ := h
    rfl
  case body =>
    obtain ⟨a, ns, rfl, ha, hl, q⟩ := h
    refine ⟨_, PSs.nox (pss_cons (ps_setLc (i := 2) (own := [("_law_cell", 8)]) (g := gName 8) (by rfl) sc_l_draws.nd rfl rfl (sw_true rfl rfl rfl (by decide +kernel)) (pi_list (pv 0)) (blkOk_by (own := [("_law_cell", 8)]) (N := n_l_draws) (sc := defScope s_l_draws) (by decide +kernel)) (fun _ _ _ _ _ => pg_name (i := 8) sc_l_draws.nd rfl (Or.inl rfl)) (fun _ _ _ _ _ => pts_nil) (fun _ _ _ _ _ => (pe_callTy call_int1 (by rfl) T.b_int boot_int (pa_cons (pv 8) pa_nil))))
  (Evl.pss_cut (ps_if (pt_cmpR op_eq (pe_callB call_len_seq (by rfl) T.b_len PySem.boot_len (pa_cons (pv 2) pa_nil)) pe_int (nomark _)) (pss_one (ps_expr (pe_bm PySem.F.plainAttrs_list PySem.F.slot_list_append PySem.F.type_list_append mt_append (pv 2) (pa_cons pe_int pa_nil))))
  pss_nil)
  (pss_cons (ps_set (i := 3) sc_l_draws.nd rfl (Or.inl rfl) (pe_callTy call_list_of (by rfl) T.b_list boot_list (pa_cons (pv 2) pa_nil)))
  (pss_cons (ps_set (i := 4) sc_l_draws.nd rfl (Or.inl rfl) (pe_lst pa_nil))
  (pss_cons (ps_for PassesOwn.never rfl (pi_range1 (by rfl) T.b_range (pa_cons (pv 1) pa_nil)) (pg_name (i := 5) sc_l_draws.nd rfl (Or.inl rfl))
  (pss_cons (ps_set (i := 6) sc_l_draws.nd rfl (Or.inl rfl) (pe_op op_mod (pv 5) (pe_callB call_len_seq (by rfl) T.b_len PySem.boot_len (pa_cons (pv 2) pa_nil))))
  (pss_one (ps_if (pt_cmpR op_ge (pe_ix ix_list (pv 2) (pv 6) (fun _ _ => rfl)) (pe_op op_pow pe_int pe_int) (nomark _)) (pss_cons (ps_expr (pe_bm PySem.F.plainAttrs_list PySem.F.slot_list_append PySem.F.type_list_append mt_append (pv 4) (pa_cons (pe_op op_mod (pe_callTy call_int1 (by rfl) T.b_int boot_int (pa_cons (pe_ix ix_list (pv 3) (pv 6) (fun _ _ => rfl)) pa_nil)) pe_int) pa_nil)))
  (pss_one (ps_asg (pe_op op_fdiv (pe_ix ix_list (pv 3) (pv 6) (fun _ _ => rfl)) pe_int) (pg_sub (pv 3) (pv 6) set_list))))
  (pss_cons (ps_set (i := 7) sc_l_draws.nd rfl (Or.inl rfl) (pe_op op_mod (pe_callTy call_int1 (by rfl) T.b_int boot_int (pa_cons (pe_op op_add (pe_op op_add (pe_op op_mul (pe_ix ix_list (pv 2) (pv 6) (fun _ _ => rfl)) pe_int) (pe_op op_mul (pv 5) pe_int)) pe_int) pa_nil)) pe_int))
  (pss_one (ps_expr (pe_bm PySem.F.plainAttrs_list PySem.F.slot_list_append PySem.F.type_list_append mt_append (pv 4) (pa_cons (pe_op op_mod (pe_callTy call_int1 (by rfl) T.b_int boot_int (pa_cons (pe_op op_add (pe_op op_add (pe_op op_mul (pv 7) (pv 7)) (pe_op op_mul pe_int (pv 7))) (pv 5)) pa_nil)) pe_int) pa_nil)))))))))
  (pss_cons (ps_expr (pe_bm0 PySem.F.plainAttrs_list PySem.F.slot_list_reverse PySem.F.type_list_reverse mt_reverse (pv 4)))
  (pss_one (ps_ret (pv 4))))))))), ?_⟩
    -- the cells
    refine ⟨_, rfl, a, rfl, ⟨_, ha⟩, fun D hD => ?_⟩
    refine lc_list (K := K) (a := a) (xs := ns.map V.int) (fun j H' => H' D = some (.lst ((ns.take j).map V.int)) ∧ Bx [] H H') ⟨upd_same, .new hD⟩ (fun i H' _ p => sqB ha p.2) ?_ ?_
    · rintro j x H1 hx ⟨hD1, b1⟩
      obtain ⟨z, hz, rfl⟩ := List.mem_map.mp (List.mem_of_getElem? hx)
      have hz' : ns[j]? = some z := by
        rw [List.getElem?_map] at hx
        cases e : ns[j]? with
        | none => rw [e] at hx; cases hx
        | some y =>
          rw [e] at hx
          have e2 : V.int y = V.int z := Option.some.inj hx
          rw [V.int.inj e2]
      have hj := (List.getElem?_eq_some_iff.mp hz').1
      refine ⟨rfl, tyes ⟨_, rfl, .inl ⟨z, rfl, _, hD1, ?_, ?_, Bx.mut b1 (.inr hD) hD1⟩⟩⟩
      · rw [List.length_map, List.length_take]
        exact sz_lt (by omega)
      · rw [upd_same, List.take_add_one, hz', List.map_append]
        rfl
    rintro H1 ⟨hD1, b1⟩
    rw [List.length_map, List.take_length] at hD1
    -- at least one
    refine ⟨fun σ H' => ∃ n, σ = [some (.ref a), some (.int 1600), some (.ref D), none, none, none, none, none, none] ∧ Li D n H' ∧ 1 ≤ n ∧ n ≤ 63 ∧ Bx [] H H', ?_, ?_⟩
    · refine ⟨_, rfl, D, _, rfl, .inl (SqL.of hD1), rfl, _, rfl, ite2 (fun hc => ?_) (fun hc => ?_)⟩
      · refine ⟨_, rfl, .inl ⟨rfl, _, SqL.of hD1⟩, D, _, _, rfl, rfl, hD1, ?_, 1, rfl, ?_, Nat.le_refl 1, by decide, Bx.mut b1 (.inr hD) hD1⟩
        · rw [List.length_map]
          exact sz_lt (by omega)
        · have e0 : ((ns.map V.int).length : Int) = 0 := V.int.inj (of_decide_eq_true hc)
          rw [List.length_map] at e0
          refine ⟨ns ++ [0], ?_, ?_⟩
          · rw [upd_same, List.map_append]
            rfl
          · rw [List.length_append]
            show ns.length + 1 = 1
            omega
      · refine ⟨ns.length, rfl, ⟨ns, hD1, rfl⟩, ?_, hl, b1⟩
        have h0 : ns.length ≠ 0 := fun z => hc (decide_eq_true (by rw [List.length_map, z]; rfl))
        omega
    rintro σ H2 ⟨n, rfl, hcl, n1, n63, b2⟩
    obtain ⟨cs, hcs, hcsl⟩ := hcl
    refine ⟨_, rfl, D, _, rfl, .inl (SqL.of hcs), fun R hR => ?_⟩
    have c3 : Bx [] H2 (upd H2 R (.lst (cs.map V.int))) := .new hR
    have nDR : D ≠ R := ne_of_none hcs hR
    refine ⟨by decide, fun W hW => ?_⟩
    have c4 : Bx [] (upd H2 R (.lst (cs.map V.int))) (upd (upd H2 R (.lst (cs.map V.int))) W (.lst [])) := .new hW
    have nRW : R ≠ W := ne_of_none upd_same hW
    have hD3 := c3.l0 hcs
    have nDW : D ≠ W := ne_of_none hD3 hW
    have hR0 : H R = none := b2.free0 hR
    have hW0 : H W = none := (b2.trans c3).free0 hW
    refine ⟨_, rfl, 1600, rfl, by decide, by decide, for_range (n := 1600) (fun i σ H' => ∃ (y5 y6 y7 : Option V) (ws : List Int), σ = [some (.ref a), some (.int 1600), some (.ref D), some (.ref R), some (.ref W), y5, y6, y7, none] ∧ Li D n H' ∧ Li R n H' ∧ H' W = some (.lst (ws.map V.int)) ∧ ws.length = i ∧ Bx [] H H')
      ⟨_, _, _, [], rfl, ⟨cs, c4.l0 hD3, hcsl⟩, ⟨cs, c4.l0 upd_same, hcsl⟩, upd_same, rfl, (b2.trans c3).trans c4⟩ ?_ ?_⟩
    · rintro i σ H3 hi ⟨y5, y6, y7, ws, rfl, ⟨cs, hcs, hcsl⟩, ⟨rs, hrs, hrsl⟩, hws, hwsl, b3⟩
      refine ⟨_, rfl, _, rfl, D, _, rfl, .inl (SqL.of hcs), _, _, rfl, rfl, by rw [List.length_map]; omega, ?_⟩
      have m0 : 0 ≤ (0 + (i : Int)) % ((cs.map V.int).length : Int) := Int.emod_nonneg _ (by rw [List.length_map]; omega)
      have m1 : (0 + (i : Int)) % ((cs.map V.int).length : Int) < (cs.length : Int) := by
        have := Int.emod_lt_of_pos (0 + (i : Int)) (show (0 : Int) < ((cs.map V.int).length : Int) by rw [List.length_map]; omega)
        rw [List.length_map] at this
        rw [List.length_map]
        exact this
      obtain ⟨c, _, ec⟩ := at_ints (ns := cs) m0 m1
      obtain ⟨r, _, er⟩ := at_ints (ns := rs) m0 (by rw [hrsl, ← hcsl]; exact m1)
      -- one draw more
      have fin : ∀ (z : Int) (y6' y7 : Option V), ∃ (y5 y6 y7' : Option V) (ws' : List Int), [some (V.ref a), some (.int 1600), some (.ref D), some (.ref R), some (.ref W), some (.int (0 + (i : Int))), y6', y7, none] = [some (.ref a), some (.int 1600), some (.ref D), some (.ref R), some (.ref W), y5, y6, y7', none] ∧
          Li D n (upd H3 W (.lst (ws.map V.int ++ [.int z]))) ∧ Li R n (upd H3 W (.lst (ws.map V.int ++ [.int z]))) ∧ upd H3 W (.lst (ws.map V.int ++ [.int z])) W = some (.lst (ws'.map V.int)) ∧ ws'.length = i + 1 ∧ Bx [] H (upd H3 W (.lst (ws.map V.int ++ [.int z]))) := by
        intro z y6' y7
        refine ⟨_, _, _, ws ++ [z], rfl, Li.at ⟨cs, hcs, hcsl⟩ nDW, Li.at ⟨rs, hrs, hrsl⟩ nRW, ?_, ?_, Bx.mut b3 (.inr hW0) hws⟩
        · rw [upd_same, List.map_append]
          rfl
        · rw [List.length_append, hwsl]
          rfl
      have wl : (ws.map V.int).length < sizeLine := by
        rw [List.length_map]
        exact sz_lt (by omega)
      refine ⟨_, rfl, _, rfl, D, _, _, _, rfl, rfl, SqL.of hcs, ec, 10, 18, rfl, rfl, ⟨by decide, by decide, by decide⟩, c, _, rfl, rfl, _, rfl, ite2 (fun _ => ?_) (fun _ => ?_)⟩
      · refine ⟨_, rfl, .inl ⟨rfl, _, SqL.of hws⟩, _, rfl, _, rfl, R, _, _, _, rfl, rfl, SqL.of hrs, er, .inl ⟨r, rfl, r, 1000, rfl, rfl, by show (0 : Int) < 1000; decide, W, _, _, rfl, rfl, hws, wl, ?_⟩⟩
        have hrs4 : upd H3 W (.lst (ws.map V.int ++ [.int (r % 1000)])) R = some (.lst (rs.map V.int)) := by
          rw [upd_ne nRW]
          exact hrs
        refine ⟨_, rfl, _, rfl, R, _, _, _, rfl, rfl, SqL.of hrs4, er, r, 1000, rfl, rfl, ⟨by decide, by decide⟩, ?_⟩
        refine ⟨_, rfl, _, rfl, R, _, _, _, rfl, rfl, hrs4, ix_int m0 (by have e : ((rs.map V.int).length : Int) = (cs.length : Int) := (by rw [List.length_map, hrsl, ← hcsl]); rw [e]; exact m1), ?_⟩
        obtain ⟨x5, x6, x7, ws', e1, e2, e3, e4, e5, e6⟩ := fin (r % 1000) _ y7
        refine ⟨x5, x6, x7, ws', e1, e2.at nDR, ⟨rs.set ((0 + (i : Int)) % ((cs.map V.int).length : Int)).toNat (r / 1000), ?_, ?_⟩, ?_, e5, Bx.mut e6 (.inr hR0) hrs4⟩
        · rw [upd_same, List.map_set]
        · rw [List.length_set, hrsl]
        · rw [upd_ne nRW.symm]
          exact e4
      · refine ⟨_, rfl, _, rfl, D, _, _, _, rfl, rfl, SqL.of hcs, ec, c, 48271, rfl, rfl, .inr (by decide), _, rfl, _, 69621, rfl, rfl, .inr (by decide), _, _, rfl, rfl, _, 11, rfl, rfl, .inl ⟨_, rfl, _, 2147483647, rfl, rfl, by show (0 : Int) < 2147483647; decide, ?_⟩⟩
        have x0 : 0 ≤ (c * 48271 + (0 + (i : Int)) * 69621 + 11) % 2147483647 := Int.emod_nonneg _ (by decide)
        have x1 : (c * 48271 + (0 + (i : Int)) * 69621 + 11) % 2147483647 < 2147483647 := Int.emod_lt_of_pos _ (by decide)
        refine ⟨_, rfl, .inl ⟨rfl, _, SqL.of hws⟩, _, rfl, _, rfl, _, _, rfl, rfl, .inl ⟨by omega, by omega⟩, _, rfl, 3, _, rfl, rfl, .inl (by decide), _, _, rfl, rfl, _, rfl, _, _, rfl, rfl, .inl ⟨_, rfl, _, 1000003, rfl, rfl, by show (0 : Int) < 1000003; decide, W, _, _, rfl, rfl, hws, wl, ?_⟩⟩
        exact fin _ _ _
    · rintro σ H3 ⟨y5, y6, y7, ws, rfl, _, _, hws, hwsl, b3⟩
      refine ⟨_, rfl, .inl ⟨rfl, _, SqL.of hws⟩, W, _, rfl, rfl, hws, ?_⟩
      refine ⟨_, rfl, q W _ hW0 (Bx.mut b3 (.inr hW0) hws) ⟨ws.reverse, ?_⟩⟩
      rw [upd_same, List.map_reverse]
end
end Ev
namespace Ev
open PySem PySem.Spec PyProof.Rows L2
/-! ## The mirror: tokens of a line, over its signs cs -/
def inZ (z : Str) (c : Nat) : Bool := decide (c ∈ z.cps.toList)
def zL : Str := "abcdefghijklmnopqrstuvwxyz"
def zD : Str := "0123456789"
def zS : Str := "()[],;|"
/-- the index of the first sign from at on that z does not have -/
def runE (z : Str) (cs : List Nat) (i : Nat) : Nat := i + ((cs.drop i).takeWhile (inZ z)).length
/-- the signs from a up to b -/
def sub (cs : List Nat) (a b : Nat) : Str := ⟨((cs.drop a).take (b - a)).toArray⟩
structure Tk where
  kind : Str
  worth : V
  pos : Nat
  stop : Nat
def numOf (x : Str) : Int := (PySem.intText? x).getD 0
def bad (cs : List Nat) (i : Nat) : Tk := ⟨"bad", .str "", i, cs.length⟩
def tokAt (cs : List Nat) (i : Nat) (c : Nat) : Tk :=
  if inZ zS c then ⟨sg c, .str (sg c), i, i + 1⟩
  else if inZ zL c then ⟨"word", .str (sub cs i (runE zL cs i)), i, runE zL cs i⟩
  else if c = 34 then
    if i + 1 < runE zL cs (i + 1) ∧ cs[runE zL cs (i + 1)]? = some 34 then ⟨"string", .str (sub cs (i + 1) (runE zL cs (i + 1))), i, runE zL cs (i + 1) + 1⟩ else bad cs i
  else
    let s := i + (if c = 45 then 1 else 0)
    let e := runE zD cs s
    if s = e ∨ (cs[s]? = some 48 ∧ i + 1 < e) then bad cs i else ⟨"number", .int (numOf (sub cs i e)), i, e⟩
def endT (cs : List Nat) : Tk := ⟨"end", .str "", cs.length, cs.length⟩
def toksF (cs : List Nat) : Nat → Nat → List Tk
  | 0, _ => [endT cs]
  | n + 1, i => match cs[i]? with
    | none => [endT cs]
    | some c => if c = 32 then toksF cs n (i + 1) else tokAt cs i c :: toksF cs n (tokAt cs i c).stop
def toks (cs : List Nat) : List Tk := toksF cs cs.length 0
/-! ### runs -/
theorem runE_ge (z : Str) (cs : List Nat) (i : Nat) : i ≤ runE z cs i := Nat.le_add_right _ _
theorem runE_le {z : Str} {cs : List Nat} {i : Nat} (h : i ≤ cs.length) : runE z cs i ≤ cs.length := by
  unfold runE
  have h1 := (List.takeWhile_prefix (inZ z) (l := cs.drop i)).length_le
  rw [List.length_drop] at h1
  omega
theorem runE_yes {z : Str} {cs : List Nat} {i c : Nat} (h : cs[i]? = some c) (hc : inZ z c = true) : runE z cs i = runE z cs (i + 1) := by
  obtain ⟨hi, e⟩ := List.getElem?_eq_some_iff.mp h
  unfold runE
  rw [List.drop_eq_getElem_cons hi, e, List.takeWhile_cons, hc]
  show i + (_ + 1) = i + 1 + _
  omega
theorem runE_no {z : Str} {cs : List Nat} {i c : Nat} (h : cs[i]? = some c) (hc : inZ z c = false) : runE z cs i = i := by
  obtain ⟨hi, e⟩ := List.getElem?_eq_some_iff.mp h
  unfold runE
  rw [List.drop_eq_getElem_cons hi, e, List.takeWhile_cons, hc]
  rfl
theorem runE_end {z : Str} {cs : List Nat} {i : Nat} (h : cs.length ≤ i) : runE z cs i = i := by
  unfold runE
  rw [List.drop_eq_nil_of_le h]
  rfl
/-- all signs of a run are in z -/
theorem runE_all {z : Str} {cs : List Nat} {i : Nat} : ∀ c ∈ (cs.drop i).take (runE z cs i - i), c ∈ z.cps.toList := by
  intro c hc
  have e : (cs.drop i).take (runE z cs i - i) = (cs.drop i).takeWhile (inZ z) := by
    unfold runE
    rw [Nat.add_sub_cancel_left]
    exact (List.prefix_iff_eq_take.mp (List.takeWhile_prefix (inZ z))).symm
  rw [e] at hc
  exact of_decide_eq_true (List.all_eq_true.mp List.all_takeWhile c hc)
theorem sub_cps (cs : List Nat) (a b : Nat) : (sub cs a b).cps.toList = (cs.drop a).take (b - a) := rfl
theorem sub_len {cs : List Nat} {a b : Nat} (h1 : a ≤ b) (h2 : b ≤ cs.length) : (sub cs a b).length = b - a := by
  rw [← len_cps, sub_cps, List.length_take, List.length_drop]
  omega
theorem cut_sub {z : Str} {a b : Nat} (h1 : a ≤ b) (h2 : b ≤ z.length) : cutS z (some (a : Int)) (some (b : Int)) = sub z.cps.toList a b := by
  unfold cutS sub
  rw [HT.sIx_nat, HT.sIx_nat, Nat.min_eq_left (Nat.le_trans h1 h2), Nat.min_eq_left h2]
/-- a text of one sign, cut off at e -/
theorem cut_one {z : Str} {e c : Nat} : decide (V.str (cutS z (some (e : Int)) (some ((e : Int) + 1))) = V.str (sg c)) = decide (z.cps.toList[e]? = some c) := by
  have h : (cutS z (some (e : Int)) (some ((e : Int) + 1))).cps.toList = (z.cps.toList[e]?).toList := by
    have e1 : ((e : Int) + 1) = ((e + 1 : Nat) : Int) := by omega
    rw [e1]
    unfold cutS
    rw [HT.sIx_nat, HT.sIx_nat]
    show ((z.cps.toList.drop (min e z.length)).take (min (e + 1) z.length - min e z.length)) = _
    rw [← len_cps]
    by_cases he : e < z.cps.toList.length
    · rw [Nat.min_eq_left (Nat.le_of_lt he), Nat.min_eq_left (Nat.succ_le_of_lt he), List.drop_eq_getElem_cons he, List.getElem?_eq_getElem he, show e + 1 - e = 1 by omega]
      rfl
    · rw [Nat.min_eq_right (Nat.le_of_not_lt he), List.getElem?_eq_none (Nat.le_of_not_lt he), List.drop_length]
      simp
  apply decide_eq_decide.mpr
  constructor
  · intro q
    have q1 := congrArg (fun x : Str => x.cps.toList) (V.str.inj q)
    have q2 : (z.cps.toList[e]?).toList = [c] := by
      rw [← h]
      exact q1
    cases hq : z.cps.toList[e]? with
    | none => rw [hq] at q2; cases q2
    | some y =>
      rw [hq] at q2
      have : y = c := by injection q2
      rw [this]
  · intro q
    rw [q] at h
    have : cutS z (some (e : Int)) (some ((e : Int) + 1)) = sg c := TL.ext_tl h
    rw [this]
/-! ### a number's text is a number -/
theorem zD_digits {c : Nat} (h : c ∈ zD.cps.toList) : 48 ≤ c ∧ c ≤ 57 := by
  have : ∀ c ∈ zD.cps.toList, 48 ≤ c ∧ c ≤ 57 := by decide +kernel
  exact this c h
theorem word_of {cs : List Nat} {i : Nat} (x : Str) (hx : x = sub cs i (runE zD cs i)) : ∀ c ∈ x.cps.toList, 48 ≤ c ∧ c ≤ 57 := by
  subst hx
  exact fun c hc => zD_digits (runE_all c hc)
/-- digits, perhaps with a minus sign, at most 640 of them -/
theorem num_some {cs : List Nat} {i c : Nat} (hc : cs[i]? = some c) (hl : cs.length ≤ 640) (s : Nat) (hs : s = i + (if c = 45 then 1 else 0)) (he : s < runE zD cs s) :
    PySem.intText? (sub cs i (runE zD cs s)) = some (numOf (sub cs i (runE zD cs s))) ∧ (sub cs i (runE zD cs s)).length ≤ 640 := by
  obtain ⟨hi, ec⟩ := List.getElem?_eq_some_iff.mp hc
  have hle : runE zD cs s ≤ cs.length := runE_le (by
    rw [hs]
    split <;> omega)
  have hlen := sub_len (cs := cs) (a := i) (b := runE zD cs s) (by split at hs <;> omega) hle
  have hdig : ∀ x ∈ (sub cs s (runE zD cs s)).cps.toList, 48 ≤ x ∧ x ≤ 57 := word_of _ rfl
  have hne : (sub cs s (runE zD cs s)).cps.toList ≠ [] := by
    intro z
    have h1 := sub_len (cs := cs) (Nat.le_of_lt he) hle
    rw [← len_cps, z] at h1
    simp at h1
    omega
  suffices h : ∃ n, PySem.intText? (sub cs i (runE zD cs s)) = some n by
    obtain ⟨n, hn⟩ := h
    unfold numOf
    rw [hn]
    exact ⟨rfl, by omega⟩
  by_cases h45 : c = 45
  · rw [if_pos h45] at hs
    refine ⟨_, intText_neg (cs := (sub cs s (runE zD cs s)).cps.toList) ?_ hdig hne (by omega)⟩
    rw [sub_cps, sub_cps, hs, List.drop_eq_getElem_cons hi, ec, h45]
    have e1 : runE zD cs (i + 1) - i = (runE zD cs (i + 1) - (i + 1)) + 1 := by
      rw [hs] at he
      omega
    rw [e1, List.take_succ_cons]
  · rw [if_neg h45] at hs
    have hs' : s = i := by omega
    rw [hs'] at hdig hne ⊢
    exact ⟨_, intText_digits hdig hne (by rw [hs'] at hlen hle; omega)⟩
/-! ### what tokens are -/
def Word (w : Str) : Prop := w.cps.toList ≠ [] ∧ (∀ c ∈ w.cps.toList, c ∈ zL.cps.toList) ∧ w.length ≤ 640
structure TokOk (t : Tk) : Prop where
  word : t.kind = "word" → ∃ w, t.worth = .str w ∧ Word w
  string : t.kind = "string" → ∃ w, t.worth = .str w ∧ Word w
  number : t.kind = "number" → ∃ n, t.worth = .int n
  data : (∃ n, t.worth = .int n) ∨ ∃ w, t.worth = .str w ∧ ∀ c ∈ w.cps.toList, c < 128
  kc : ∀ c ∈ t.kind.cps.toList, c < 128
theorem zL_low {c : Nat} (h : c ∈ zL.cps.toList) : c < 128 := (by decide +kernel : ∀ c ∈ zL.cps.toList, c < 128) c h
theorem sg_low {c : Nat} (h : inZ zS c = true) : ∀ x ∈ (sg c).cps.toList, x < 128 := by
  intro x hx
  have e : x = c := List.mem_singleton.mp hx
  rw [e]
  exact (by decide +kernel : ∀ c ∈ zS.cps.toList, c < 128) c (of_decide_eq_true h)
theorem sg_ne {c : Nat} {z : Str} (h : z.length ≠ 1) : sg c ≠ z := fun e => h (by rw [← e]; rfl)
theorem sub_word {cs : List Nat} {a : Nat} (h6 : cs.length ≤ 640) (h : a < runE zL cs a) (hl : a ≤ cs.length) : Word (sub cs a (runE zL cs a)) := by
  refine ⟨fun z => ?_, runE_all, by
    have h2 := runE_le (z := zL) hl
    rw [sub_len (Nat.le_of_lt h) h2]
    omega⟩
  have h1 := sub_len (cs := cs) (Nat.le_of_lt h) (runE_le hl)
  rw [← len_cps, z] at h1
  simp at h1
  omega
theorem tok_ok {cs : List Nat} {i c : Nat} (h6 : cs.length ≤ 640) (h : cs[i]? = some c) : TokOk (tokAt cs i c) ∧ (tokAt cs i c).kind ≠ "end" ∧ i < (tokAt cs i c).stop ∧ (tokAt cs i c).stop ≤ cs.length ∧ (tokAt cs i c).pos = i ∧ ((tokAt cs i c).kind = "bad" → (tokAt cs i c).stop = cs.length) := by
  obtain ⟨hi, ec⟩ := List.getElem?_eq_some_iff.mp h
  have hbad : TokOk (bad cs i) ∧ (bad cs i).kind ≠ "end" ∧ i < (bad cs i).stop ∧ (bad cs i).stop ≤ cs.length ∧ (bad cs i).pos = i ∧ ((bad cs i).kind = "bad" → (bad cs i).stop = cs.length) :=
    ⟨⟨fun z => absurd z (by show ("bad" : Str) ≠ "word"; decide +kernel), fun z => absurd z (by show ("bad" : Str) ≠ "string"; decide +kernel), fun z => absurd z (by show ("bad" : Str) ≠ "number"; decide +kernel), .inr ⟨"", rfl, fun c hc => nomatch hc⟩, by show ∀ c ∈ ("bad" : Str).cps.toList, c < 128; decide +kernel⟩, by show ("bad" : Str) ≠ "end"; decide +kernel, hi, Nat.le_refl _, rfl, fun _ => rfl⟩
  unfold tokAt
  by_cases h1 : inZ zS c = true
  · rw [if_pos h1]
    exact ⟨⟨fun z => absurd z (sg_ne (by decide +kernel)), fun z => absurd z (sg_ne (by decide +kernel)), fun z => absurd z (sg_ne (by decide +kernel)), .inr ⟨_, rfl, sg_low h1⟩, sg_low h1⟩, sg_ne (by decide +kernel), Nat.lt_succ_self i, hi, rfl, fun z => absurd z (sg_ne (by decide +kernel))⟩
  rw [if_neg h1]
  by_cases h2 : inZ zL c = true
  · rw [if_pos h2]
    have g1 : i < runE zL cs i := by
      rw [runE_yes h h2]
      exact runE_ge zL cs (i + 1)
    exact ⟨⟨fun _ => ⟨_, rfl, sub_word h6 g1 (Nat.le_of_lt hi)⟩, fun z => absurd z (by show ("word" : Str) ≠ "string"; decide +kernel), fun z => absurd z (by show ("word" : Str) ≠ "number"; decide +kernel), .inr ⟨_, rfl, fun c hc => zL_low ((sub_word h6 g1 (Nat.le_of_lt hi)).2.1 c hc)⟩, by show ∀ c ∈ ("word" : Str).cps.toList, c < 128; decide +kernel⟩, by show ("word" : Str) ≠ "end"; decide +kernel, g1, runE_le (Nat.le_of_lt hi), rfl, fun z => absurd z (by show ("word" : Str) ≠ "bad"; decide +kernel)⟩
  rw [if_neg h2]
  by_cases h3 : c = 34
  · rw [if_pos h3]
    by_cases h4 : i + 1 < runE zL cs (i + 1) ∧ cs[runE zL cs (i + 1)]? = some 34
    · rw [if_pos h4]
      have g2 := (List.getElem?_eq_some_iff.mp h4.2).1
      exact ⟨⟨fun z => absurd z (by show ("string" : Str) ≠ "word"; decide +kernel), fun _ => ⟨_, rfl, sub_word h6 h4.1 (by omega)⟩, fun z => absurd z (by show ("string" : Str) ≠ "number"; decide +kernel), .inr ⟨_, rfl, fun c hc => zL_low ((sub_word h6 h4.1 (by omega)).2.1 c hc)⟩, by show ∀ c ∈ ("string" : Str).cps.toList, c < 128; decide +kernel⟩, by show ("string" : Str) ≠ "end"; decide +kernel, by show i < runE zL cs (i + 1) + 1; omega, g2, rfl, fun z => absurd z (by show ("string" : Str) ≠ "bad"; decide +kernel)⟩
    · rw [if_neg h4]
      exact hbad
  rw [if_neg h3]
  dsimp only
  by_cases h4 : i + (if c = 45 then 1 else 0) = runE zD cs (i + (if c = 45 then 1 else 0)) ∨ (cs[i + (if c = 45 then 1 else 0)]? = some 48 ∧ i + 1 < runE zD cs (i + (if c = 45 then 1 else 0)))
  · rw [if_pos h4]
    exact hbad
  · rw [if_neg h4]
    have g1 := runE_ge zD cs (i + (if c = 45 then 1 else 0))
    have g2 : i < runE zD cs (i + (if c = 45 then 1 else 0)) := by
      have := fun z => h4 (.inl z)
      omega
    exact ⟨⟨fun z => absurd z (by show ("number" : Str) ≠ "word"; decide +kernel), fun z => absurd z (by show ("number" : Str) ≠ "string"; decide +kernel), fun _ => ⟨_, rfl⟩, .inl ⟨_, rfl⟩, by show ∀ c ∈ ("number" : Str).cps.toList, c < 128; decide +kernel⟩, by show ("number" : Str) ≠ "end"; decide +kernel, g2, runE_le (by split <;> omega), rfl, fun z => absurd z (by show ("number" : Str) ≠ "bad"; decide +kernel)⟩
/-- the tokens: some that are no end, then the end -/
theorem toksF_ok (cs : List Nat) (h6 : cs.length ≤ 640) : ∀ (n i : Nat), cs.length - i ≤ n → ∃ l, toksF cs n i = l ++ [endT cs] ∧ (∀ t ∈ l, TokOk t ∧ t.kind ≠ "end") ∧ l.length ≤ cs.length - i
  | 0, i, _ => ⟨[], rfl, (fun t h => nomatch h), Nat.zero_le _⟩
  | n + 1, i, hn => by
    unfold toksF
    cases h : cs[i]? with
    | none => exact ⟨[], rfl, (fun t h => nomatch h), Nat.zero_le _⟩
    | some c =>
      have hi := (List.getElem?_eq_some_iff.mp h).1
      show ∃ l, (if c = 32 then toksF cs n (i + 1) else tokAt cs i c :: toksF cs n (tokAt cs i c).stop) = _ ∧ _
      by_cases h32 : c = 32
      · rw [if_pos h32]
        obtain ⟨l, e, hl, hll⟩ := toksF_ok cs h6 n (i + 1) (by omega)
        exact ⟨l, e, hl, by omega⟩
      · rw [if_neg h32]
        obtain ⟨h1, h2, h3, h4, _⟩ := tok_ok h6 h
        obtain ⟨l, e, hl, hll⟩ := toksF_ok cs h6 n (tokAt cs i c).stop (by omega)
        refine ⟨tokAt cs i c :: l, by rw [e]; rfl, fun t ht => ?_, ?_⟩
        · rcases List.mem_cons.mp ht with rfl | ht
          · exact ⟨h1, h2⟩
          · exact hl t ht
        · rw [List.length_cons]
          omega
theorem toks_ok (cs : List Nat) (h6 : cs.length ≤ 640) : ∃ l, toks cs = l ++ [endT cs] ∧ (∀ t ∈ l, TokOk t ∧ t.kind ≠ "end") ∧ l.length ≤ cs.length := toksF_ok cs h6 cs.length 0 (by omega)
end Ev
namespace Ev
open PySem PySem.W PySem.Calls PyProof.Rows PySem.Spec L2
/-! ## BadText: its __init__, walked at the heap itself (super(), then two fields) -/
abbrev s_BadText_init : Stmt := inClass (topS 4) 0
abbrev aBT (K : PySem.W.Frag) : Addr := He.ga K "BadText"
abbrev fBT (K : PySem.W.Frag) : Addr := He.ma K (aBT K) "__init__"
/-- what the top has written of BadText -/
structure BtK (P : Program) (K : PySem.W.Frag) : Prop where
  oex : OexC K (aBT K)
  iC : PySem.W.findIn K (.ref (aBT K)) "__init__" = some (some (.ref (fBT K)))
  tI : PySem.W.typeIn K (.ref (fBT K)) = some (.type "function")
  fn : ∃ (oc od kV doc pm an cda ct osl cc : _), K.lookup (fBT K) = some ⟨oc, od, .func (ksFn "__init__" "BadText.__init__" (defArgs s_BadText_init) (defBody s_BadText_init) (defScope s_BadText_init) .none kV doc pm an (.ref cda) ct cc), osl⟩ ∧ codeIn K (.ref cda) "BadText.__init__" = true ∧
    (∃ ccl cdd vs ccs file tf, K.lookup cda = some ⟨ccl, cdd, .fields vs, ccs⟩ ∧ vs[2]? = some (.str file tf) ∧ (P.main.file == file) = true) ∧ (∃ cl cld csl, K.lookup cc = some ⟨cl, cld, .cell (some (.ref (aBT K))), csl⟩)
  su : ks_superIn K (aBT K) (aBT K) "__init__" = some (some (.builtin "ValueError.__init__"))
  mr : mroIn K (aBT K) (.ref (aBT K)) = some true
  vE : subIn K (.ref (aBT K)) (.type "ValueError") = some true
  op : nsIn K cStatics "thirdparty.any" = some none
  nl : PySem.W.findIn K (.ref (aBT K)) "line" = some none
  na : PySem.W.findIn K (.ref (aBT K)) "at" = some none
  ms : (P.main.scope.names.lookup ("super" : Str)).isSome = false
section
variable {P : Program} {w : World} {K : PySem.W.Frag} {A : Around} {E : Value → Shared → Prop} {R : Result → Shared → Prop}
/-- ValueError.__init__ bound to the exception, called -/
theorem call_mw {h : Heap} {g : Array GenState} {d : Drawn} {t : Nat} {os : OsState} {nm q : Str} {C N : Addr} {bs bm : List Value} {hdct : Bool} {sn : List Str} {sub : List Value} {ab : Bool} {col : Option Bool} {dd : Option Addr} {k0 k1 k2 k3 k5 : Option Value}
    {u e t0 : Addr} {rest : List Value} {Q : Value → Shared → Prop}
    (hC : h.get? C = some (excClassObj nm q C N bs bm hdct sn sub ab col dd k0 k1 k2 k3 k5 "ValueError.__new__")) (he : h.get? e = some (HandSPX.excO C t0)) (hu : h.get? u = some (kxs_mw "ValueError.__init__" e)) (hrest : rest.length ≤ sizeLine)
    (hq : ∀ h' t1, (∀ b o, b ≠ e → h.get? b = some o → h'.get? b = some o) → h'.get? e = some (HandSPX.excO C t1) → Q .none ⟨h', g, d, t, os⟩) :
    wpAny (model P w) A (call (.ref u) rest) Q E ⟨h, g, d, t, os⟩ := by
  refine wpAny_call (codeAny_of_tree ?_)
  show wpAny _ A.in1 (callAny (.ref u) ⟨rest, []⟩) _ _ _
  simp only [callAny]
  refine wpAny_bind (wpAny_load hu ?_)
  simp only [kxs_mw, show (Value.type "method-wrapper" == Value.type "method" || Value.type "method-wrapper" == Value.type "builtin_function_or_method" || Value.type "method-wrapper" == Value.type "method-wrapper") = true by decide, if_true]
  refine W.KFB.if_so (by decide) ?_
  refine wpAny_bind (ESX.check_bound F.excBase_ValueError hC he rfl ?_)
  refine wpAny_bind (wpAny_pure (wpAny_pure ?_))
  refine ⟨Code.quiet_builtin _ (by decide +kernel), codeAny_builtin F.excBase_ValueError.initEntry ?_⟩
  rw [Around.under_plainId F.excBase_ValueError.init.plain _]
  wp_walk
  refine hq _ h.objs.size (fun b o hb ho => ?_) ?_
  · rw [Heap.get?_update_other _ _ (Ne.symm hb)]
    exact Heap.get?_push_of_some _ ho
  · rw [Heap.get?_update_self _ (Heap.get?_push_of_some _ he) rfl]
    rfl
theorem cw1 {M : Model} {s : Shared} {i : String} {u x : Addr} {pos : Pos} {env : Env} {e : Expr} {Q : Value → Shared → Prop}
    (h : wpAny M A (eval e env) (fun v s₁ => KxsAt i u x s₁.heap ∧ wpAny M A (call (.ref u) [v]) Q E s₁) E s)
    (he : starEach [e] env = [(false, eval e env)] := by rfl) :
    wpAny M A (callWith pos (.ref u) [] (backTo pos (starEach [e] env)) []) Q E s := by
  rw [he]
  refine kxs_callWith (i := i) (x := x) rfl ?_
  refine evalArgs_plain ?_
  show wpAny _ _ (spliced ((false, eval e env) :: [])) _ _ _
  exact Calls.spliced_cons (wpAny_mono h (fun v s₁ hv => Calls.spliced_nil hv) fun _ _ z => z)
theorem bt_run (B : BtK P K) {s : Shared} {a t0 : Addr} {lv av : Value} {mg mb : Str → Option Value} (X : K.In s.heap) (G : s.heap.Ns mainGlobals mg) (hmg : mg "super" = none) (Bn : s.heap.Ns builtinsNs mb) (hmb : mb "super" = some (.type "super"))
    (lim : s.heap.NoLimit) (dep : A.depth < recursionLimit) (ho : s.heap.get? a = some (HandSPX.excO (aBT K) t0)) (hKa : ∀ o, K.lookup a ≠ some o)
    (h : ∀ h' dx t1 tk, (∀ b o, b ≠ a → s.heap.get? b = some o → h'.get? b = some o) → s.heap.objs.size ≤ dx → dx ≠ a → h'.get? a = some { cls := .ref (aBT K), dict := some dx, data := .fields #[.ref t1, .none, .none, .none, .bool false, .none] } →
      h'.Ns1 dx (fun y => if y = "at" then some av else if y = "line" then some lv else none) → R (.ok (.ret .none)) { s with heap := h', toks := tk }) :
    codeAny (model P w) A (.call (.ref (fBT K)) ⟨[.ref a, lv, av], []⟩) R s := by
  obtain ⟨oc, od, kV, doc, pm, an, cda, ct, osl, cc, lk, hcd, ⟨ccl, cdd, vs, ccs, file, tf, lcda, hvs, hfile⟩, cl, cld, csl, lcc⟩ := B.fn
  refine ks_codeAny_call_defAt (fd := ksFn "__init__" "BadText.__init__" (defArgs s_BadText_init) (defBody s_BadText_init) (defScope s_BadText_init) .none kV doc pm an (.ref cda) ct cc) (binds := [("self", .ref a), ("line", lv), ("at", av)]) dep (X _ _ lk) rfl lim (codeRec_of X hcd) rfl (.of_eq (by rfl)) (show ∀ x ∈ (defScope s_BadText_init).names, x.2 ≠ .cell by decide +kernel) (by
    intro x hx
    simp only [List.mem_cons, List.not_mem_nil, or_false] at hx
    rcases hx with rfl | rfl | rfl <;> rfl) (fun h₁ hns hk => ?_)
  obtain ⟨nm, q, N, bs, bm, sn, sub, ab, col, dd, k0, k1, k2, k3, k5, hCK, hbm⟩ := B.oex.cls
  have hcl : PySem.W.clsIn K (aBT K) = some { name := nm, bases := bs, mro := .ref (aBT K) :: bm, ns := N, qualname := q, hasDict := true, slotNames := sn, subclasses := sub, abstract := ab, collection := col, hasDel := false } := by unfold PySem.W.clsIn; rw [hCK] <;> rfl
  have X1 : K.In h₁ := X.keeps hk
  have ho1 := hk _ _ ho
  have LC : ∀ {h : Heap}, K.In h → Looks (model P w) h (mroOf (.ref (aBT K))) (.ref (aBT K) :: bm) := fun X => (W.looks_clsIn X hcl).andThen .now
  refine ks_wpAt_execs_cons (ks_wpAt_Expr_any (ks_wpAt_MethodCall (ks_wpAt_super_base rfl rfl (by decide) rfl (X1 _ _ lk) rfl rfl rfl (X1 _ _ lcda) rfl hvs hfile B.ms ?_)))
  refine ks_loadName_global rfl rfl (loadGlobal_builtin (G.keeps hk) hmg (Bn.keeps hk) hmb ⟨rfl, ?_⟩)
  refine wpAny_loadName_free rfl rfl rfl ⟨_, X1 _ _ lcc, rfl⟩ ?_
  refine wpAny_loadName_local rfl rfl hns rfl ?_
  refine ks_wpAny_isType_cls (X1 _ _ hCK) rfl ⟨rfl, ?_⟩
  refine ks_wpAny_call_super (X1 _ _ hCK) rfl ho1 rfl (fun c e => nomatch e) (looks_mroIn X1 B.mr) fun h2 e2 k2 => ?_
  have keep2 : ∀ b o, s.heap.get? b = some o → h2.get? b = some o := fun b o e => k2 b o (hk b o e)
  have X2 : K.In h2 := X.keeps keep2
  have I2 : PySem.W.InstAt h2 a (HandSPX.excO (aBT K) t0) (aBT K) none := ⟨k2 _ _ ho1, rfl, rfl, trivial⟩
  have hI2 : Looks (model P w) h2 (isInstance (.ref a) (.type "ValueError")) true := I2.type.andThen (looks_subIn X2 B.vE)
  have hsu := B.su
  unfold ks_superIn at hsu
  rw [hcl, Option.bind_some] at hsu
  refine kxs_getMethod kxs_ValueError e2 (looks_opaque X2 B.op) (LC X2) rfl X2 hsu hI2 (ks_ne X2 I2 hcl) (by decide) ?_
  have hu : (h2.push (kxs_mw "ValueError.__init__" a)).get? h2.objs.size = some (kxs_mw "ValueError.__init__" a) := Heap.get?_push_at rfl rfl
  have k3 : ∀ b o, h2.get? b = some o → (h2.push (kxs_mw "ValueError.__init__" a)).get? b = some o := fun b o e => Heap.get?_push_of_some _ e
  refine cw1 (i := "ValueError.__init__") (x := a) (wpAny_Constant_str ⟨hu, ?_⟩)
  refine call_mw (k3 _ _ (X2 _ _ hCK)) (k3 _ _ (k2 _ _ ho1)) hu (by rw [sizeLine_eq]; show 1 ≤ 16777216; decide) fun h4 t4 k4 e4 => ?_
  -- self.line
  have keep4 : ∀ b o, b ≠ a → h₁.get? b = some o → h4.get? b = some o := fun b o hb e => k4 b o hb (k3 b o (k2 b o e))
  have X4 : K.In h4 := fun b o e => keep4 b o (fun z => hKa o (by rw [← z]; exact e)) (X1 _ _ e)
  have hL : s.heap.objs.size ≠ a := fun z => absurd (Heap.lt_size ho) (by rw [← z]; exact Nat.lt_irrefl _)
  have hns4 : h4.Ns s.heap.objs.size _ := hns.at fun o e => keep4 _ o hL e
  refine ks_wpAt_execs_cons (wpAt_of_wpAny (plainObj_wpAny_Assign_Attribute (ESX.ldL hns4 rfl (ESX.ldL hns4 rfl ?_))))
  refine PySem.W.set_plain X4 (ox := HandSPX.excO (aBT K) t4) (od := none) ⟨e4, rfl, rfl, trivial⟩ B.oex.sa ?_
  refine PySem.HandSPX.exc_osa X4 e4 hcl (show PySem.HandSPX.refsVE (.ref (aBT K) :: bm) = true from hbm) rfl B.nl (fun h5 tk5 dx k5 dn dne hx hn => ?_)
  -- self.at
  have keep5 : ∀ b o, b ≠ a → h₁.get? b = some o → h5.get? b = some o := fun b o hb e => k5 b o hb (keep4 b o hb e)
  have X5 : K.In h5 := fun b o e => keep5 b o (fun z => hKa o (by rw [← z]; exact e)) (X1 _ _ e)
  have hns5 : h5.Ns s.heap.objs.size _ := hns.at fun o e => keep5 _ o hL e
  have hw : Within (fun y => if y = "line" then some lv else none) ["line"] := fun y hy => by
    by_cases e : y = "line"
    · rw [e]
      exact List.mem_singleton.mpr rfl
    · exact absurd (if_neg e) hy
  obtain ⟨od5, es5, ep5, ed5, _⟩ := id hn
  refine ks_wpAt_execs_cons (wpAt_of_wpAny (plainObj_wpAny_Assign_Attribute (ESX.ldL hns5 rfl (ESX.ldL hns5 rfl ?_))))
  refine PySem.W.set_plain X5 (ox := { cls := .ref (aBT K), dict := some dx, data := .fields #[.ref t4, .none, .none, .none, .bool false, .none] }) (od := some od5) ⟨hx, rfl, rfl, ed5⟩ B.oex.sa ?_
  refine PySem.OEX.osa_old X5 hx hn hw (by decide) hcl (show PySem.HandSPX.refsVE (.ref (aBT K) :: bm) = true from hbm) rfl B.na (fun h6 tk6 k6 hn6 => ?_)
  refine wpAt_of_wpAny (wpAny_execs_nil ?_)
  have hsz : s.heap.objs.size ≤ dx := Nat.le_trans (Nat.le_of_lt hns4.lt) dn
  refine h h6 dx t4 _ (fun b o hb e => ?_) hsz dne (k6 _ _ dne.symm hx) hn6
  refine k6 b o (fun z => ?_) (keep5 b o hb (hk _ _ e))
  have h1 := Heap.lt_size e
  rw [z] at h1
  exact absurd (Nat.lt_of_lt_of_le h1 hsz) (Nat.lt_irrefl _)
end
/-! ### BadText(line, at), made to be raised -/
def tMkBT (C : Addr) (ta : TA) : L2.St → Hp → XK → Prop := fun σ H Q => ta σ H fun vs H1 => ∃ x y, vs = [x, y] ∧ ∀ d, H1 d = none → Q (.ref C) (some d) (upd H1 d (.xd [("at", y), ("line", x)]))
section
variable {X : Cx} {e : Expr} {es : List Expr} {ta : TA} {p pos : Pos} {k : Nat}
theorem pmk_bt (B : BtK X.prog X.K) (hr : Room (k + 1) X.A) (hms : X.mg "super" = none) (hg : Gl X "BadText") (hm : X.mg "BadText" = some (.ref (aBT X.K))) (ha : PA X (e :: es) ta)
    (he : starEach (e :: es) X.env = (false, eval e X.env) :: starEach es X.env := by rfl) (hpl : (backTo pos (starEach es X.env)).any (·.1) = false := by rfl) :
    PMk X (.Call (.Name "BadText" p) (e :: es) [] pos) (tMkBT (aBT X.K) ta) := by
  intro pins s σ H Q I h
  have T := B.oex
  obtain ⟨nm, q, N, bs, bm, sn, sub, ab, col, dd, k0, k1, k2, k3, k5, hC, hbm⟩ := T.cls
  refine wpAny_Call_Name_kw (ld_glob I hg hm ?_ (by decide))
  refine PySem.W.callWith_K (h₀ := X.base) I.ok.mod.kin T.kC (thn (ha.run pos pins s σ H _ I h) fun us s1 ⟨vs, H1, I1, r1, x, y, ev, q1⟩ => ⟨I1.kIn, ?_⟩) he hpl
  subst ev
  obtain ⟨lv, av, rfl, rl, ra⟩ : ∃ lv av, us = [lv, av] ∧ RelV x lv ∧ RelV y av := by
    cases r1 with
    | cons r1 rr =>
      cases rr with
      | cons r2 rr =>
        cases rr
        exact ⟨_, _, rfl, r1, r2⟩
  show wpAny _ _ (call (.ref (aBT X.K)) [lv, av]) _ _ _
  obtain ⟨hp, g, dr, tk, os⟩ := s1
  have hsz : hp.objs.size ≤ hp.objs.size + 1 := Nat.le_succ _
  have hn : H1 (hp.objs.size + 1) = none := I1.hok.fresh hsz
  have kk : ∀ b o, hp.get? b = some o → ((hp.push (PySem.W.kdv_tup [lv, av])).push (PySem.HandSPX.excO (aBT X.K) hp.objs.size)).get? b = some o := fun b o e => Heap.get?_push_of_some _ (Heap.get?_push_of_some _ e)
  have hget : ((hp.push (PySem.W.kdv_tup [lv, av])).push (PySem.HandSPX.excO (aBT X.K) hp.objs.size)).get? (hp.objs.size + 1) = some (PySem.HandSPX.excO (aBT X.K) hp.objs.size) := by heap_get
  have I2 : Inv X pins σ (upd H1 (hp.objs.size + 1) (exo (hp.objs.size + 1) (aBT X.K) none)) ⟨(hp.push (PySem.W.kdv_tup [lv, av])).push (PySem.HandSPX.excO (aBT X.K) hp.objs.size), g, dr, tk, os⟩ :=
    I1.laid (t' := tk) (a := hp.objs.size + 1) (o := exo (hp.objs.size + 1) (aBT X.K) none) (h' := (hp.push (PySem.W.kdv_tup [lv, av])).push (PySem.HandSPX.excO (aBT X.K) hp.objs.size)) kk hsz (exo_ok hget)
  obtain ⟨mb, hB, hBv⟩ := I2.ok.mod.blt
  refine wpAny_call (PySem.HandSPX.call_own F.excBase_ValueError (fun Y => PySem.HandSPX.refsVE_contains Y bm hbm) (I1.kIn _ _ hC) (PySem.W.looks_findIn I1.kIn B.iC) (fun self => PySem.W.bind_fn I1.kIn self B.tI) (by rw [sizeLine_eq]; show 2 ≤ 16777216; decide)
    (bt_run B I2.kIn (I2.ok.mod.glob.keeps I2.bk) hms (hB.keeps I2.bk) ((hBv _ (by decide)).trans (by kernel_rfl)) I2.nolimit (hr.make _ _ _).depth hget (fun o z => by have h1 : hp.objs.size + 1 < hp.objs.size := Heap.lt_size (I1.kIn _ _ z); omega) (fun h' dx t1 tk' k hszd dne hx hn' => ?_)))
  refine ⟨rfl, ?_⟩
  have ea : upd H1 (hp.objs.size + 1) (exo (hp.objs.size + 1) (aBT X.K) none) (hp.objs.size + 1) = some (exo (hp.objs.size + 1) (aBT X.K) none) := upd_same
  have hnd : upd H1 (hp.objs.size + 1) (exo (hp.objs.size + 1) (aBT X.K) none) dx = none := I2.hok.fresh hszd
  have hd1 : H1 dx = none := by
    rw [upd_ne dne] at hnd
    exact hnd
  have nd : ∀ {b : Addr} {o : Obj}, ((hp.push (PySem.W.kdv_tup [lv, av])).push (PySem.HandSPX.excO (aBT X.K) hp.objs.size)).get? b = some o → b ≠ dx := fun {b o} q => Nat.ne_of_lt (Nat.lt_of_lt_of_le (Heap.lt_size q) hszd)
  have na : ∀ {b : Addr}, upd H1 (hp.objs.size + 1) (exo (hp.objs.size + 1) (aBT X.K) none) b = none → b ≠ hp.objs.size + 1 := fun {b} n z => by
    rw [z, ea] at n
    cases n
  have un : Un (frs X.stack) [] (upd H1 (hp.objs.size + 1) (exo (hp.objs.size + 1) (aBT X.K) none)) (upd (upd (upd H1 (hp.objs.size + 1) (exo (hp.objs.size + 1) (aBT X.K) none)) dx (exd dx [("at", y), ("line", x)])) (hp.objs.size + 1) (exo (hp.objs.size + 1) (aBT X.K) (some dx)))
      ((hp.push (PySem.W.kdv_tup [lv, av])).push (PySem.HandSPX.excO (aBT X.K) hp.objs.size)) h' := {
    keep := fun b o q n _ _ => k b o (na n) q
    slot := fun b o q n _ _ => ⟨o.slots, k b o (na n) q⟩
    free := fun b o q n _ => by rw [upd_ne (na n), upd_ne (nd q)]; exact n
    there := fun b o q _ => by
      by_cases hb : b = hp.objs.size + 1
      · exact ⟨_, by rw [hb]; exact hx⟩
      · exact ⟨o, k b o hb q⟩
    tups := fun b xs q => by rw [upd_ne (at_ne ea q exo_tup), upd_ne (ne_of_none q hnd)]; exact q
    frzs := fun b o v q => by rw [upd_ne (at_ne ea q exo_frz), upd_ne (ne_of_none q hnd)]; exact q
    tbls := fun b ps q => ⟨#[], by rw [upd_ne (at_ne ea q exo_tbl), upd_ne (ne_of_none q hnd), q]; simp⟩ }
  have hok : HOk X.prog X.w (upd (upd (upd H1 (hp.objs.size + 1) (exo (hp.objs.size + 1) (aBT X.K) none)) dx (exd dx [("at", y), ("line", x)])) (hp.objs.size + 1) (exo (hp.objs.size + 1) (aBT X.K) (some dx))) h' := fun b o q => by
    by_cases hb : b = hp.objs.size + 1
    · subst hb
      rw [upd_same] at q
      cases q
      exact exo_ok hx
    · rw [upd_ne hb] at q
      by_cases hd : b = dx
      · subst hd
        rw [upd_same] at q
        cases q
        exact exd_ok hn' (relO_put ra (relO_put (fs := []) rl fun g => True.intro))
      · rw [upd_ne hd] at q
        exact (I2.hok b o q).stay (fun c v hc z => k c v (by
            rcases hc with hc | hc
            · rw [hc]
              exact hb
            · exact at_ne ea hc exo_own) z)
          (fun c hc => by rw [upd_ne (at_ne ea hc exo_own), upd_ne (ne_of_none hc hnd)]; exact hc) (fun c xs hc => by rw [upd_ne (at_ne ea hc exo_tup), upd_ne (ne_of_none hc hnd)]; exact hc)
  have eq : upd (del (upd (upd (upd H1 (hp.objs.size + 1) (exo (hp.objs.size + 1) (aBT X.K) none)) dx (exd dx [("at", y), ("line", x)])) (hp.objs.size + 1) (exo (hp.objs.size + 1) (aBT X.K) (some dx))) (hp.objs.size + 1)) dx (.xd [("at", y), ("line", x)]) = upd H1 dx (.xd [("at", y), ("line", x)]) := by
    funext b
    by_cases hd : b = dx
    · rw [hd, upd_same, upd_same]
    · rw [upd_ne hd, upd_ne hd]
      by_cases hb : b = hp.objs.size + 1
      · rw [hb, del_same, hn]
      · rw [del_ne hb, upd_ne hb, upd_ne hd, upd_ne hb]
  refine mk_end (raises_own T.exC T.tyC) I1 hsz kk un hok rfl I2.bare upd_same (by rw [upd_ne dne, upd_same]) hd1 ?_
  rw [eq]
  exact q1 dx hd1
end
end Ev
namespace Ev
open PySem PySem.Spec PyProof.Rows L2
/-! ## The program's tokens -/
/-- a token of the program -/
def PTok (H : Hp) (v : V) (t : Tk) : Prop := ∃ p, v = .ref p ∧ H p = some (.tup [.str t.kind, t.worth, .int t.pos, .int t.stop])
theorem PTok.mono {D : List Addr} {H H' : Hp} {v : V} {t : Tk} (h : PTok H v t) (b : Bx D H H') : PTok H' v t := by
  obtain ⟨p, e, hp⟩ := h
  exact ⟨p, e, b.t _ _ hp⟩
/-- two lists, item by item -/
def All2 {β α : Type} (R : β → α → Prop) : List β → List α → Prop
  | [], [] => True
  | v :: vs, t :: ts => R v t ∧ All2 R vs ts
  | _, _ => False
section
variable {β α : Type} {R S : β → α → Prop}
theorem All2.len : ∀ {vs : List β} {ts : List α}, All2 R vs ts → vs.length = ts.length
  | [], [], _ => rfl
  | [], _ :: _, h => h.elim
  | _ :: _, [], h => h.elim
  | _ :: vs, _ :: ts, h => congrArg (· + 1) h.2.len
theorem All2.mono (hRS : ∀ v t, R v t → S v t) : ∀ {vs : List β} {ts : List α}, All2 R vs ts → All2 S vs ts
  | [], [], _ => trivial
  | [], _ :: _, h => h.elim
  | _ :: _, [], h => h.elim
  | _ :: vs, _ :: ts, h => ⟨hRS _ _ h.1, h.2.mono hRS⟩
theorem All2.get : ∀ {vs : List β} {ts : List α} {i : Nat} {t : α}, All2 R vs ts → ts[i]? = some t → ∃ v, vs[i]? = some v ∧ R v t
  | [], [], i, t, _, h => by rw [List.getElem?_nil] at h; cases h
  | [], _ :: _, _, _, h, _ => h.elim
  | _ :: _, [], _, _, h, _ => h.elim
  | v :: vs, s :: ts, 0, t, h, e => by
    injection e with e
    subst e
    exact ⟨v, rfl, h.1⟩
  | v :: vs, s :: ts, i + 1, t, h, e => All2.get (vs := vs) (ts := ts) (i := i) h.2 e
theorem All2.app1 {v : β} {t : α} (hv : R v t) : ∀ {vs : List β} {ts : List α}, All2 R vs ts → All2 R (vs ++ [v]) (ts ++ [t])
  | [], [], _ => ⟨hv, trivial⟩
  | [], _ :: _, h => h.elim
  | _ :: _, [], h => h.elim
  | _ :: vs, _ :: ts, h => ⟨h.1, h.2.app1 hv⟩
end
theorem get_lt {α : Type} {xs : List α} {i : Nat} (h : i < xs.length) : xs[i]? = some xs[i] := List.getElem?_eq_getElem h
theorem sg_inj {a b : Nat} (h : sg a = sg b) : a = b := by
  have e : (sg a).cps.toList = (sg b).cps.toList := by rw [h]
  have e2 : [a] = [b] := e
  injection e2
theorem sg_dec {c k : Nat} {z : Str} (hz : z = sg k) : decide (V.str (sg c) = V.str z) = decide (c = k) := by
  subst hz
  apply decide_eq_decide.mpr
  exact ⟨fun e => sg_inj (V.str.inj e), fun e => by rw [e]⟩
theorem cut_sub2 {z : Str} {a b : Nat} {x y : Int} (hx : x = (a : Int)) (hy : y = (b : Int)) (h1 : a ≤ b) (h2 : b ≤ z.length) : cutS z (some x) (some y) = sub z.cps.toList a b := by
  subst hx
  subst hy
  exact cut_sub h1 h2
theorem at_sub {cs : List Nat} {s k : Nat} (h : s < cs.length) (z : Str) (hz : z = sg k) : ∃ d, atI cs (s : Int) = some d ∧ decide (V.str (sg d) = V.str z) = decide (cs[s]? = some k) := by
  refine ⟨cs[s], atI_nat (get_lt h), ?_⟩
  rw [sg_dec hz, get_lt h]
  apply decide_eq_decide.mpr
  exact ⟨fun e => by rw [e], fun e => by injection e⟩
section
variable {P : Program} {w : World} {K : PySem.W.Frag} {mg : Str → Option Value} {base : Heap}
/-! ### run_end -/
def sp_run_end : Sp := fun vs H Q _ => ∃ (z L : Str) (i : Nat), vs = [.str z, .int i, .str L] ∧ z.length ≤ 1000 ∧ Q (.int (runE L z.cps.toList i : Nat)) H
theorem ok_run_end (T : Tx K mg) : Cal P w K mg base CX0 1 "run_end" ["line", "at", "letters"] sp_run_end := by
  refine Cal.of T.d_run_end sc_run_end (fun vs H Q E h => ?len) (fun _ _ _ _ _ _ _ us hl => match us, hl with | [_, _, _], _ => rfl) (fun f cdv A outer s H vs Q E hr h => ?body)
  case len =>
    obtain ⟨z, L, i, rfl, _⟩ := h
    rfl
  case body =>
    obtain ⟨z, L, i, rfl, hz, q⟩ := h
    refine ⟨_, PSs.nox (pss_cons (ps_while PassesOwn.never (PW.pt (pw_and (pt_cmpR op_lt (pv 1) (pe_callB call_len_str (by rfl) T.b_len PySem.boot_len (pa_cons (pv 0) pa_nil)) (nomark _)) (pw_and1 (pt_cmpR op_in_sign (pe_ix ix_str (pv 0) (pv 1) (fun _ _ => rfl)) (pv 2) rfl)))) (pss_one (ps_aug (i := 1) sc_run_end.nd rfl (Or.inl rfl) pe_int ip_add)))
  (pss_one (ps_ret (pv 1)))), ?_⟩
    refine ⟨fun m σ H' => ∃ j : Nat, σ = [some (.str z), some (.int j), some (.str L)] ∧ H' = H ∧ runE L z.cps.toList j = runE L z.cps.toList i ∧ m = z.length - j, ⟨_, i, rfl, rfl, rfl, rfl⟩, ?_⟩
    rintro m σ H' ⟨j, rfl, rfl, hj, rfl⟩
    refine ⟨_, rfl, _, rfl, z, rfl, sz_of (by omega), _, _, rfl, rfl, _, rfl, ite2 (fun h1 => ?_) (fun h1 => ?_)⟩
    · have h2 : j < z.cps.toList.length := by
        have := of_decide_eq_true h1
        rw [len_cps]
        omega
      have hc := get_lt h2
      have e1 : ((j : Int) + 1) = ((j + 1 : Nat) : Int) := by omega
      refine ⟨_, rfl, _, rfl, z, j, _, rfl, rfl, sz_of (by omega), atI_nat hc, _, rfl, _, L, rfl, rfl, _, rfl, ite2 (fun h3 => ?_) (fun h3 => ?_)⟩
      · refine ⟨_, fun σ' H' p => p, _, rfl, _, _, rfl, rfl, z.length - (j + 1), by rw [len_cps] at h2; omega, j + 1, by rw [← e1]; rfl, rfl, ?_, rfl⟩
        rw [← hj]
        exact (runE_yes hc h3).symm
      · refine ⟨_, rfl, ?_⟩
        have e2 := runE_no hc (Bool.eq_false_iff.mpr h3)
        rw [e2] at hj
        rw [← hj] at q
        exact q
    · refine iteF ⟨_, rfl, ?_⟩
      have e2 : runE L z.cps.toList j = j := runE_end (by
        have := of_decide_eq_false (Bool.eq_false_iff.mpr h1)
        rw [len_cps]
        omega)
      rw [e2] at hj
      rw [← hj] at q
      exact q
/-! ### token_at -/
def sp_token_at : Sp := fun vs H Q _ => ∃ (z : Str) (i c : Nat), vs = [.str z, .int i, .str zS] ∧ z.length ≤ 640 ∧ z.cps.toList[i]? = some c ∧ ∀ p H', H p = none → H' p = some (.tup [.str (tokAt z.cps.toList i c).kind, (tokAt z.cps.toList i c).worth, .int (tokAt z.cps.toList i c).pos, .int (tokAt z.cps.toList i c).stop]) → Bx [] H H' → Q (.ref p) H'
theorem ok_token_at (T : Tx K mg) : Cal P w K mg base CX0 2 "token_at" ["line", "at", "signs"] sp_token_at := by
  have H_run_end := ok_run_end (P := P) (w := w) (base := base) T
  refine Cal.of T.d_token_at sc_token_at (fun vs H Q E h => ?len) (fun _ _ _ _ _ _ _ us hl => match us, hl with | [_, _, _], _ => rfl) (fun f cdv A outer s H vs Q E hr h => ?body)
  case len =>
    obtain ⟨z, i, c, rfl, _⟩ := h
    rfl
  case body =>
    obtain ⟨z, i, c, rfl, hz, hc, q⟩ := h
    refine ⟨_, PSs.nox (pss_cons (ps_set (i := 3) sc_token_at.nd rfl (Or.inl rfl) (pe_ix ix_str (pv 0) (pv 1) (fun _ _ => rfl)))
  (pss_cons (ps_if (pt_cmpR op_in_sign (pv 3) (pv 2) rfl) (pss_one (ps_ret (pe_tup (pa_cons (pv 3) (pa_cons (pv 3) (pa_cons (pv 1) (pa_cons (pe_op op_add (pv 1) pe_int) pa_nil)))))))
  pss_nil)
  (pss_cons (ps_if (pt_cmpR op_in_sign (pv 3) (pe_cstr T.c_LETTERS) rfl) (pss_cons (ps_set (i := 4) sc_token_at.nd rfl (Or.inl rfl) (pe_cal H_run_end (hr.mono (by decide)) pass0 (pa_cons (pv 0) (pa_cons (pv 1) (pa_cons (pe_cstr T.c_LETTERS) pa_nil)))))
  (pss_one (ps_ret (pe_tup (pa_cons pe_str (pa_cons (pe_slice sl_str (pv 0) (po_some (pv 1)) (po_some (pv 4))) (pa_cons (pv 1) (pa_cons (pv 4) pa_nil))))))))
  pss_nil)
  (pss_cons (ps_if (pt_cmpR op_eq (pv 3) pe_str (nomark _)) (pss_cons (ps_set (i := 4) sc_token_at.nd rfl (Or.inl rfl) (pe_cal H_run_end (hr.mono (by decide)) pass0 (pa_cons (pv 0) (pa_cons (pe_op op_add (pv 1) pe_int) (pa_cons (pe_cstr T.c_LETTERS) pa_nil)))))
  (pss_cons (ps_if (PW.pt (pw_and (pt_cmpR op_gt (pv 4) (pe_op op_add (pv 1) pe_int) (nomark _)) (pw_and1 (pt_cmpR op_eq (pe_slice sl_str (pv 0) (po_some (pv 4)) (po_some (pe_op op_add (pv 4) pe_int))) (pv 3) (nomark _))))) (pss_one (ps_ret (pe_tup (pa_cons pe_str (pa_cons (pe_slice sl_str (pv 0) (po_some (pe_op op_add (pv 1) pe_int)) (po_some (pv 4))) (pa_cons (pv 1) (pa_cons (pe_op op_add (pv 4) pe_int) pa_nil)))))))
  pss_nil)
  (pss_one (ps_ret (pe_tup (pa_cons pe_str (pa_cons pe_str (pa_cons (pv 1) (pa_cons (pe_callB call_len_str (by rfl) T.b_len PySem.boot_len (pa_cons (pv 0) pa_nil)) pa_nil)))))))))
  pss_nil)
  (pss_cons (ps_set (i := 5) sc_token_at.nd rfl (Or.inl rfl) (pe_op op_add (pv 1) (pe_callTy call_int1 (by rfl) T.b_int boot_int (pa_cons (pe_cmpR op_eq (pv 3) pe_str (nomark _)) pa_nil))))
  (pss_cons (ps_set (i := 4) sc_token_at.nd rfl (Or.inl rfl) (pe_cal H_run_end (hr.mono (by decide)) pass0 (pa_cons (pv 0) (pa_cons (pv 5) (pa_cons (pe_cstr T.c_DIGITS) pa_nil)))))
  (pss_cons (ps_if (PW.pt (pw_or (pt_cmpR op_eq (pv 5) (pv 4) (nomark _)) (pw_or1 (PW.pt (pw_and (pt_cmpR op_eq (pe_ix ix_str (pv 0) (pv 5) (fun _ _ => rfl)) pe_str (nomark _)) (pw_and1 (pt_cmpR op_gt (pv 4) (pe_op op_add (pv 1) pe_int) (nomark _)))))))) (pss_one (ps_ret (pe_tup (pa_cons pe_str (pa_cons pe_str (pa_cons (pv 1) (pa_cons (pe_callB call_len_str (by rfl) T.b_len PySem.boot_len (pa_cons (pv 0) pa_nil)) pa_nil)))))))
  pss_nil)
  (pss_one (ps_ret (pe_tup (pa_cons pe_str (pa_cons (pe_callTy call_int_str (by rfl) T.b_int boot_int (pa_cons (pe_slice sl_str (pv 0) (po_some (pv 1)) (po_some (pv 4))) pa_nil)) (pa_cons (pv 1) (pa_cons (pv 4) pa_nil)))))))))))))), ?_⟩
    have hi := (List.getElem?_eq_some_iff.mp hc).1
    have hil : i < z.length := by rw [← len_cps]; exact hi
    have e1 : ((i : Int) + 1) = ((i + 1 : Nat) : Int) := by omega
    -- the tuple of a token
    have fin : ∀ (t : Tk), tokAt z.cps.toList i c = t → ∀ (xs : List V), xs = [.str t.kind, t.worth, .int t.pos, .int t.stop] → ∀ (p : Addr), H p = none → Q (.ref p) (upd H p (.tup xs)) := by
      rintro _ rfl _ rfl p hp
      exact q p _ hp upd_same (.new hp)
    have badE : [V.str "bad", .str "", .int (i : Int), .int (z.length : Nat)] = [.str (bad z.cps.toList i).kind, (bad z.cps.toList i).worth, .int (bad z.cps.toList i).pos, .int (bad z.cps.toList i).stop] := by
      unfold bad
      rw [len_cps]
    have quad : (4 : Nat) ≤ sizeLine := by decide
    refine ⟨_, rfl, _, rfl, z, i, c, rfl, rfl, sz_of (by omega), atI_nat hc, ?_⟩
    refine ⟨_, rfl, _, rfl, c, zS, rfl, rfl, _, rfl, ite2 (fun h1 => ?_) (fun h1 => ?_)⟩
    · refine ⟨_, rfl, _, rfl, _, rfl, _, rfl, _, _, rfl, rfl, quad, fun p hp => fin ⟨sg c, .str (sg c), i, i + 1⟩ ?_ _ ?_ p hp⟩
      · unfold tokAt
        rw [if_pos (show inZ zS c = true from h1)]
      · rfl
    have n1 : ¬ inZ zS c = true := h1
    refine ⟨_, rfl, c, _, rfl, rfl, _, rfl, ite2 (fun h2 => ?_) (fun h2 => ?_)⟩
    · have g1 := runE_le (z := zL) (cs := z.cps.toList) (i := i) (Nat.le_of_lt hi)
      rw [len_cps] at g1
      refine ⟨_, rfl, _, rfl, z, zL, i, rfl, by omega, ?_⟩
      refine ⟨_, rfl, _, rfl, _, rfl, _, rfl, _, rfl, z, rfl, sz_of (by omega), _, rfl, _, rfl, quad, fun p hp => fin ⟨"word", .str (sub z.cps.toList i (runE zL z.cps.toList i)), i, runE zL z.cps.toList i⟩ ?_ _ ?_ p hp⟩
      · unfold tokAt
        rw [if_neg n1, if_pos (show inZ zL c = true from h2)]
      · rw [cut_sub2 rfl rfl (runE_ge zL _ i) g1]
    have n2 : ¬ inZ zL c = true := h2
    have d3 : decide (V.str (sg c) = V.str "\"") = decide (c = 34) := sg_dec rfl
    refine ⟨_, rfl, rfl, _, rfl, ite2 (fun h3 => ?_) (fun h3 => ?_)⟩
    · have c34 : c = 34 := of_decide_eq_true (d3.symm.trans h3)
      have g1 := runE_le (z := zL) (cs := z.cps.toList) (i := i + 1) hi
      have g2 := runE_ge zL z.cps.toList (i + 1)
      rw [len_cps] at g1
      refine ⟨_, rfl, _, rfl, _, _, rfl, rfl, z, zL, i + 1, rfl, by omega, ?_⟩
      have no : ∀ (p : Addr), H p = none → ¬ (i + 1 < runE zL z.cps.toList (i + 1) ∧ z.cps.toList[runE zL z.cps.toList (i + 1)]? = some 34) → Q (.ref p) (upd H p (.tup [V.str "bad", .str "", .int (i : Int), .int (z.length : Nat)])) := by
        intro p hp h4
        refine fin (bad z.cps.toList i) ?_ _ badE p hp
        unfold tokAt
        rw [if_neg n1, if_neg n2, if_pos c34, if_neg h4]
      refine ⟨_, rfl, _, rfl, _, _, rfl, rfl, _, _, rfl, rfl, _, rfl, ite2 (fun h4 => ?_) (fun h4 => iteF ?_)⟩
      · have h4' := of_decide_eq_true h4
        have h5 : decide (V.str (cutS z (some ((runE zL z.cps.toList (i + 1) : Nat) : Int)) (some (((runE zL z.cps.toList (i + 1) : Nat) : Int) + 1))) = V.str (sg c)) = decide (z.cps.toList[runE zL z.cps.toList (i + 1)]? = some c) := cut_one
        refine ⟨_, rfl, _, rfl, _, rfl, _, rfl, _, _, rfl, rfl, _, rfl, z, rfl, sz_of (by omega), _, rfl, rfl, _, rfl, ite2 (fun h6 => ?_) (fun h6 => ?_)⟩
        · have h7 := of_decide_eq_true (h5.symm.trans h6)
          refine ⟨_, rfl, _, rfl, _, _, rfl, rfl, _, rfl, _, rfl, _, rfl, z, rfl, sz_of (by omega), _, rfl, _, rfl, _, _, rfl, rfl, quad, fun p hp => fin ⟨"string", .str (sub z.cps.toList (i + 1) (runE zL z.cps.toList (i + 1))), i, runE zL z.cps.toList (i + 1) + 1⟩ ?_ _ ?_ p hp⟩
          · unfold tokAt
            rw [if_neg n1, if_neg n2, if_pos c34, if_pos ⟨by omega, by rw [← c34]; exact h7⟩]
          · rw [cut_sub2 e1 rfl g2 g1]
            rfl
        · refine ⟨_, rfl, _, rfl, z, rfl, sz_of (by omega), quad, fun p hp => no p hp fun h8 => h6 (h5.trans (decide_eq_true ?_))⟩
          rw [c34]
          exact h8.2
      · exact ⟨_, rfl, _, rfl, z, rfl, sz_of (by omega), quad, fun p hp => no p hp fun h8 => h4 (decide_eq_true (by omega))⟩
    have n3 : ¬ c = 34 := fun e => h3 (d3.trans (decide_eq_true e))
    -- a number, or nothing at all
    have d4 : decide (V.str (sg c) = V.str "-") = decide (c = 45) := sg_dec rfl
    obtain ⟨st, hst⟩ : ∃ st : Nat, st = i + (if c = 45 then 1 else 0) := ⟨_, rfl⟩
    have hst2 : i ≤ st ∧ st ≤ i + 1 := by
      rw [hst]
      split <;> omega
    have est : (i : Int) + (if decide (V.str (sg c) = V.str "-") = true then 1 else 0) = (st : Int) := by
      rw [d4, hst]
      by_cases h : c = 45
      · rw [if_pos h, if_pos (decide_eq_true h)]
        rfl
      · rw [if_neg h, if_neg (by rw [decide_eq_false h]; decide)]
        rfl
    have g1 := runE_le (z := zD) (cs := z.cps.toList) (i := st) (by omega)
    have g2 := runE_ge zD z.cps.toList st
    rw [len_cps] at g1
    have no : ∀ (p : Addr), H p = none → (st = runE zD z.cps.toList st ∨ (z.cps.toList[st]? = some 48 ∧ i + 1 < runE zD z.cps.toList st)) → Q (.ref p) (upd H p (.tup [V.str "bad", .str "", .int (i : Int), .int (z.length : Nat)])) := by
      intro p hp h4
      refine fin (bad z.cps.toList i) ?_ _ badE p hp
      unfold tokAt
      rw [if_neg n1, if_neg n2, if_neg n3]
      dsimp only
      rw [← hst, if_pos h4]
    refine ⟨_, rfl, _, rfl, rfl, .inr ⟨_, rfl, _, _, rfl, rfl, ?_⟩⟩
    have est2 : (i : Int) + (if decide (V.str (⟨#[c]⟩ : Str) = V.str "-") = true then 1 else 0) = (st : Int) := est
    simp only [est2]
    refine ⟨_, rfl, _, rfl, z, zD, st, rfl, by omega, ?_⟩
    refine ⟨_, rfl, _, rfl, rfl, _, rfl, ite2 (fun h5 => ?_) (fun h5 => ?_)⟩
    · refine ⟨_, rfl, _, rfl, z, rfl, sz_of (by omega), quad, fun p hp => no p hp (.inl ?_)⟩
      have := of_decide_eq_true h5
      have := V.int.inj this
      omega
    have n5 : ¬ st = runE zD z.cps.toList st := fun e => h5 (decide_eq_true (congrArg V.int (by omega)))
    have hsl : st < z.cps.toList.length := by rw [len_cps]; omega
    obtain ⟨d, ed, dd⟩ := at_sub hsl "0" (k := 48) rfl
    have yes : ∀ (p : Addr), H p = none → ¬ (z.cps.toList[st]? = some 48 ∧ i + 1 < runE zD z.cps.toList st) → Q (.ref p) (upd H p (.tup [V.str "number", .int (numOf (sub z.cps.toList i (runE zD z.cps.toList st))), .int (i : Int), .int (runE zD z.cps.toList st : Nat)])) := by
      intro p hp h4
      refine fin ⟨"number", .int (numOf (sub z.cps.toList i (runE zD z.cps.toList st))), i, runE zD z.cps.toList st⟩ ?_ _ rfl p hp
      unfold tokAt
      rw [if_neg n1, if_neg n2, if_neg n3]
      dsimp only
      rw [← hst, if_neg (fun h => h.elim n5 h4)]
    obtain ⟨v1, v2⟩ := num_some hc (by rw [len_cps]; exact hz) st hst (by omega)
    have e6 : cutS z (some (i : Int)) (some ((runE zD z.cps.toList st : Nat) : Int)) = sub z.cps.toList i (runE zD z.cps.toList st) := cut_sub (by omega) g1
    refine ⟨_, rfl, _, rfl, z, _, d, rfl, rfl, sz_of (by omega), ed, rfl, _, rfl, ite2 (fun h6 => ?_) (fun h6 => iteF ?_)⟩
    · refine ⟨_, rfl, _, rfl, _, _, rfl, rfl, _, _, rfl, rfl, _, rfl, ite2 (fun h7 => ?_) (fun h7 => ?_)⟩
      · refine ⟨_, rfl, _, rfl, z, rfl, sz_of (by omega), quad, fun p hp => no p hp (.inr ⟨of_decide_eq_true (dd.symm.trans h6), ?_⟩)⟩
        have := of_decide_eq_true h7
        omega
      · refine ⟨_, rfl, _, rfl, _, rfl, _, rfl, _, rfl, z, rfl, sz_of (by omega), _, _, rfl, ?_, ?_, _, rfl, _, rfl, quad, fun p hp => yes p hp fun h => h7 (decide_eq_true (by omega))⟩
        · rw [e6]
          exact v1
        · rw [e6]
          exact v2
    · refine ⟨_, rfl, _, rfl, _, rfl, _, rfl, _, rfl, z, rfl, sz_of (by omega), _, _, rfl, ?_, ?_, _, rfl, _, rfl, quad, fun p hp => yes p hp fun h => h6 (dd.trans (decide_eq_true h.1))⟩
      · rw [e6]
        exact v1
      · rw [e6]
        exact v2
/-! ### tokens_of -/
def sp_tokens_of : Sp := fun vs H Q _ => ∃ (z : Str), vs = [.str z, .str zS] ∧ z.length ≤ 640 ∧ ∀ p H' (us : List V), H p = none → H' p = some (.lst us) → All2 (PTok H') us (toks z.cps.toList) → Bx [] H H' → Q (.ref p) H'
theorem ok_tokens_of (T : Tx K mg) : Cal P w K mg base CX0 3 "tokens_of" ["line", "signs"] sp_tokens_of := by
  have H_token_at := ok_token_at (P := P) (w := w) (base := base) T
  refine Cal.of T.d_tokens_of sc_tokens_of (fun vs H Q E h => ?len) (fun _ _ _ _ _ _ _ us hl => match us, hl with | [_, _], _ => rfl) (fun f cdv A outer s H vs Q E hr h => ?body)
  case len =>
    obtain ⟨z, rfl, _⟩ := h
    rfl
  case body =>
    obtain ⟨z, rfl, hz, q⟩ := h
    refine ⟨_, PSs.nox (pss_cons (ps_set (i := 2) sc_tokens_of.nd rfl (Or.inl rfl) (pe_lst pa_nil))
  (pss_cons (ps_set (i := 3) sc_tokens_of.nd rfl (Or.inl rfl) pe_int)
  (pss_cons (ps_while PassesOwn.never (pt_cmpR op_lt (pv 3) (pe_callB call_len_str (by rfl) T.b_len PySem.boot_len (pa_cons (pv 0) pa_nil)) (nomark _)) (pss_one (ps_if (pt_cmpR op_eq (pe_ix ix_str (pv 0) (pv 3) (fun _ _ => rfl)) pe_str (nomark _)) (pss_one (ps_aug (i := 3) sc_tokens_of.nd rfl (Or.inl rfl) pe_int ip_add))
  (pss_cons (ps_expr (pe_bm PySem.F.plainAttrs_list PySem.F.slot_list_append PySem.F.type_list_append mt_append (pv 2) (pa_cons (pe_cal H_token_at (hr.mono (by decide)) pass0 (pa_cons (pv 0) (pa_cons (pv 3) (pa_cons (pv 1) pa_nil)))) pa_nil)))
  (pss_one (ps_set (i := 3) sc_tokens_of.nd rfl (Or.inl rfl) (pe_ix ix_tup (pe_ix ix_list (pv 2) (pe_un un_neg pe_int) (fun _ _ => rfl)) pe_int (fun _ _ => rfl))))))))
  (pss_cons (ps_expr (pe_bm PySem.F.plainAttrs_list PySem.F.slot_list_append PySem.F.type_list_append mt_append (pv 2) (pa_cons (pe_tup (pa_cons pe_str (pa_cons pe_str (pa_cons (pe_callB call_len_str (by rfl) T.b_len PySem.boot_len (pa_cons (pv 0) pa_nil)) (pa_cons (pe_callB call_len_str (by rfl) T.b_len PySem.boot_len (pa_cons (pv 0) pa_nil)) pa_nil))))) pa_nil)))
  (pss_one (ps_ret (pv 2))))))), ?_⟩
    have hcs : z.cps.toList.length = z.length := len_cps z
    have quad : (4 : Nat) ≤ sizeLine := by decide
    refine ⟨by decide, fun l hl => ?_⟩
    refine ⟨fun m σ H' => ∃ (j n : Nat) (us : List V) (ds : List Tk), σ = [some (.str z), some (.str zS), some (.ref l), some (.int j)] ∧ j ≤ z.length ∧ m = z.length - j ∧ H' l = some (.lst us) ∧ All2 (PTok H') us ds ∧ us.length ≤ j ∧
      ds ++ toksF z.cps.toList n j = toks z.cps.toList ∧ z.length - j ≤ n ∧ Bx [] H H', ⟨_, 0, z.cps.toList.length, [], [], rfl, Nat.zero_le _, rfl, upd_same, trivial, Nat.zero_le _, rfl, by omega, .new hl⟩, ?_⟩
    rintro m σ H1 ⟨j, n, us, ds, rfl, hj, rfl, hus, hall, hlen, hds, hn, b⟩
    have e1 : ((j : Int) + 1) = ((j + 1 : Nat) : Int) := by omega
    refine ⟨_, rfl, _, rfl, z, rfl, sz_of (by omega), _, _, rfl, rfl, _, rfl, ite2 (fun h1 => ?_) (fun h1 => ?_)⟩
    · have hjl : j < z.cps.toList.length := by
        have := of_decide_eq_true h1
        omega
      obtain ⟨n', rfl⟩ : ∃ n', n = n' + 1 := ⟨n - 1, by omega⟩
      obtain ⟨c, hc⟩ : ∃ c, z.cps.toList[j]? = some c := ⟨_, get_lt hjl⟩
      have hst : toksF z.cps.toList (n' + 1) j = if c = 32 then toksF z.cps.toList n' (j + 1) else tokAt z.cps.toList j c :: toksF z.cps.toList n' (tokAt z.cps.toList j c).stop := by
        show (match z.cps.toList[j]? with | none => _ | some c => _) = _
        rw [hc]
      have d32 : decide (V.str (sg c) = V.str " ") = decide (c = 32) := sg_dec rfl
      refine ⟨_, fun σ' H' p => p, _, rfl, _, rfl, z, j, c, rfl, rfl, sz_of (by omega), atI_nat hc, rfl, _, rfl, ite2 (fun h2 => ?_) (fun h2 => ?_)⟩
      · have c32 := of_decide_eq_true (d32.symm.trans h2)
        rw [if_pos c32] at hst
        rw [hst] at hds
        exact ⟨_, rfl, _, _, rfl, rfl, z.length - (j + 1), by omega, j + 1, n', us, ds, by rw [← e1]; rfl, by omega, rfl, hus, hall, by omega, hds, by omega, b⟩
      · have n32 : ¬ c = 32 := fun e => h2 (d32.trans (decide_eq_true e))
        rw [if_neg n32] at hst
        rw [hst] at hds
        obtain ⟨_, _, t3, t4, _⟩ := tok_ok (by omega) hc
        refine ⟨_, rfl, .inl ⟨rfl, _, SqL.of hus⟩, _, rfl, _, rfl, _, rfl, z, j, c, rfl, hz, hc, fun p H2 hp hp2 b2 => ?_⟩
        have hus2 := b2.l0 hus
        have bm : Bx [l] H2 (upd H2 l (.lst (us ++ [.ref p]))) := Bx.mut (.refl _ _) (.inl (by simp)) hus2
        have hp3 : upd H2 l (.lst (us ++ [.ref p])) p = some (.tup [.str (tokAt z.cps.toList j c).kind, (tokAt z.cps.toList j c).worth, .int (tokAt z.cps.toList j c).pos, .int (tokAt z.cps.toList j c).stop]) := bm.t _ _ hp2
        refine ⟨l, us, _, rfl, rfl, hus2, sz_lt (by omega), ?_⟩
        refine ⟨_, rfl, 1, rfl, l, _, _, _, rfl, rfl, SqL.of upd_same, atI_last us _, p, _, 3, _, rfl, rfl, SqT.of hp3, rfl, ?_⟩
        refine ⟨z.length - (tokAt z.cps.toList j c).stop, by omega, (tokAt z.cps.toList j c).stop, n', us ++ [.ref p], ds ++ [tokAt z.cps.toList j c], rfl, by omega, rfl, upd_same, ?_, ?_, ?_, by omega, Bx.mut (b.trans b2) (.inr hl) hus2⟩
        · exact All2.app1 ⟨p, rfl, hp3⟩ (hall.mono fun v t h => (h.mono b2).mono bm)
        · rw [List.length_append]
          show us.length + 1 ≤ _
          omega
        · rw [List.append_assoc]
          exact hds
    · have hjl : z.length ≤ j := by
        have := of_decide_eq_false (Bool.eq_false_iff.mpr h1)
        omega
      have hend : toksF z.cps.toList n j = [endT z.cps.toList] := by
        cases n with
        | zero => rfl
        | succ n =>
          show (match z.cps.toList[j]? with | none => _ | some c => _) = _
          rw [List.getElem?_eq_none (by omega)]
      rw [hend] at hds
      refine ⟨_, rfl, .inl ⟨rfl, _, SqL.of hus⟩, _, rfl, z, rfl, sz_of (by omega), _, rfl, z, rfl, sz_of (by omega), quad, fun p hp => ?_⟩
      have hus2 : upd H1 p (.tup [.str "end", .str "", .int (z.length : Nat), .int (z.length : Nat)]) l = some (.lst us) := by
        rw [upd_ne (ne_of_none hus hp)]
        exact hus
      refine ⟨l, us, _, rfl, rfl, hus2, sz_lt (by omega), ?_⟩
      have bm : Bx [l] H1 (upd (upd H1 p (.tup [.str "end", .str "", .int (z.length : Nat), .int (z.length : Nat)])) l (.lst (us ++ [.ref p]))) := Bx.mut (.new hp) (.inl (by simp)) hus2
      refine ⟨_, rfl, q l _ (us ++ [.ref p]) hl upd_same ?_ (Bx.mut (b.trans (.new hp)) (.inr hl) hus2)⟩
      rw [← hds]
      refine All2.app1 ⟨p, rfl, ?_⟩ (hall.mono fun v t h => h.mono bm)
      rw [upd_ne (ne_of_none hus hp).symm, upd_same]
      unfold endT
      rw [hcs]
end
end Ev
namespace Ev
open PySem PySem.Spec PyProof.Rows L2
/-! ## The law's tokens -/
/-- a token of the law -/
def LTok (H : Hp) (v : V) (t : Tk) : Prop := ∃ p u, v = .ref p ∧ H p = some (.tup [.str t.kind, u, .int t.pos]) ∧ (t.kind ≠ "bad" → u = t.worth)
theorem LTok.mono {D : List Addr} {H H' : Hp} {v : V} {t : Tk} (h : LTok H v t) (b : Bx D H H') : LTok H' v t := by
  obtain ⟨p, u, e, hp, hu⟩ := h
  exact ⟨p, u, e, b.t _ _ hp, hu⟩
theorem zL_zS {c : Nat} (h : inZ zL c = true) : ¬ inZ zS c = true := by
  have h1 : ∀ x ∈ zL.cps.toList, ¬ inZ zS x = true := by decide +kernel
  exact h1 c (of_decide_eq_true h)
/-- what the law's turn at the sign c has found -/
def LRes (cs : List Nat) (j c : Nat) (k : Str) (u : V) (e : Int) : Prop :=
  (c = 32 → k = sg 32 ∧ e = ((j + 1 : Nat) : Int)) ∧ (c ≠ 32 → k = (tokAt cs j c).kind ∧ (k ≠ "bad" → u = (tokAt cs j c).worth ∧ e = ((tokAt cs j c).stop : Int)))
section
variable {P : Program} {w : World} {K : PySem.W.Frag} {mg : Str → Option Value} {base : Heap}
/-! ### _law_run -/
def sp_l_run : Sp := fun vs H Q _ => ∃ (z L : Str) (i : Nat), vs = [.str z, .int i, .str L] ∧ z.length ≤ 1000 ∧ i ≤ z.length ∧ Q (.int (runE L z.cps.toList i : Nat)) H
theorem ok_l_run (T : Tx K mg) : Cal P w K mg base CX0 1 "_law_run" ["_law_text", "_law_at", "_law_letters"] sp_l_run := by
  refine Cal.of T.d_l_run sc_l_run (fun vs H Q E h => ?len) (fun _ _ _ _ _ _ _ us hl => match us, hl with | [_, _, _], _ => rfl) (fun f cdv A outer s H vs Q E hr h => ?body)
  case len =>
    obtain ⟨z, L, i, rfl, _⟩ := h
    rfl
  case body =>
    obtain ⟨z, L, i, rfl, hz, hi, q⟩ := h
    refine ⟨_, PSs.nox (pss_cons (ps_for PassesOwn.never rfl (pi_range2 (by rfl) T.b_range (pa_cons (pv 1) (pa_cons (pe_callB call_len_str (by rfl) T.b_len PySem.boot_len (pa_cons (pv 0) pa_nil)) pa_nil))) (pg_name (i := 3) sc_l_run.nd rfl (Or.inl rfl))
  (pss_one (ps_if (pt_cmpR op_notIn_sign (pe_ix ix_str (pv 0) (pv 3) (fun _ _ => rfl)) (pv 2) rfl) (pss_one (ps_ret (pv 3)))
  pss_nil)))
  (pss_one (ps_ret (pe_callB call_len_str (by rfl) T.b_len PySem.boot_len (pa_cons (pv 0) pa_nil))))), ?_⟩
    have hcs : z.cps.toList.length = z.length := len_cps z
    refine ⟨_, rfl, _, rfl, z, rfl, sz_of (by omega), _, _, rfl, ⟨by omega, by omega, by omega, by omega⟩, for_range (lo := (i : Int)) (n := ((z.length : Int) - i).toNat) (fun k σ H' => ∃ y, σ = [some (.str z), some (.int i), some (.str L), y] ∧ H' = H ∧ runE L z.cps.toList (i + k) = runE L z.cps.toList i) ⟨_, rfl, rfl, rfl⟩ ?_ ?_⟩
    · rintro k σ H' hk ⟨y, rfl, rfl, hr⟩
      have e1 : (i : Int) + (k : Int) = ((i + k : Nat) : Int) := by omega
      obtain ⟨c, hc⟩ : ∃ c, z.cps.toList[i + k]? = some c := ⟨_, get_lt (by omega)⟩
      refine ⟨_, rfl, _, rfl, z, _, c, rfl, rfl, sz_of (by omega), by rw [e1]; exact atI_nat hc, _, rfl, c, L, rfl, rfl, _, rfl, ite2 (fun h1 => ?_) (fun h1 => ?_)⟩
      · refine ⟨_, rfl, ?_⟩
        have h2 : inZ L c = false := by
          have : (!inZ L c) = true := h1
          revert this
          cases inZ L c <;> simp
        rw [runE_no hc h2] at hr
        rw [← hr] at q
        rw [e1]
        exact q
      · have h2 : inZ L c = true := by
          have : ¬ (!inZ L c) = true := h1
          revert this
          cases inZ L c <;> simp
        refine ⟨_, rfl, rfl, ?_⟩
        rw [← hr, runE_yes hc h2]
        rfl
    · rintro σ H' ⟨y, rfl, rfl, hr⟩
      refine ⟨_, rfl, z, rfl, sz_of (by omega), ?_⟩
      rw [show i + ((z.length : Int) - i).toNat = z.length by omega, runE_end (by omega)] at hr
      rw [← hr] at q
      exact q
/-! ### _law_tokens_of -/
def sp_l_tokens (ps : List V) : Sp := fun vs H Q _ => ∃ (z : Str), vs = .str z :: ps ∧ z.length ≤ 640 ∧ ∀ p H' (us : List V), H p = none → H' p = some (.lst us) → All2 (LTok H') us (toks z.cps.toList) → Bx [] H H' → Q (.ref p) H'
theorem ok_l_tokens_of (T : Tx K mg) : Cal P w K mg base CX0 2 "_law_tokens_of" ["_law_text", "_law_signs"] (sp_l_tokens [.str zS]) := by
  have H_l_run := ok_l_run (P := P) (w := w) (base := base) T
  refine Cal.of T.d_l_tokens_of sc_l_tokens_of (fun vs H Q E h => ?len) (fun _ _ _ _ _ _ _ us hl => match us, hl with | [_, _], _ => rfl) (fun f cdv A outer s H vs Q E hr h => ?body)
  case len =>
    obtain ⟨z, rfl, _⟩ := h
    rfl
  case body =>
    obtain ⟨z, rfl, hz, q⟩ := h
    refine ⟨_, PSs.nox (pss_cons (ps_set (i := 2) sc_l_tokens_of.nd rfl (Or.inl rfl) pe_str)
  (pss_cons (ps_set (i := 3) sc_l_tokens_of.nd rfl (Or.inl rfl) (pe_lst pa_nil))
  (pss_cons (ps_set (i := 4) sc_l_tokens_of.nd rfl (Or.inl rfl) pe_int)
  (Evl.pss_cut (ps_for PassesOwn.never rfl (pi_range1 (by rfl) T.b_range (pa_cons (pe_callB call_len_str (by rfl) T.b_len PySem.boot_len (pa_cons (pv 0) pa_nil)) pa_nil)) (pg_name (i := 5) sc_l_tokens_of.nd rfl (Or.inl rfl))
  (pss_cons (ps_if (pt_cmpR op_ge (pv 4) (pe_callB call_len_str (by rfl) T.b_len PySem.boot_len (pa_cons (pv 0) pa_nil)) (nomark _)) (pss_one ps_break)
  pss_nil)
  (pss_cons (ps_set (i := 6) sc_l_tokens_of.nd rfl (Or.inl rfl) (pe_ix ix_str (pv 0) (pv 4) (fun _ _ => rfl)))
  (pss_cons (ps_set (i := 7) sc_l_tokens_of.nd rfl (Or.inl rfl) (pv 6))
  (pss_cons (ps_set (i := 8) sc_l_tokens_of.nd rfl (Or.inl rfl) (pv 6))
  (pss_cons (ps_set (i := 9) sc_l_tokens_of.nd rfl (Or.inl rfl) (pe_op op_add (pv 4) pe_int))
  (Evl.pss_cut (ps_if (pt_cmpR op_in_sign (pv 6) (pv 2) rfl) (pss_cons (ps_set (i := 7) sc_l_tokens_of.nd rfl (Or.inl rfl) pe_str)
  (pss_cons (ps_set (i := 9) sc_l_tokens_of.nd rfl (Or.inl rfl) (pe_cal H_l_run (hr.mono (by decide)) pass0 (pa_cons (pv 0) (pa_cons (pv 4) (pa_cons (pv 2) pa_nil)))))
  (pss_one (ps_set (i := 8) sc_l_tokens_of.nd rfl (Or.inl rfl) (pe_slice sl_str (pv 0) (po_some (pv 4)) (po_some (pv 9)))))))
  (pss_one (ps_if (pt_cmpR op_eq (pv 6) pe_str (nomark _)) (pss_cons (ps_set (i := 9) sc_l_tokens_of.nd rfl (Or.inl rfl) (pe_cal H_l_run (hr.mono (by decide)) pass0 (pa_cons (pv 0) (pa_cons (pe_op op_add (pv 4) pe_int) (pa_cons (pv 2) pa_nil)))))
  (pss_cons (ps_set (i := 8) sc_l_tokens_of.nd rfl (Or.inl rfl) (pe_slice sl_str (pv 0) (po_some (pe_op op_add (pv 4) pe_int)) (po_some (pv 9))))
  (pss_cons (ps_set (i := 7) sc_l_tokens_of.nd rfl (Or.inl rfl) pe_str)
  (pss_one (ps_if (PW.pt (pw_and (pt_cmpR op_ne (pv 8) pe_str (nomark _)) (pw_and1 (pt_cmpR op_eq (pe_slice sl_str (pv 0) (po_some (pv 9)) (po_some (pe_op op_add (pv 9) pe_int))) (pv 6) (nomark _))))) (pss_cons (ps_set (i := 7) sc_l_tokens_of.nd rfl (Or.inl rfl) pe_str)
  (pss_one (ps_set (i := 9) sc_l_tokens_of.nd rfl (Or.inl rfl) (pe_op op_add (pv 9) pe_int))))
  pss_nil)))))
  (pss_one (ps_if (PW.pt (pw_and (pt_cmpR op_ne (pv 6) pe_str (nomark _)) (pw_and1 (pt_cmpR op_notIn_sign (pv 6) (pv 1) rfl)))) (pss_cons (ps_set (i := 10) sc_l_tokens_of.nd rfl (Or.inl rfl) (pe_op op_add (pv 4) (pe_callTy call_int1 (by rfl) T.b_int boot_int (pa_cons (pe_cmpR op_eq (pv 6) pe_str (nomark _)) pa_nil))))
  (pss_cons (ps_set (i := 9) sc_l_tokens_of.nd rfl (Or.inl rfl) (pe_cal H_l_run (hr.mono (by decide)) pass0 (pa_cons (pv 0) (pa_cons (pv 10) (pa_cons pe_str pa_nil)))))
  (pss_cons (ps_set (i := 7) sc_l_tokens_of.nd rfl (Or.inl rfl) pe_str)
  (pss_one (ps_if (PW.pt (pw_and (pt_cmpR op_gt (pv 9) (pv 10) (nomark _)) (pw_and1 (PW.pt (pw_or (pt_cmpR op_ne (pe_ix ix_str (pv 0) (pv 10) (fun _ _ => rfl)) pe_str (nomark _)) (pw_or1 (pt_cmpR op_eq (pv 9) (pe_op op_add (pv 4) pe_int) (nomark _)))))))) (pss_cons (ps_set (i := 7) sc_l_tokens_of.nd rfl (Or.inl rfl) pe_str)
  (pss_one (ps_set (i := 8) sc_l_tokens_of.nd rfl (Or.inl rfl) (pe_callTy call_int_str (by rfl) T.b_int boot_int (pa_cons (pe_slice sl_str (pv 0) (po_some (pv 4)) (po_some (pv 9))) pa_nil)))))
  pss_nil)))))
  pss_nil)))))
  (Evl.pss_cut (ps_if (pt_cmpR op_ne (pv 6) pe_str (nomark _)) (pss_one (ps_expr (pe_bm PySem.F.plainAttrs_list PySem.F.slot_list_append PySem.F.type_list_append mt_append (pv 3) (pa_cons (pe_tup (pa_cons (pv 7) (pa_cons (pv 8) (pa_cons (pv 4) pa_nil)))) pa_nil))))
  pss_nil)
  (pss_cons (ps_if (pt_cmpR op_eq (pv 7) pe_str (nomark _)) (pss_one ps_break)
  pss_nil)
  (pss_one (ps_set (i := 4) sc_l_tokens_of.nd rfl (Or.inl rfl) (pv 9))))))))))))
  (pss_cons (ps_expr (pe_bm PySem.F.plainAttrs_list PySem.F.slot_list_append PySem.F.type_list_append mt_append (pv 3) (pa_cons (pe_tup (pa_cons pe_str (pa_cons pe_str (pa_cons (pe_callB call_len_str (by rfl) T.b_len PySem.boot_len (pa_cons (pv 0) pa_nil)) pa_nil)))) pa_nil)))
  (pss_one (ps_ret (pv 3)))))))), ?_⟩
    have hcs : z.cps.toList.length = z.length := len_cps z
    have trip : (3 : Nat) ≤ sizeLine := by decide
    refine ⟨by decide, fun l hl => ?_⟩
    refine ⟨fun σ H' => ∃ (us : List V) (ds : List Tk) (y4 y5 y6 y7 y8 y9 y10 : Option V), σ = [some (.str z), some (.str zS), some (.str zL), some (.ref l), y4, y5, y6, y7, y8, y9, y10] ∧ H' l = some (.lst us) ∧ All2 (LTok H') us ds ∧ us.length ≤ z.length ∧
      ds ++ [endT z.cps.toList] = toks z.cps.toList ∧ Bx [] H H', ?_, ?_⟩
    · refine ⟨_, rfl, z, rfl, sz_of (by omega), _, rfl, by omega, by omega, for_range (lo := 0) (n := ((z.length : Nat) : Int).toNat) (fun k σ H' => ∃ (j n : Nat) (us : List V) (ds : List Tk) (y5 y6 y7 y8 y9 y10 : Option V), σ = [some (.str z), some (.str zS), some (.str zL), some (.ref l), some (.int j), y5, y6, y7, y8, y9, y10] ∧ k ≤ j ∧ j ≤ z.length ∧ H' l = some (.lst us) ∧ All2 (LTok H') us ds ∧ us.length ≤ j ∧
        ds ++ toksF z.cps.toList n j = toks z.cps.toList ∧ z.length - j ≤ n ∧ Bx [] H H')
        ⟨0, z.cps.toList.length, [], [], _, _, _, _, _, _, rfl, Nat.le_refl _, Nat.zero_le _, upd_same, trivial, Nat.zero_le _, rfl, by omega, .new hl⟩ ?_ ?_⟩
      · rintro k σ H1 hk ⟨j, n, us, ds, y5, y6, y7, y8, y9, y10, rfl, hkj, hj, hus, hall, hlen, hds, hn, b⟩
        have e1 : ((j : Int) + 1) = ((j + 1 : Nat) : Int) := by omega
        refine ⟨_, rfl, _, rfl, z, rfl, sz_of (by omega), _, _, rfl, rfl, _, rfl, ite2 (fun h1 => ?_) (fun h1 => ?_)⟩
        · have hjl : z.length ≤ j := by
            have := of_decide_eq_true h1
            omega
          have hend : toksF z.cps.toList n j = [endT z.cps.toList] := by
            cases n with
            | zero => rfl
            | succ n =>
              show (match z.cps.toList[j]? with | none => _ | some c => _) = _
              rw [List.getElem?_eq_none (by omega)]
          rw [hend] at hds
          exact ⟨us, ds, _, _, _, _, _, _, _, rfl, hus, hall, by omega, hds, b⟩
        have hjl : j < z.cps.toList.length := by
          have := of_decide_eq_false (Bool.eq_false_iff.mpr h1)
          omega
        obtain ⟨n', rfl⟩ : ∃ n', n = n' + 1 := ⟨n - 1, by omega⟩
        obtain ⟨c, hc⟩ : ∃ c, z.cps.toList[j]? = some c := ⟨_, get_lt hjl⟩
        have hst : toksF z.cps.toList (n' + 1) j = if c = 32 then toksF z.cps.toList n' (j + 1) else tokAt z.cps.toList j c :: toksF z.cps.toList n' (tokAt z.cps.toList j c).stop := by
          show (match z.cps.toList[j]? with | none => _ | some c => _) = _
          rw [hc]
        obtain ⟨_, _, t3, t4, t5, t6⟩ := tok_ok (by omega) hc
        have d32 : decide (V.str (sg c) = V.str " ") = decide (c = 32) := sg_dec rfl
        have dbad : (sg c : Str) ≠ "bad" := sg_ne (by decide +kernel)
        refine ⟨_, rfl, _, rfl, z, j, c, rfl, rfl, sz_of (by omega), atI_nat hc, ?_⟩
        refine ⟨_, rfl, _, rfl, _, rfl, _, _, rfl, rfl, ?_⟩
        -- the kind, the worth, the end
        refine ⟨fun σ H' => ∃ (kd : Str) (u : V) (e : Int) (y10 : Option V), σ = [some (.str z), some (.str zS), some (.str zL), some (.ref l), some (.int j), some (.int (0 + (k : Int))), some (.str (sg c)), some (.str kd), some u, some (.int e), y10] ∧ LRes z.cps.toList j c kd u e ∧ H' = H1, ?_, ?_⟩
        · refine ⟨_, rfl, _, rfl, c, zL, rfl, rfl, _, rfl, ite2 (fun h2 => ?_) (fun h2 => ?_)⟩
          · -- a word
            have h2' : inZ zL c = true := h2
            have g1 := runE_le (z := zL) (cs := z.cps.toList) (i := j) (Nat.le_of_lt hjl)
            refine ⟨_, rfl, _, rfl, _, rfl, z, zL, j, rfl, by omega, by omega, ?_⟩
            refine ⟨_, rfl, _, rfl, _, rfl, _, rfl, _, rfl, z, rfl, sz_of (by omega), _, _, _, _, rfl, ⟨fun e => ?_, fun _ => ?_⟩, rfl⟩
            · subst e
              exact absurd h2' (by decide +kernel)
            · have et : tokAt z.cps.toList j c = ⟨"word", .str (sub z.cps.toList j (runE zL z.cps.toList j)), j, runE zL z.cps.toList j⟩ := by
                unfold tokAt
                rw [if_neg (zL_zS h2'), if_pos h2']
              rw [et]
              exact ⟨rfl, fun _ => ⟨congrArg V.str (cut_sub (runE_ge zL _ j) (by omega)), rfl⟩⟩
          have n2 : ¬ inZ zL c = true := h2
          have d3 : decide (V.str (sg c) = V.str "\"") = decide (c = 34) := sg_dec rfl
          refine ⟨_, rfl, rfl, _, rfl, ite2 (fun h3 => ?_) (fun h3 => ?_)⟩
          · -- a string
            have c34 : c = 34 := of_decide_eq_true (d3.symm.trans h3)
            have n1 : ¬ inZ zS c = true := by
              subst c34
              decide +kernel
            have g1 := runE_le (z := zL) (cs := z.cps.toList) (i := j + 1) hjl
            have g2 := runE_ge zL z.cps.toList (j + 1)
            have es := cut_sub2 (z := z) e1 rfl g2 (by omega)
            have hlen := sub_len g2 g1
            have hbad : (¬ (j + 1 < runE zL z.cps.toList (j + 1) ∧ z.cps.toList[runE zL z.cps.toList (j + 1)]? = some 34)) → tokAt z.cps.toList j c = bad z.cps.toList j := by
              intro h4
              unfold tokAt
              rw [if_neg n1, if_neg n2, if_pos c34, if_neg h4]
            have dn : (!decide (V.str (cutS z (some ((j : Int) + 1)) (some ((runE zL z.cps.toList (j + 1) : Nat) : Int))) = V.str "")) = decide (j + 1 < runE zL z.cps.toList (j + 1)) := by
              rw [es]
              by_cases hlt : j + 1 < runE zL z.cps.toList (j + 1)
              · rw [decide_eq_true hlt, decide_eq_false]
                · rfl
                · intro e
                  have e2 := V.str.inj e
                  rw [e2] at hlen
                  have : ("" : Str).length = 0 := rfl
                  omega
              · rw [decide_eq_false hlt, decide_eq_true]
                · rfl
                · apply congrArg V.str
                  apply TL.ext_tl
                  show (sub z.cps.toList (j + 1) (runE zL z.cps.toList (j + 1))).cps.toList = []
                  rw [sub_cps, show runE zL z.cps.toList (j + 1) - (j + 1) = 0 by omega]
                  rfl
            refine ⟨_, rfl, _, rfl, _, _, rfl, rfl, _, rfl, z, zL, j + 1, rfl, by omega, by omega, ?_⟩
            refine ⟨_, rfl, _, rfl, _, _, rfl, rfl, _, rfl, _, rfl, _, rfl, z, rfl, sz_of (by omega), ?_⟩
            refine ⟨_, rfl, rfl, _, rfl, ite2 (fun h4 => ?_) (fun h4 => iteF ?_)⟩
            · have h4' := of_decide_eq_true (dn.symm.trans h4)
              have h5 : decide (V.str (cutS z (some ((runE zL z.cps.toList (j + 1) : Nat) : Int)) (some (((runE zL z.cps.toList (j + 1) : Nat) : Int) + 1))) = V.str (sg c)) = decide (z.cps.toList[runE zL z.cps.toList (j + 1)]? = some c) := cut_one
              refine ⟨_, rfl, _, rfl, _, rfl, _, rfl, _, _, rfl, rfl, _, rfl, z, rfl, sz_of (by omega), _, rfl, rfl, _, rfl, ite2 (fun h6 => ?_) (fun h6 => ?_)⟩
              · have h7 := of_decide_eq_true (h5.symm.trans h6)
                refine ⟨_, rfl, _, _, rfl, rfl, _, _, _, _, rfl, ⟨fun e => absurd (c34.symm.trans e) (by decide), fun _ => ?_⟩, rfl⟩
                have et : tokAt z.cps.toList j c = ⟨"string", .str (sub z.cps.toList (j + 1) (runE zL z.cps.toList (j + 1))), j, runE zL z.cps.toList (j + 1) + 1⟩ := by
                  unfold tokAt
                  rw [if_neg n1, if_neg n2, if_pos c34, if_pos ⟨h4', by rw [← c34]; exact h7⟩]
                rw [et]
                exact ⟨rfl, fun _ => ⟨congrArg V.str es, rfl⟩⟩
              · refine ⟨_, _, _, _, rfl, ⟨fun e => absurd (c34.symm.trans e) (by decide), fun _ => ?_⟩, rfl⟩
                rw [hbad fun h8 => h6 (h5.trans (decide_eq_true (by rw [c34]; exact h8.2)))]
                exact ⟨rfl, fun e => absurd rfl e⟩
            · refine ⟨_, _, _, _, rfl, ⟨fun e => absurd (c34.symm.trans e) (by decide), fun _ => ?_⟩, rfl⟩
              rw [hbad fun h8 => h4 (dn.trans (decide_eq_true h8.1))]
              exact ⟨rfl, fun e => absurd rfl e⟩
          have n3 : ¬ c = 34 := fun e => h3 (d3.trans (decide_eq_true e))
          have dno : (!decide (V.str (sg c) = V.str " ")) = decide (c ≠ 32) := by
            rw [d32]
            by_cases e : c = 32 <;> simp [e]
          refine ⟨_, rfl, rfl, _, rfl, ite2 (fun h4 => ?_) (fun h4 => iteF ?_)⟩
          · have n32 : c ≠ 32 := of_decide_eq_true (dno.symm.trans h4)
            refine ⟨_, rfl, _, rfl, c, zS, rfl, rfl, _, rfl, ite2 (fun h5 => ?_) (fun h5 => ?_)⟩
            · -- a number, or nothing at all
              have n1 : ¬ inZ zS c = true := by
                have : (!inZ zS c) = true := h5
                revert this
                cases inZ zS c <;> simp
              have d4 : decide (V.str (⟨#[c]⟩ : Str) = V.str "-") = decide (c = 45) := sg_dec rfl
              obtain ⟨st, hst⟩ : ∃ st : Nat, st = j + (if c = 45 then 1 else 0) := ⟨_, rfl⟩
              have hst2 : j ≤ st ∧ st ≤ j + 1 := by
                rw [hst]
                split <;> omega
              have est : (j : Int) + (if decide (V.str (⟨#[c]⟩ : Str) = V.str "-") = true then 1 else 0) = (st : Int) := by
                rw [d4, hst]
                by_cases h : c = 45
                · rw [if_pos h, if_pos (decide_eq_true h)]
                  rfl
                · rw [if_neg h, if_neg (by rw [decide_eq_false h]; decide)]
                  rfl
              have g1 := runE_le (z := zD) (cs := z.cps.toList) (i := st) (by omega)
              have g2 := runE_ge zD z.cps.toList st
              have hbad : (st = runE zD z.cps.toList st ∨ (z.cps.toList[st]? = some 48 ∧ j + 1 < runE zD z.cps.toList st)) → tokAt z.cps.toList j c = bad z.cps.toList j := by
                intro h4
                unfold tokAt
                rw [if_neg n1, if_neg n2, if_neg n3]
                dsimp only
                rw [← hst, if_pos h4]
              refine ⟨_, rfl, _, rfl, rfl, .inr ⟨_, rfl, _, _, rfl, rfl, ?_⟩⟩
              simp only [est]
              refine ⟨_, rfl, _, rfl, z, zD, st, rfl, by omega, by omega, ?_⟩
              refine ⟨_, rfl, _, rfl, _, _, rfl, rfl, _, rfl, ite2 (fun h6 => ?_) (fun h6 => iteF ?_)⟩
              · have h6' := of_decide_eq_true h6
                have hlt : st < runE zD z.cps.toList st := by omega
                have hsl : st < z.cps.toList.length := by omega
                obtain ⟨d, ed, dd⟩ := at_sub hsl "0" (k := 48) rfl
                obtain ⟨v1, v2⟩ := num_some hc (by omega) st hst hlt
                have e6 : cutS z (some (j : Int)) (some ((runE zD z.cps.toList st : Nat) : Int)) = sub z.cps.toList j (runE zD z.cps.toList st) := cut_sub (by omega) (by omega)
                have hyes : ¬ (z.cps.toList[st]? = some 48 ∧ j + 1 < runE zD z.cps.toList st) → tokAt z.cps.toList j c = ⟨"number", .int (numOf (sub z.cps.toList j (runE zD z.cps.toList st))), j, runE zD z.cps.toList st⟩ := by
                  intro h4
                  unfold tokAt
                  rw [if_neg n1, if_neg n2, if_neg n3]
                  dsimp only
                  rw [← hst, if_neg (fun h => h.elim (by omega) h4)]
                refine ⟨_, rfl, _, rfl, z, _, d, rfl, rfl, sz_of (by omega), ed, rfl, _, rfl, ite2 (fun h7 => ?_) (fun h7 => ?_)⟩
                · refine ⟨_, rfl, _, rfl, _, rfl, _, rfl, _, rfl, z, rfl, sz_of (by omega), _, numOf (sub z.cps.toList j (runE zD z.cps.toList st)), rfl, ?_, ?_, _, _, _, _, rfl, ⟨fun e => absurd e n32, fun _ => ?_⟩, rfl⟩
                  · rw [e6]
                    exact v1
                  · rw [e6]
                    exact v2
                  · have h7s : (!decide (V.str (sg d) = V.str "0")) = true := h7
                    rw [hyes fun h8 => by rw [dd, decide_eq_true h8.1] at h7s; cases h7s]
                    exact ⟨rfl, fun _ => ⟨rfl, rfl⟩⟩
                · have h7' : z.cps.toList[st]? = some 48 := by
                    have h7s : ¬ (!decide (V.str (sg d) = V.str "0")) = true := h7
                    by_cases hh : z.cps.toList[st]? = some 48
                    · exact hh
                    · rw [dd, decide_eq_false hh] at h7s
                      exact absurd rfl h7s
                  refine ⟨_, rfl, _, rfl, _, _, rfl, rfl, rfl, _, rfl, ite2 (fun h8 => ?_) (fun h8 => ?_)⟩
                  · have h8' := V.int.inj (of_decide_eq_true h8)
                    refine ⟨_, rfl, _, rfl, _, rfl, _, rfl, _, rfl, z, rfl, sz_of (by omega), _, numOf (sub z.cps.toList j (runE zD z.cps.toList st)), rfl, ?_, ?_, _, _, _, _, rfl, ⟨fun e => absurd e n32, fun _ => ?_⟩, rfl⟩
                    · rw [e6]
                      exact v1
                    · rw [e6]
                      exact v2
                    · rw [hyes fun h9 => by omega]
                      exact ⟨rfl, fun _ => ⟨rfl, rfl⟩⟩
                  · refine ⟨_, _, _, _, rfl, ⟨fun e => absurd e n32, fun _ => ?_⟩, rfl⟩
                    rw [hbad (.inr ⟨h7', by
                      have : ¬ ((runE zD z.cps.toList st : Nat) : Int) = (j : Int) + 1 := fun e => h8 (decide_eq_true (congrArg V.int e))
                      omega⟩)]
                    exact ⟨rfl, fun e => absurd rfl e⟩
              · refine ⟨_, _, _, _, rfl, ⟨fun e => absurd e n32, fun _ => ?_⟩, rfl⟩
                rw [hbad (.inl (by
                  have : ¬ (st : Int) < ((runE zD z.cps.toList st : Nat) : Int) := fun e => h6 (decide_eq_true e)
                  omega))]
                exact ⟨rfl, fun e => absurd rfl e⟩
            · -- a sign
              have y1 : inZ zS c = true := by
                have : ¬ (!inZ zS c) = true := h5
                revert this
                cases inZ zS c <;> simp
              refine ⟨_, _, _, _, rfl, ⟨fun e => absurd e n32, fun _ => ?_⟩, rfl⟩
              have et : tokAt z.cps.toList j c = ⟨sg c, .str (sg c), j, j + 1⟩ := by
                unfold tokAt
                rw [if_pos y1]
              rw [et]
              exact ⟨rfl, fun _ => ⟨rfl, rfl⟩⟩
          · -- a space
            have c32 : c = 32 := by
              by_cases e : c = 32
              · exact e
              · exact absurd (dno.trans (decide_eq_true e)) h4
            exact ⟨_, _, _, _, rfl, ⟨fun _ => ⟨by rw [c32]; rfl, rfl⟩, fun e => absurd c32 e⟩, rfl⟩
        · rintro σ H' ⟨kd, u, e, y10, rfl, hres, rfl⟩
          refine ⟨fun σ H' => ∃ (us' : List V) (ds' : List Tk), σ = [some (.str z), some (.str zS), some (.str zL), some (.ref l), some (.int j), some (.int (0 + (k : Int))), some (.str (sg c)), some (.str kd), some u, some (.int e), y10] ∧ us'.length ≤ j + 1 ∧ H' l = some (.lst us') ∧ All2 (LTok H') us' ds' ∧ Bx [] H H' ∧
            (c = 32 → ds' = ds) ∧ (c ≠ 32 → ds' = ds ++ [tokAt z.cps.toList j c]), ?_, ?_⟩
          · have dno : (!decide (V.str (sg c) = V.str " ")) = decide (c ≠ 32) := by
              rw [d32]
              by_cases e : c = 32 <;> simp [e]
            refine ⟨_, rfl, rfl, _, rfl, ite2 (fun h4 => ?_) (fun h4 => ?_)⟩
            · have n32 : c ≠ 32 := of_decide_eq_true (dno.symm.trans h4)
              obtain ⟨k1, k2⟩ := hres.2 n32
              refine ⟨_, rfl, .inl ⟨rfl, _, SqL.of hus⟩, _, rfl, _, rfl, _, rfl, trip, fun p hp => ?_⟩
              have hus2 : upd H' p (.tup [.str kd, u, .int (j : Int)]) l = some (.lst us) := by
                rw [upd_ne (ne_of_none hus hp)]
                exact hus
              have bm : Bx [l] H' (upd (upd H' p (.tup [.str kd, u, .int (j : Int)])) l (.lst (us ++ [.ref p]))) := Bx.mut (.new hp) (.inl (by simp)) hus2
              refine ⟨l, us, _, rfl, rfl, hus2, sz_lt (by omega), us ++ [.ref p], ds ++ [tokAt z.cps.toList j c], rfl, ?_, upd_same, ?_, Bx.mut (b.trans (.new hp)) (.inr hl) hus2, fun e => absurd e n32, fun _ => rfl⟩
              · rw [List.length_append]
                exact Nat.add_le_add_right hlen 1
              · refine All2.app1 ⟨p, u, rfl, ?_, fun e => (k2 (by rw [k1]; exact e)).1⟩ (hall.mono fun v t h => h.mono bm)
                rw [upd_ne (ne_of_none hus hp).symm, upd_same, t5, k1]
            · have c32 : c = 32 := by
                by_cases e : c = 32
                · exact e
                · exact absurd (dno.trans (decide_eq_true e)) h4
              exact ⟨us, ds, rfl, by omega, hus, hall, b, fun _ => rfl, fun e => absurd c32 e⟩
          · rintro σ H2 ⟨us', ds', rfl, hl2, hus2, hall2, b2, f1, f2⟩
            refine ⟨_, rfl, rfl, _, rfl, ite2 (fun h4 => ?_) (fun h4 => ?_)⟩
            · have kb : kd = "bad" := V.str.inj (of_decide_eq_true h4)
              have n32 : c ≠ 32 := fun e => dbad (by rw [e, ← (hres.1 e).1]; exact kb)
              have kt := (hres.2 n32).1.symm.trans kb
              rw [hst, if_neg n32, t6 kt] at hds
              have hend : toksF z.cps.toList n' z.cps.toList.length = [endT z.cps.toList] := by
                cases n' with
                | zero => rfl
                | succ n =>
                  show (match z.cps.toList[z.cps.toList.length]? with | none => _ | some c => _) = _
                  rw [List.getElem?_eq_none (Nat.le_refl _)]
              rw [hend] at hds
              refine ⟨us', ds', _, _, _, _, _, _, _, rfl, hus2, hall2, by omega, ?_, b2⟩
              rw [f2 n32, List.append_assoc]
              exact hds
            · have kb : kd ≠ "bad" := fun e => h4 (decide_eq_true (congrArg V.str e))
              by_cases c32 : c = 32
              · have h5 := (hres.1 c32).2
                subst h5
                rw [hst, if_pos c32] at hds
                exact ⟨_, rfl, j + 1, n', us', ds', _, _, _, _, _, _, rfl, by omega, by omega, hus2, hall2, hl2, by rw [f1 c32]; exact hds, by omega, b2⟩
              · have h5 := ((hres.2 c32).2 kb).2
                subst h5
                rw [hst, if_neg c32] at hds
                refine ⟨_, rfl, _, n', us', ds', _, _, _, _, _, _, rfl, by omega, by omega, hus2, hall2, by omega, ?_, by omega, b2⟩
                rw [f2 c32, List.append_assoc]
                exact hds
      · rintro σ H1 ⟨j, n, us, ds, y5, y6, y7, y8, y9, y10, rfl, hkj, hj, hus, hall, hlen, hds, hn, b⟩
        have hend : toksF z.cps.toList n j = [endT z.cps.toList] := by
          cases n with
          | zero => rfl
          | succ n =>
            show (match z.cps.toList[j]? with | none => _ | some c => _) = _
            rw [List.getElem?_eq_none (by omega)]
        rw [hend] at hds
        exact ⟨us, ds, _, _, _, _, _, _, _, rfl, hus, hall, by omega, hds, b⟩
    · rintro σ H1 ⟨us, ds, y4, y5, y6, y7, y8, y9, y10, rfl, hus, hall, hlen, hds, b⟩
      refine ⟨_, rfl, .inl ⟨rfl, _, SqL.of hus⟩, _, rfl, z, rfl, sz_of (by omega), trip, fun p hp => ?_⟩
      have hus2 : upd H1 p (.tup [.str "end", .str "", .int (z.length : Nat)]) l = some (.lst us) := by
        rw [upd_ne (ne_of_none hus hp)]
        exact hus
      refine ⟨l, us, _, rfl, rfl, hus2, sz_lt (by omega), ?_⟩
      have bm : Bx [l] H1 (upd (upd H1 p (.tup [.str "end", .str "", .int (z.length : Nat)])) l (.lst (us ++ [.ref p]))) := Bx.mut (.new hp) (.inl (by simp)) hus2
      refine ⟨_, rfl, q l _ (us ++ [.ref p]) hl upd_same ?_ (Bx.mut (b.trans (.new hp)) (.inr hl) hus2)⟩
      rw [← hds]
      refine All2.app1 ⟨p, .str "", rfl, ?_, fun _ => rfl⟩ (hall.mono fun v t h => h.mono bm)
      rw [upd_ne (ne_of_none hus hp).symm, upd_same]
      unfold endT
      rw [hcs]
/-! ### _law_tokens -/
theorem ok_l_tokens (T : Tx K mg) : Cal P w K mg base CX0 3 "_law_tokens" ["_law_text"] (sp_l_tokens []) := by
  have H_l_tokens_of := ok_l_tokens_of (P := P) (w := w) (base := base) T
  refine Cal.of T.d_l_tokens sc_l_tokens (fun vs H Q E h => ?len) (fun _ _ _ _ _ _ _ us hl => match us, hl with | [_], _ => rfl) (fun f cdv A outer s H vs Q E hr h => ?body)
  case len =>
    obtain ⟨z, rfl, _⟩ := h
    rfl
  case body =>
    obtain ⟨z, rfl, hz, q⟩ := h
    refine ⟨_, PSs.nox (pss_one (ps_ret (pe_cal H_l_tokens_of (hr.mono (by decide)) pass0 (pa_cons (pv 0) (pa_cons pe_str pa_nil))))), ?_⟩
    exact ⟨_, rfl, z, rfl, hz, q⟩
end
end Ev
namespace Ev
open PySem PySem.Spec PyProof.Rows L2
/-! ## The mirror: a line read -/
abbrev SC : Type := List (Str × Nat × Nat)
abbrev FS : Type := List (Str × List V)
def tabF (sc : SC) (n : Str) : Option (Nat × Nat) := sc.lookup n
def zE : Str := "end"
def kd (T : List Tk) (p : Nat) : Str := (T[p]?.map Tk.kind).getD zE
def wo (T : List Tk) (p : Nat) : V := (T[p]?.map Tk.worth).getD .non
def po (T : List Tk) (p : Nat) : Nat := (T[p]?.map Tk.pos).getD 0
def nm : V → Str
  | .str z => z
  | _ => ""
def it : V → Int
  | .int i => i
  | _ => -1
/-- behind the comma, if there must be one -/
def qT (i p : Nat) : Nat := if 0 < i then p + 1 else p
def stepT (T : List Tk) (i : Nat) (acc : List V) (p : Nat) : Except Nat (List V × Nat) :=
  if 0 < i ∧ kd T p ≠ "," then .error p
  else if kd T (qT i p) = "string" ∨ kd T (qT i p) = "number" then .ok (acc ++ [wo T (qT i p)], (qT i p) + 1)
  else .error (qT i p)
def termsN (T : List Tk) (p0 : Nat) : Nat → Except Nat (List V × Nat)
  | 0 => .ok ([], p0)
  | n + 1 => match termsN T p0 n with
    | .error e => .error e
    | .ok (acc, p) => stepT T n acc p
def nameM (T : List Tk) (sc : SC) : Option (Nat × Nat) := if kd T 0 = "word" then tabF sc (nm (wo T 0)) else none
def atomM (T : List Tk) (sc : SC) : Except Nat (Str × List V × Nat) :=
  match nameM T sc with
  | none => .error 0
  | some (k, r) =>
    if kd T 1 ≠ "(" then .error 1 else
    match termsN T 2 k with
    | .error e => .error e
    | .ok (xs, p) =>
      if kd T p ≠ "|" then .error p else
      match termsN T (p + 1) r with
      | .error e => .error e
      | .ok (ys, p2) => if kd T p2 ≠ ")" then .error p2 else .ok (nm (wo T 0), xs ++ ys, p2 + 1)
def factM (T : List Tk) (sc : SC) : Except Nat (Str × List V) := match atomM T sc with
  | .error e => .error e
  | .ok (n, vs, p) => if kd T p ≠ "end" then .error p else .ok (n, vs)
def isTab (T : List Tk) (sc : SC) : Prop := (kd T 0 = "word" ∧ wo T 0 = .str "table") ∧ (kd T 1 ≠ "(" ∨ tabF sc "table" = none)
instance (T : List Tk) (sc : SC) : Decidable (isTab T sc) := by unfold isTab; infer_instance
def numM (T : List Tk) (p most : Nat) : Except Nat Nat := if kd T p ≠ "number" ∨ it (wo T p) < 0 ∨ (most : Int) < it (wo T p) then .error p else .ok (it (wo T p)).toNat
def tabM (T : List Tk) (sc : SC) : Except Nat (Str × Nat × Nat) :=
  if kd T 1 ≠ "word" ∨ tabF sc (nm (wo T 1)) ≠ none then .error 1 else
  match numM T 2 8 with
  | .error e => .error e
  | .ok k => match numM T 3 (8 - k) with
    | .error e => .error e
    | .ok r => if kd T 4 ≠ "end" then .error 4 else .ok (nm (wo T 1), k, r)
inductive Res where
  | blank
  | tab (n : Str) (k r : Nat)
  | fact (n : Str) (vs : List V)
  | at (p : Nat)
def lineM (T : List Tk) (sc : SC) : Res :=
  if kd T 0 = "end" then .blank
  else if isTab T sc then (match tabM T sc with | .error e => .at e | .ok (n, k, r) => .tab n k r)
  else (match factM T sc with | .error e => .at e | .ok (n, vs) => .fact n vs)
def stepB (T : List Tk) (k : Nat) (sc : SC) (fs : FS) : Except (Nat × Nat) (SC × FS) := match lineM T sc with
  | .blank => .ok (sc, fs)
  | .tab n a b => .ok (sc ++ [(n, a, b)], fs)
  | .fact n vs => .ok (sc, fs ++ [(n, vs)])
  | .at p => .error (k, po T p)
def bookN (ls : List Str) : Nat → Except (Nat × Nat) (SC × FS)
  | 0 => .ok ([], [])
  | k + 1 => match bookN ls k with
    | .error e => .error e
    | .ok (sc, fs) => match ls[k]? with
      | none => .ok (sc, fs)
      | some z => stepB (toks z.cps.toList) k sc fs
/-! ### facts -/
/-- tokens as a line has them -/
def TokL (T : List Tk) : Prop := ∃ (l : List Tk) (e : Tk), T = l ++ [e] ∧ e.kind = zE ∧ e.worth = .str "" ∧ ∀ t ∈ l, TokOk t ∧ t.kind ≠ zE
theorem toks_l (cs : List Nat) (h6 : cs.length ≤ 640) : TokL (toks cs) := by
  obtain ⟨l, e, h, _⟩ := toks_ok cs h6
  exact ⟨l, _, e, rfl, rfl, h⟩
/-- a value of a row -/
def Val (v : V) : Prop := (∃ n, v = .int n) ∨ ∃ w, v = .str w ∧ Word w
section
variable {T : List Tk} {p : Nat} {z : Str}
theorem kd_at {t : Tk} (h : T[p]? = some t) : kd T p = t.kind := by unfold kd; rw [h]; rfl
theorem wo_at {t : Tk} (h : T[p]? = some t) : wo T p = t.worth := by unfold wo; rw [h]; rfl
theorem po_at {t : Tk} (h : T[p]? = some t) : po T p = t.pos := by unfold po; rw [h]; rfl
/-- a token that is no end stands before another -/
theorem kd_lt (h : TokL T) (hk : kd T p ≠ zE) : p + 1 < T.length ∧ ∃ t : Tk, T[p]? = some t ∧ TokOk t ∧ kd T p = t.kind ∧ wo T p = t.worth := by
  obtain ⟨l, e, eT, he, _, hl⟩ := h
  rw [eT, List.length_append]
  rw [eT] at hk
  by_cases hp : p < l.length
  · have e1 : (l ++ [e])[p]? = some l[p] := by
      rw [List.getElem?_append_left hp]
      exact List.getElem?_eq_getElem hp
    exact ⟨Nat.succ_lt_succ hp, l[p], e1, (hl _ (List.getElem_mem hp)).1, kd_at e1, wo_at e1⟩
  · refine absurd ?_ hk
    by_cases hq : p = l.length
    · have e1 : (l ++ [e])[p]? = some e := by
        rw [hq]
        exact List.getElem?_concat_length
      exact (kd_at e1).trans he
    · have e1 : (l ++ [e])[p]? = none := List.getElem?_eq_none (by rw [List.length_append]; show l.length + 1 ≤ p; omega)
      unfold kd
      rw [e1]
      rfl
/-- a token: its kind, its worth as data -/
theorem kd_data (h : TokL T) (hp : p < T.length) : ∃ t : Tk, T[p]? = some t ∧ kd T p = t.kind ∧ wo T p = t.worth ∧ po T p = t.pos ∧ (∀ c ∈ t.kind.cps.toList, c < 128) ∧ ((∃ n, t.worth = .int n) ∨ ∃ w, t.worth = .str w ∧ ∀ c ∈ w.cps.toList, c < 128) := by
  have e1 : T[p]? = some T[p] := List.getElem?_eq_getElem hp
  refine ⟨T[p], e1, kd_at e1, wo_at e1, po_at e1, ?_⟩
  have hm : T[p] ∈ T := List.getElem_mem hp
  obtain ⟨l, e, eT, he, hw, hl⟩ := h
  generalize T[p] = t at hm
  rw [eT] at hm
  rcases List.mem_append.mp hm with hm | hm
  · exact ⟨(hl t hm).1.kc, (hl t hm).1.data⟩
  · rw [List.mem_singleton.mp hm, he, hw]
    exact ⟨by decide +kernel, .inr ⟨_, rfl, fun c hc => nomatch hc⟩⟩
theorem kd_ne (h : TokL T) (hk : kd T p = z) (hz : z ≠ "end") : p + 1 < T.length := (kd_lt h (by rw [hk]; exact hz)).1
theorem kd_word (h : TokL T) (hk : kd T p = "word") : ∃ w, wo T p = .str w ∧ Word w := by
  obtain ⟨_, t, _, ok, e1, e2⟩ := kd_lt h (by rw [hk]; decide +kernel)
  rw [e2]
  exact ok.word (e1.symm.trans hk)
theorem kd_string (h : TokL T) (hk : kd T p = "string") : ∃ w, wo T p = .str w ∧ Word w := by
  obtain ⟨_, t, _, ok, e1, e2⟩ := kd_lt h (by rw [hk]; decide +kernel)
  rw [e2]
  exact ok.string (e1.symm.trans hk)
theorem kd_number (h : TokL T) (hk : kd T p = "number") : ∃ n, wo T p = .int n := by
  obtain ⟨_, t, _, ok, e1, e2⟩ := kd_lt h (by rw [hk]; decide +kernel)
  rw [e2]
  exact ok.number (e1.symm.trans hk)
theorem kd_val (h : TokL T) (hk : kd T p = "string" ∨ kd T p = "number") : Val (wo T p) := by
  rcases hk with hk | hk
  · exact .inr (kd_string h hk)
  · exact .inl (kd_number h hk)
theorem step_ok (h : TokL T) {i : Nat} {acc xs : List V} {q : Nat} (e : stepT T i acc p = .ok (xs, q)) : ∃ v, xs = acc ++ [v] ∧ Val v ∧ q < T.length := by
  unfold stepT at e
  split at e
  · injection e
  · split at e
    · next hk =>
      injection e with e
      injection e with e1 e2
      refine ⟨_, e1.symm, kd_val h hk, ?_⟩
      rw [← e2]
      rcases hk with hk | hk
      · exact kd_ne h hk (by decide +kernel)
      · exact kd_ne h hk (by decide +kernel)
    · injection e
theorem step_err (h : TokL T) {i : Nat} {acc : List V} {q : Nat} (hp : p < T.length) (e : stepT T i acc p = .error q) : q < T.length := by
  unfold stepT at e
  split at e
  · injection e with e
    omega
  · next hc =>
    split at e
    · injection e
    · injection e with e
      rw [← e]
      unfold qT
      split
      · next hi =>
        have : kd T p = "," := by
          by_cases hh : kd T p = ","
          · exact hh
          · exact absurd ⟨hi, hh⟩ hc
        exact kd_ne h this (by decide +kernel)
      · exact hp
theorem terms_0 {p0 : Nat} : termsN T p0 0 = .ok ([], p0) := rfl
theorem terms_s {p0 n : Nat} {acc : List V} {p : Nat} (e : termsN T p0 n = .ok (acc, p)) : termsN T p0 (n + 1) = stepT T n acc p := by
  unfold termsN
  rw [e]
theorem terms_e {p0 n e : Nat} (h : termsN T p0 n = .error e) : termsN T p0 (n + 1) = .error e := by
  unfold termsN
  rw [h]
theorem ex_or (r : Except Nat (List V × Nat)) : (∃ e, r = .error e) ∨ ∃ a b, r = .ok (a, b) := match r with
  | .error e => .inl ⟨e, rfl⟩
  | .ok (a, b) => .inr ⟨a, b, rfl⟩
theorem terms_ok (h : TokL T) {p0 : Nat} (h0 : p0 < T.length) : ∀ (n : Nat), (∀ xs q, termsN T p0 n = .ok (xs, q) → xs.length = n ∧ (∀ v ∈ xs, Val v) ∧ q < T.length) ∧ ∀ q, termsN T p0 n = .error q → q < T.length := by
  intro n
  induction n with
  | zero =>
    refine ⟨fun xs q e => ?_, fun q e => ?_⟩
    · rw [terms_0] at e
      injection e with e
      injection e with e1 e2
      rw [← e1, ← e2]
      exact ⟨rfl, (fun v hv => nomatch hv), h0⟩
    · rw [terms_0] at e
      injection e
  | succ n ih =>
    obtain ⟨i1, i2⟩ := ih
    rcases ex_or (termsN T p0 n) with ⟨e2, ht⟩ | ⟨acc, p, ht⟩
    · refine ⟨fun xs q e => ?_, fun q e => ?_⟩
      · rw [terms_e ht] at e
        injection e
      · rw [terms_e ht] at e
        injection e with e
        rw [← e]
        exact i2 e2 ht
    · obtain ⟨j1, j2, j3⟩ := i1 acc p ht
      refine ⟨fun xs q e => ?_, fun q e => ?_⟩
      · rw [terms_s ht] at e
        obtain ⟨v, ex, hv, hq⟩ := step_ok h e
        rw [ex]
        refine ⟨by rw [List.length_append, j1]; rfl, fun x hx => ?_, hq⟩
        rcases List.mem_append.mp hx with hx | hx
        · exact j2 x hx
        · rw [List.mem_singleton.mp hx]
          exact hv
      · rw [terms_s ht] at e
        exact step_err h j3 e
/-- an error stays one -/
theorem terms_stuck {p0 i e : Nat} (h : termsN T p0 i = .error e) : ∀ {n : Nat}, i ≤ n → termsN T p0 n = .error e := by
  intro n hn
  induction n with
  | zero =>
    have : i = 0 := by omega
    subst this
    exact h
  | succ n ih =>
    by_cases e1 : i = n + 1
    · rw [← e1]
      exact h
    · exact terms_e (ih (by omega))
end
end Ev
namespace Ev
open PySem PySem.Spec PyProof.Rows L2
/-! ## The program's reader -/
abbrev aR (K : PySem.W.Frag) : Addr := He.ga K "Reader"
/-- its fields -/
def RdF (pt : Addr) (k : Nat) (pd : Addr) (p : Nat) : List (Str × V) := [("tokens", .ref pt), ("line", .int k), ("tables", .ref pd), ("place", .int p)]
/-- a pair of the dict of tables -/
def TabR (H : Hp) (e : Key × V) (t : Str × Nat × Nat) : Prop := e.1 = .inr t.1 ∧ ∃ q, e.2 = .ref q ∧ H q = some (.tup [.str t.1, .int t.2.1, .int t.2.2])
/-- the reader's state -/
structure Rst (K : PySem.W.Frag) (H : Hp) (a pt pd : Addr) (k : Nat) (T : List Tk) (sc : SC) (p : Nat) : Prop where
  rd : ∃ dx, H a = some (.ins (aR K) dx (RdF pt k pd p))
  tk : ∃ us, H pt = some (.lst us) ∧ All2 (PTok H) us T
  tb : ∃ kvs, H pd = some (.dK kvs) ∧ All2 (TabR H) kvs sc
  tl : TokL T
/-- an exception at the token p of the line k -/
def Bad (K : PySem.W.Frag) (E : XK) (a : Addr) (H : Hp) (k at_ : Nat) : Prop := ∀ d H', Bx [a] H H' → H' d = some (.xd [("at", .int at_), ("line", .int k)]) → E (.ref (aBT K)) (some d) H'
theorem Bad.«at» {K : PySem.W.Frag} {E : XK} {a : Addr} {H H1 : Hp} {k p : Nat} (h : Bad K E a H k p) (b : Bx [a] H H1) : Bad K E a H1 k p := fun d H' b' e => h d H' (b.trans b') e
theorem Bx.put {a : Addr} {H : Hp} {o u : HO} (h : H a = some u) (hu : ∀ xs, u ≠ .tup xs) : Bx [a] H (upd H a o) := ⟨fun x v n e => by
  rw [upd_ne (fun z => n (by rw [z]; simp))]
  exact e, fun x xs e => by
  have ne : x ≠ a := fun z => by
    rw [z, h] at e
    exact hu xs (Option.some.inj e)
  rw [upd_ne ne]
  exact e⟩
section
variable {K : PySem.W.Frag} {H H' : Hp} {a pt pd : Addr} {k p q : Nat} {T : List Tk} {sc : SC}
theorem Rst.go (R : Rst K H a pt pd k T sc p) (q : Nat) : ∃ dx, H a = some (.ins (aR K) dx (RdF pt k pd p)) ∧ Bx [a] H (upd H a (.ins (aR K) dx (RdF pt k pd q))) ∧ Rst K (upd H a (.ins (aR K) dx (RdF pt k pd q))) a pt pd k T sc q := by
  obtain ⟨⟨dx, ha⟩, ⟨us, ht, hu⟩, ⟨kvs, hd, hk⟩, tl⟩ := R
  have b : Bx [a] H (upd H a (.ins (aR K) dx (RdF pt k pd q))) := Bx.put ha fun xs z => nomatch z
  have n1 : pt ≠ a := fun z => by rw [z, ha] at ht; cases ht
  have n2 : pd ≠ a := fun z => by rw [z, ha] at hd; cases hd
  refine ⟨dx, ha, b, ⟨dx, upd_same⟩, ⟨us, b.l1 n1 ht, hu.mono fun v t h => h.mono b⟩, ⟨kvs, b.l1 n2 hd, hk.mono fun e t h => ?_⟩, tl⟩
  obtain ⟨h1, r, h2, h3⟩ := h
  exact ⟨h1, r, h2, b.t _ _ h3⟩
theorem Rst.mono (R : Rst K H a pt pd k T sc p) (b : Bx [] H H') : Rst K H' a pt pd k T sc p := by
  obtain ⟨⟨dx, ha⟩, ⟨us, ht, hu⟩, ⟨kvs, hd, hk⟩, tl⟩ := R
  refine ⟨⟨dx, b.l0 ha⟩, ⟨us, b.l0 ht, hu.mono fun v t h => h.mono b⟩, ⟨kvs, b.l0 hd, hk.mono fun e t h => ?_⟩, tl⟩
  obtain ⟨h1, r, h2, h3⟩ := h
  exact ⟨h1, r, h2, b.t _ _ h3⟩
/-- the token at p -/
theorem Rst.tok (R : Rst K H a pt pd k T sc p) {i : Nat} (hp : i < T.length) : ∃ us v x w, H pt = some (.lst us) ∧ atI us (i : Int) = some v ∧ v = .ref x ∧ H x = some (.tup [.str (kd T i), wo T i, .int (po T i), .int w]) := by
  obtain ⟨us, ht, hu⟩ := R.tk
  obtain ⟨t, e1, e2, e3, e4, _⟩ := kd_data R.tl hp
  obtain ⟨v, hv, x, rfl, hx⟩ := hu.get e1
  exact ⟨us, _, x, _, ht, atI_nat hv, rfl, by rw [e2, e3, e4]; exact hx⟩
end
theorem of_nd {c : Prop} [Decidable c] (h : (!decide c) = true) : ¬ c := fun z => by rw [decide_eq_true z] at h; cases h
theorem of_nnd {c : Prop} [Decidable c] (h : ¬ (!decide c) = true) : c := by
  by_cases z : c
  · exact z
  · rw [decide_eq_false z] at h
    exact absurd rfl h
theorem putF_place {pt pd : Addr} {k p : Nat} : putF "place" (.int ((p : Int) + 1)) (RdF pt k pd p) = RdF pt k pd (p + 1) := rfl
section
variable {P : Program} {w : World} {K : PySem.W.Frag} {mg : Str → Option Value} {base : Heap}
/-! ### sees -/
def sp_sees (K : PySem.W.Frag) : Sp := fun vs H Q _ => ∃ a pt pd k T sc p z, vs = [.ref a, .str z] ∧ Rst K H a pt pd k T sc p ∧ p < T.length ∧ Q (.bl (decide (kd T p = z))) H
theorem dec_str {x y : Str} : decide (V.str x = V.str y) = decide (x = y) := decide_eq_decide.mpr ⟨fun e => V.str.inj e, fun e => by rw [e]⟩
theorem ok_sees (T : Tx K mg) : Mcl P w K mg base CX0 1 "sees" ["self", "kind"] (sp_sees K) := by
  refine Mcl.of T.m_sees T.clR sc_Reader_sees (fun vs H Q E h => ?len) (fun _ _ _ _ _ _ _ us hl => match us, hl with | [_, _], _ => rfl) (fun f cdv A outer s H vs Q E hr h => ?body)
  case len =>
    obtain ⟨a, pt, pd, k, T, sc, p, z, rfl, _⟩ := h
    rfl
  case body =>
    obtain ⟨a, pt, pd, k, TT, sc, p, z, rfl, R, hp, q⟩ := h
    refine ⟨_, PSs.nox (pss_one (ps_ret (pe_cmpR op_eq (pe_ix ix_tup (pe_ix ix_list (pe_fld (pv 0) rfl) (pe_fld (pv 0) rfl) (fun _ _ => rfl)) pe_int (fun _ _ => rfl)) (pv 1) (nomark _)))), ?_⟩
    obtain ⟨dx, ha⟩ := R.rd
    obtain ⟨us, v, x, w, hpt, hv, rfl, hx⟩ := R.tok hp
    refine ⟨_, rfl, a, _, dx, _, _, rfl, ha, T.clR, T.na_tokens, rfl, _, rfl, a, _, dx, _, _, rfl, ha, T.clR, T.na_place, rfl, ?_⟩
    refine ⟨pt, us, _, _, rfl, rfl, SqL.of hpt, hv, x, _, 0, _, rfl, rfl, SqT.of hx, rfl, _, rfl, rfl, ?_⟩
    rw [dec_str]
    exact q
/-! ### refuse -/
def sp_refuse (K : PySem.W.Frag) : Sp := fun vs H Q E => ∃ a pt pd k T sc p, vs = [.ref a] ∧ Rst K H a pt pd k T sc p ∧ p < T.length ∧ Bad K E a H k (po T p)
theorem ok_refuse (T : Tx K mg) (B : BtK P K) (gB : mg "BadText" = some (.ref (aBT K))) : Mcl P w K mg base (L2.CX P w) 2 "refuse" ["self"] (sp_refuse K) := by
  refine Mcl.of T.m_refuse T.clR sc_Reader_refuse (fun vs H Q E h => ?len) (fun _ _ _ _ _ _ _ us hl => match us, hl with | [_], _ => rfl) (fun f cdv A outer s H vs Q E hr h => ?body)
  case len =>
    obtain ⟨a, pt, pd, k, T, sc, p, rfl, _⟩ := h
    rfl
  case body =>
    obtain ⟨a, pt, pd, k, TT, sc, p, rfl, R, hp, q⟩ := h
    refine ⟨_, (pss_one (ps_raise rfl (takes_of rfl rfl rfl rfl) (pmk_bt (k := 0) B (hr.mono (by decide)) T.b_super rfl gB (pa_cons (pe_fld (pv 0) rfl) (pa_cons (pe_ix ix_tup (pe_ix ix_list (pe_fld (pv 0) rfl) (pe_fld (pv 0) rfl) (fun _ _ => rfl)) pe_int (fun _ _ => rfl)) pa_nil))))), ?_⟩
    obtain ⟨dx, ha⟩ := R.rd
    obtain ⟨us, v, x, w, hpt, hv, rfl, hx⟩ := R.tok hp
    refine ⟨_, rfl, a, _, dx, _, _, rfl, ha, T.clR, T.na_line, rfl, ?_⟩
    refine ⟨_, rfl, a, _, dx, _, _, rfl, ha, T.clR, T.na_tokens, rfl, _, rfl, a, _, dx, _, _, rfl, ha, T.clR, T.na_place, rfl, ?_⟩
    refine ⟨pt, us, _, _, rfl, rfl, SqL.of hpt, hv, x, _, 2, _, rfl, rfl, SqT.of hx, rfl, _, _, rfl, fun d hd => ?_⟩
    exact q d _ (.new hd) upd_same
/-! ### take -/
def sp_takeR (K : PySem.W.Frag) : Sp := fun vs H Q E => ∃ a pt pd k T sc p z, vs = [.ref a, .str z] ∧ Rst K H a pt pd k T sc p ∧ p < T.length ∧ (kd T p ≠ z → Bad K E a H k (po T p)) ∧
  (kd T p = z → ∀ H', Bx [a] H H' → Rst K H' a pt pd k T sc (p + 1) → Q (wo T p) H')
theorem ok_take (T : Tx K mg) (B : BtK P K) (gB : mg "BadText" = some (.ref (aBT K))) : Mcl P w K mg base (L2.CX P w) 3 "take" ["self", "kind"] (sp_takeR K) := by
  have M_sees := ok_sees (P := P) (w := w) (base := base) T
  have M_refuse := ok_refuse (P := P) (w := w) (base := base) T B gB
  refine Mcl.of T.m_take T.clR sc_Reader_take (fun vs H Q E h => ?len) (fun _ _ _ _ _ _ _ us hl => match us, hl with | [_, _], _ => rfl) (fun f cdv A outer s H vs Q E hr h => ?body)
  case len =>
    obtain ⟨a, pt, pd, k, T, sc, p, z, rfl, _⟩ := h
    rfl
  case body =>
    obtain ⟨a, pt, pd, k, TT, sc, p, z, rfl, R, hp, qe, q⟩ := h
    refine ⟨_, (Evl.pss_cut (ps_if (pt_not (pt_val (pe_mcal M_sees (hr.mono (by decide)) pass0 (pv 0) (pa_cons (pv 1) pa_nil)))) (pss_one (ps_expr (pe_mcal0 M_refuse (hr.mono (by decide)) (passes_call (takes_of rfl rfl rfl rfl) (fun _ _ _ _ h => h)) (pv 0))))
  pss_nil)
  (pss_cons (ps_fldaug (pv 0) pe_int in_add)
  (pss_one (ps_ret (pe_ix ix_tup (pe_ix ix_list (pe_fld (pv 0) rfl) (pe_op op_sub (pe_fld (pv 0) rfl) pe_int) (fun _ _ => rfl)) pe_int (fun _ _ => rfl)))))), ?_⟩
    obtain ⟨dx, ha⟩ := R.rd
    obtain ⟨us, v, x, w, hpt, hv, rfl, hx⟩ := R.tok hp
    refine ⟨fun σ H' => σ = [some (.ref a), some (.str z)] ∧ H' = H ∧ kd TT p = z, ?_, ?_⟩
    · refine ⟨_, rfl, a, dx, _, rfl, ha, rfl, _, rfl, a, pt, pd, k, TT, sc, p, z, rfl, R, hp, ?_⟩
      refine ⟨_, rfl, ite2 (fun h1 => ?_) (fun h1 => ?_)⟩
      · exact ⟨_, rfl, a, dx, _, rfl, ha, rfl, a, pt, pd, k, TT, sc, p, rfl, R, hp, qe (of_nd h1)⟩
      · exact ⟨rfl, rfl, of_nnd h1⟩
    · rintro σ H' ⟨rfl, rfl, hk⟩
      obtain ⟨dx, ha, b, R'⟩ := R.go (p + 1)
      refine ⟨_, rfl, a, _, dx, _, _, rfl, ha, T.clR, T.na_place, rfl, _, _, rfl, rfl, dx, _, ha, by show 4 < 1000; decide, ?_⟩
      rw [putF_place]
      have ha' : upd H' a (.ins (aR K) dx (RdF pt k pd (p + 1))) a = some (.ins (aR K) dx (RdF pt k pd (p + 1))) := upd_same
      have npt : pt ≠ a := fun z => by rw [z, ha] at hpt; cases hpt
      refine ⟨_, rfl, a, _, dx, _, _, rfl, ha', T.clR, T.na_tokens, rfl, _, rfl, a, _, dx, _, _, rfl, ha', T.clR, T.na_place, rfl, _, _, rfl, rfl, ?_⟩
      refine ⟨pt, us, _, _, rfl, rfl, SqL.of (b.l1 npt hpt), ?_, x, _, 1, _, rfl, rfl, SqT.of (b.t _ _ hx), rfl, q hk _ b R'⟩
      rw [show ((p + 1 : Nat) : Int) - 1 = (p : Int) by omega]
      exact hv
end
end Ev
namespace Ev
open PySem PySem.Spec PyProof.Rows L2
/-- the dict of tables, asked -/
theorem tab_val {H : Hp} {n : Str} : ∀ {kvs : List (Key × V)} {sc : SC}, All2 (TabR H) kvs sc → (tabF sc n = none ∧ valV kvs (.inr n) = none) ∨ ∃ k r q, tabF sc n = some (k, r) ∧ valV kvs (.inr n) = some (.ref q) ∧ H q = some (.tup [.str n, .int (k : Nat), .int (r : Nat)])
  | [], [], _ => .inl ⟨rfl, rfl⟩
  | [], _ :: _, h => h.elim
  | _ :: _, [], h => h.elim
  | e :: kvs, t :: sc, h => by
    obtain ⟨⟨h1, q, h2, h3⟩, hr⟩ := h
    obtain ⟨tn, tk, tr⟩ := t
    by_cases c : n = tn
    · subst c
      refine .inr ⟨tk, tr, q, ?_, ?_, h3⟩
      · simp [tabF, List.lookup]
      · rw [valV_pos h1, h2]
    · have e1 : tabF ((tn, tk, tr) :: sc) n = tabF sc n := by
        have : (n == tn) = false := by simpa using c
        simp [tabF, List.lookup, this]
      have e2 : valV (e :: kvs) (.inr n) = valV kvs (.inr n) := valV_neg (fun z => by
        rw [h1] at z
        injection z with z
        exact c z.symm)
      rw [e1, e2]
      exact tab_val hr
theorem tab_some {H : Hp} {n : Str} {kvs : List (Key × V)} {sc : SC} (h : All2 (TabR H) kvs sc) : (valV kvs (.inr n)).isSome = decide (tabF sc n ≠ none) := by
  rcases tab_val (n := n) h with ⟨e1, e2⟩ | ⟨k, r, q, e1, e2, _⟩
  · rw [e1, e2]
    rfl
  · rw [e1, e2]
    rfl
section
variable {P : Program} {w : World} {K : PySem.W.Frag} {mg : Str → Option Value} {base : Heap}
/-! ### sees_word -/
def sp_sees_word (K : PySem.W.Frag) : Sp := fun vs H Q _ => ∃ a pt pd k T sc p z, vs = [.ref a, .str z] ∧ (∀ c ∈ z.cps.toList, c < 128) ∧ Rst K H a pt pd k T sc p ∧ p < T.length ∧ ∀ H', Bx [] H H' → Q (.bl (decide (kd T p = "word" ∧ wo T p = .str z))) H'
theorem ok_sees_word (T : Tx K mg) : Mcl P w K mg base CX0 1 "sees_word" ["self", "word"] (sp_sees_word K) := by
  refine Mcl.of T.m_sees_word T.clR sc_Reader_sees_word (fun vs H Q E h => ?len) (fun _ _ _ _ _ _ _ us hl => match us, hl with | [_, _], _ => rfl) (fun f cdv A outer s H vs Q E hr h => ?body)
  case len =>
    obtain ⟨a, pt, pd, k, T, sc, p, z, rfl, _⟩ := h
    rfl
  case body =>
    obtain ⟨a, pt, pd, k, TT, sc, p, z, rfl, hz, R, hp, q⟩ := h
    refine ⟨_, PSs.nox (pss_one (ps_ret (pe_cmpR (op_eqD hr.units) (pe_slice sl_tupC (pe_ix ix_list (pe_fld (pv 0) rfl) (pe_fld (pv 0) rfl) (fun _ _ => rfl)) po_none (po_some pe_int)) (pe_tup (pa_cons pe_str (pa_cons (pv 1) pa_nil))) (nomark _)))), ?_⟩
    obtain ⟨dx, ha⟩ := R.rd
    obtain ⟨us, v, x, w, hpt, hv, rfl, hx⟩ := R.tok hp
    refine ⟨_, rfl, a, _, dx, _, _, rfl, ha, T.clR, T.na_tokens, rfl, _, rfl, a, _, dx, _, _, rfl, ha, T.clR, T.na_place, rfl, ?_⟩
    refine ⟨pt, us, _, _, rfl, rfl, SqL.of hpt, hv, 2, rfl, x, _, rfl, SqT.of hx, fun p1 H1 h1 hs1 => ?_⟩
    have e2 : cutV [V.str (kd TT p), wo TT p, .int (po TT p : Nat), .int w] none (some 2) = [V.str (kd TT p), wo TT p] := rfl
    have hb : Bx [] H H1 ∧ H1 p1 = some (.tup [V.str (kd TT p), wo TT p]) := by
      rcases h1 with ⟨rfl, rfl, e⟩ | ⟨hp1, rfl⟩
      · rw [e2] at e
        exact ⟨.refl _ _, by rw [hx, ← e]⟩
      · exact ⟨.new hp1, by rw [upd_same, e2]⟩
    refine ⟨_, rfl, by show 2 ≤ sizeLine; decide, fun p2 hp2 => ?_⟩
    obtain ⟨t, _, t1, t2, _, t3, t4⟩ := kd_data R.tl hp
    have hk : PyData.strOk (kd TT p) = true := strOk_of (by rw [t1]; exact t3)
    have hw : PyData.strOk ("word" : Str) = true := by decide +kernel
    have hzo : PyData.strOk z = true := strOk_of hz
    have h2 : upd H1 p2 (.tup [.str "word", .str z]) p1 = some (.tup [V.str (kd TT p), wo TT p]) := by
      rw [upd_ne (ne_of_none hb.2 hp2)]
      exact hb.2
    have sh2 : SeqAt.shaped (.tuple [.str "word", .str z]) = true := by
      simp [SeqAt.shaped, PyData.canLay0, PyData.canLayAll0, PyData.depth, PyData.depthAll, hw, hzo]
    rcases t4 with ⟨n, hn⟩ | ⟨y, hy, hyl⟩
    · rw [t2, hn] at h2
      refine ⟨.tuple [.str (kd TT p), .int n], .tuple [.str "word", .str z], .tup (SqT.of h2) (.cons (.str _) (.cons (.int _) .nil)), .tup (SqT.of upd_same) (.cons (.str _) (.cons (.str _) .nil)), ?_, sh2, ?_⟩
      · simp [SeqAt.shaped, PyData.canLay0, PyData.canLayAll0, PyData.depth, PyData.depthAll, hk]
      · have e : PyData.eqv (.tuple [.str (kd TT p), .int n]) (.tuple [.str "word", .str z]) = decide (kd TT p = "word" ∧ wo TT p = .str z) := by
          rw [t2, hn]
          simp [PyData.eqv, PyData.eqvAll]
        rw [e]
        exact q _ (hb.1.trans (.new hp2))
    · rw [t2, hy] at h2
      have hyo : PyData.strOk y = true := strOk_of hyl
      refine ⟨.tuple [.str (kd TT p), .str y], .tuple [.str "word", .str z], .tup (SqT.of h2) (.cons (.str _) (.cons (.str _) .nil)), .tup (SqT.of upd_same) (.cons (.str _) (.cons (.str _) .nil)), ?_, sh2, ?_⟩
      · simp [SeqAt.shaped, PyData.canLay0, PyData.canLayAll0, PyData.depth, PyData.depthAll, hk, hyo]
      · have e : PyData.eqv (.tuple [.str (kd TT p), .str y]) (.tuple [.str "word", .str z]) = decide (kd TT p = "word" ∧ wo TT p = .str z) := by
          rw [t2, hy, Bool.eq_iff_iff]
          simp [PyData.eqv, PyData.eqvAll]
        rw [e]
        exact q _ (hb.1.trans (.new hp2))
/-! ### sees_table -/
def sp_sees_table (K : PySem.W.Frag) : Sp := fun vs H Q _ => ∃ a pt pd k T sc, vs = [.ref a] ∧ Rst K H a pt pd k T sc 0 ∧ ∀ H', Bx [] H H' → Q (.bl (decide (isTab T sc))) H'
theorem ok_sees_table (T : Tx K mg) : Mcl P w K mg base CX0 2 "sees_table" ["self"] (sp_sees_table K) := by
  have M_sees_word := ok_sees_word (P := P) (w := w) (base := base) T
  refine Mcl.of T.m_sees_table T.clR sc_Reader_sees_table (fun vs H Q E h => ?len) (fun _ _ _ _ _ _ _ us hl => match us, hl with | [_], _ => rfl) (fun f cdv A outer s H vs Q E hr h => ?body)
  case len =>
    obtain ⟨a, pt, pd, k, T, sc, rfl, _⟩ := h
    rfl
  case body =>
    obtain ⟨a, pt, pd, k, TT, sc, rfl, R, q⟩ := h
    refine ⟨_, PSs.nox (pss_cons (ps_if (pt_not (pt_val (pe_mcal M_sees_word (hr.mono (by decide)) pass0 (pv 0) (pa_cons pe_str pa_nil)))) (pss_one (ps_ret pe_bl))
  pss_nil)
  (pss_one (ps_ret (pe_or (pe_cmpR op_ne (pe_ix ix_tup (pe_ix ix_list (pe_fld (pv 0) rfl) (pe_op op_add (pe_fld (pv 0) rfl) pe_int) (fun _ _ => rfl)) pe_int (fun _ _ => rfl)) pe_str (nomark _)) (pe_one (pe_cmp (pc_dnotin (hu_of hr) pe_str (pe_fld (pv 0) rfl)))))))), ?_⟩
    obtain ⟨dx, ha⟩ := R.rd
    have h0 : 0 < TT.length := by
      obtain ⟨l, e, eT, _⟩ := R.tl
      rw [eT, List.length_append]
      exact Nat.succ_pos _
    refine ⟨_, rfl, a, dx, _, rfl, ha, rfl, a, pt, pd, k, TT, sc, 0, "table", rfl, by decide +kernel, R, h0, fun H1 b1 => ?_⟩
    refine ⟨_, rfl, ite2 (fun h1 => ?_) (fun h1 => ?_)⟩
    · have h2 := of_nd h1
      have e : decide (isTab TT sc) = false := decide_eq_false fun z => h2 z.1
      rw [← e]
      exact q H1 b1
    · have h2 := of_nnd h1
      have h3 : 1 < TT.length := kd_ne R.tl h2.1 (by decide +kernel)
      have R1 := R.mono b1
      have ha1 := b1.l0 ha
      obtain ⟨us, v, x, w, hpt, hv, rfl, hx⟩ := R1.tok h3
      obtain ⟨kvs, hd, hk⟩ := R1.tb
      refine ⟨_, rfl, a, _, dx, _, _, rfl, ha1, T.clR, T.na_tokens, rfl, _, rfl, a, _, dx, _, _, rfl, ha1, T.clR, T.na_place, rfl, _, _, rfl, rfl, ?_⟩
      have ne : (!decide (V.str (kd TT 1) = V.str "(")) = decide (kd TT 1 ≠ "(") := by
        rw [dec_str]
        by_cases c : kd TT 1 = "(" <;> simp [c]
      refine ⟨pt, us, _, _, rfl, rfl, SqL.of hpt, (by show atI us ((1 : Nat) : Int) = _; exact hv), x, _, 0, _, rfl, rfl, SqT.of hx, rfl, rfl, ?_⟩
      refine ⟨_, rfl, ite2 (fun h4 => ?_) (fun h4 => ?_)⟩
      · have h5 := of_decide_eq_true (ne.symm.trans h4)
        have e : decide (isTab TT sc) = true := decide_eq_true ⟨h2, .inl h5⟩
        rw [← e]
        exact q H1 b1
      · have h5 : kd TT 1 = "(" := by
          by_cases c : kd TT 1 = "("
          · exact c
          · exact absurd (ne.trans (decide_eq_true c)) h4
        refine ⟨_, rfl, a, _, dx, _, _, rfl, ha1, T.clR, T.na_tables, rfl, pd, _, rfl, .k (k := .inr "table") hd, ?_⟩
        have e : (!(valV kvs (.inr ("table" : Str))).isSome) = decide (isTab TT sc) := by
          rw [tab_some hk]
          by_cases c : tabF sc "table" = none
          · rw [c, decide_eq_true (show isTab TT sc from ⟨h2, .inr c⟩)]
            rfl
          · rw [decide_eq_true c, decide_eq_false (show ¬ isTab TT sc from fun z => z.2.elim (fun w => w h5) c)]
            rfl
        rw [e]
        exact q H1 b1
end
end Ev
namespace Ev
open PySem PySem.Spec PyProof.Rows L2
section
variable {P : Program} {w : World} {K : PySem.W.Frag} {mg : Str → Option Value} {base : Heap}
/-! ### take_number -/
def sp_take_number (K : PySem.W.Frag) : Sp := fun vs H Q E => ∃ a pt pd k T sc p m, vs = [.ref a, .int (m : Nat)] ∧ Rst K H a pt pd k T sc p ∧ p < T.length ∧ (∀ e, numM T p m = .error e → Bad K E a H k (po T p)) ∧
  ∀ n, numM T p m = .ok n → p + 1 < T.length → ∀ H', Bx [a] H H' → Rst K H' a pt pd k T sc (p + 1) → Q (.int (n : Nat)) H'
theorem ok_take_number (T : Tx K mg) (B : BtK P K) (gB : mg "BadText" = some (.ref (aBT K))) : Mcl P w K mg base (L2.CX P w) 4 "take_number" ["self", "most"] (sp_take_number K) := by
  have M_sees := ok_sees (P := P) (w := w) (base := base) T
  have M_refuse := ok_refuse (P := P) (w := w) (base := base) T B gB
  have M_take := ok_take (P := P) (w := w) (base := base) T B gB
  refine Mcl.of T.m_take_number T.clR sc_Reader_take_number (fun vs H Q E h => ?len) (fun _ _ _ _ _ _ _ us hl => match us, hl with | [_, _], _ => rfl) (fun f cdv A outer s H vs Q E hr h => ?body)
  case len =>
    obtain ⟨a, pt, pd, k, T, sc, p, m, rfl, _⟩ := h
    rfl
  case body =>
    obtain ⟨a, pt, pd, k, TT, sc, p, m, rfl, R, hp, qe, q⟩ := h
    refine ⟨_, (Evl.pss_cut (ps_if (pt_val (pe_mcal M_sees (hr.mono (by decide)) pass0 (pv 0) (pa_cons pe_str pa_nil))) (pss_cons (ps_set (i := 2) sc_Reader_take_number.nd rfl (Or.inl rfl) (pe_ix ix_tup (pe_ix ix_list (pe_fld (pv 0) rfl) (pe_fld (pv 0) rfl) (fun _ _ => rfl)) pe_int (fun _ _ => rfl)))
  (pss_one (ps_if (PW.pt (pw_or (pt_cmpR op_lt (pv 2) pe_int (nomark _)) (pw_or1 (PW.pt (pw_and (pt_cmpR op_notN (pv 1) pe_non (nomark _)) (pw_and1 (pt_cmpR op_gt (pv 2) (pv 1) (nomark _)))))))) (pss_one (ps_expr (pe_mcal0 M_refuse (hr.mono (by decide)) (passes_call (takes_of rfl rfl rfl rfl) (fun _ _ _ _ h => h)) (pv 0))))
  pss_nil)))
  pss_nil)
  (pss_one (ps_ret (pe_mcal M_take (hr.mono (by decide)) (passes_call (takes_of rfl rfl rfl rfl) (fun _ _ _ _ h => h)) (pv 0) (pa_cons pe_str pa_nil))))), ?_⟩
    obtain ⟨dx, ha⟩ := R.rd
    obtain ⟨us, v, x, w, hpt, hv, rfl, hx⟩ := R.tok hp
    refine ⟨fun σ H' => (∃ y, σ = [some (.ref a), some (.int (m : Nat)), y]) ∧ H' = H ∧ (kd TT p = "number" → numM TT p m = .ok (it (wo TT p)).toNat ∧ wo TT p = .int ((it (wo TT p)).toNat : Nat)), ?_, ?_⟩
    · refine ⟨_, rfl, a, dx, _, rfl, ha, rfl, a, pt, pd, k, TT, sc, p, "number", rfl, R, hp, ?_⟩
      refine ⟨_, rfl, ite2 (fun h1 => ?_) (fun h1 => ?_)⟩
      · have hk := of_decide_eq_true h1
        obtain ⟨n, hn⟩ := kd_number R.tl hk
        rw [hn] at hx
        have bad : ∀ (_ : n < 0 ∨ (m : Int) < n), numM TT p m = .error p := fun z => by
          unfold numM
          rw [hn, if_pos (.inr z)]
        refine ⟨_, rfl, a, _, dx, _, _, rfl, ha, T.clR, T.na_tokens, rfl, _, rfl, a, _, dx, _, _, rfl, ha, T.clR, T.na_place, rfl, ?_⟩
        refine ⟨pt, us, _, _, rfl, rfl, SqL.of hpt, hv, x, _, 1, _, rfl, rfl, SqT.of hx, rfl, ?_⟩
        refine ⟨_, rfl, _, _, rfl, rfl, _, rfl, ite2 (fun h2 => ?_) (fun h2 => ?_)⟩
        · exact ⟨_, rfl, a, dx, _, rfl, ha, rfl, a, pt, pd, k, TT, sc, p, rfl, R, hp, qe _ (bad (.inl (of_decide_eq_true h2)))⟩
        · have h2' : ¬ n < 0 := of_decide_eq_false (Bool.eq_false_iff.mpr h2)
          refine ⟨_, rfl, rfl, _, rfl, ite2 (fun h3 => ?_) (fun h3 => ?_)⟩
          · refine ⟨_, rfl, _, rfl, _, _, rfl, rfl, _, rfl, ite2 (fun h4 => ?_) (fun h4 => ?_)⟩
            · exact ⟨_, rfl, a, dx, _, rfl, ha, rfl, a, pt, pd, k, TT, sc, p, rfl, R, hp, qe _ (bad (.inr (of_decide_eq_true h4)))⟩
            · have h4' : ¬ (m : Int) < n := of_decide_eq_false (Bool.eq_false_iff.mpr h4)
              refine ⟨⟨_, rfl⟩, rfl, fun _ => ?_⟩
              rw [hn]
              refine ⟨?_, congrArg V.int ?_⟩
              · unfold numM
                rw [hn, if_neg (fun z => ?_)]
                rcases z with z | z | z
                · exact z hk
                · exact h2' z
                · exact h4' z
              · show n = _
                exact (Int.toNat_of_nonneg (by omega)).symm
          · exact absurd rfl h3
      · exact ⟨⟨_, rfl⟩, rfl, fun hk => absurd (decide_eq_true hk) h1⟩
    · rintro σ H' ⟨⟨y, rfl⟩, rfl, hk⟩
      refine ⟨_, rfl, a, dx, _, rfl, ha, rfl, a, pt, pd, k, TT, sc, p, "number", rfl, R, hp, fun hn => ?_, fun hn H2 b2 R2 => ?_⟩
      · refine qe p ?_
        unfold numM
        rw [if_pos (.inl hn)]
      · obtain ⟨h1, h2⟩ := hk hn
        rw [h2]
        exact q _ h1 (kd_ne R.tl hn (by decide +kernel)) H2 b2 R2
/-! ### take_name -/
def sp_take_name (K : PySem.W.Frag) : Sp := fun vs H Q E => ∃ a pt pd k T sc, vs = [.ref a] ∧ Rst K H a pt pd k T sc 0 ∧ (nameM T sc = none → Bad K E a H k (po T 0)) ∧
  ∀ n r, nameM T sc = some (n, r) → 1 < T.length → ∀ x H', Bx [a] H H' → Rst K H' a pt pd k T sc 1 → H' x = some (.tup [.str (nm (wo T 0)), .int (n : Nat), .int (r : Nat)]) → Q (.ref x) H'
theorem ok_take_name (T : Tx K mg) (B : BtK P K) (gB : mg "BadText" = some (.ref (aBT K))) : Mcl P w K mg base (L2.CX P w) 4 "take_name" ["self"] (sp_take_name K) := by
  have M_sees := ok_sees (P := P) (w := w) (base := base) T
  have M_refuse := ok_refuse (P := P) (w := w) (base := base) T B gB
  have M_take := ok_take (P := P) (w := w) (base := base) T B gB
  refine Mcl.of T.m_take_name T.clR sc_Reader_take_name (fun vs H Q E h => ?len) (fun _ _ _ _ _ _ _ us hl => match us, hl with | [_], _ => rfl) (fun f cdv A outer s H vs Q E hr h => ?body)
  case len =>
    obtain ⟨a, pt, pd, k, T, sc, rfl, _⟩ := h
    rfl
  case body =>
    obtain ⟨a, pt, pd, k, TT, sc, rfl, R, qe, q⟩ := h
    refine ⟨_, (Evl.pss_cut (ps_if (PW.pt (pw_or (pt_not (pt_val (pe_mcal M_sees (hr.mono (by decide)) pass0 (pv 0) (pa_cons pe_str pa_nil)))) (pw_or1 (pt_cmp (pc_dnotin (hu_of hr) (pe_ix ix_tup (pe_ix ix_list (pe_fld (pv 0) rfl) (pe_fld (pv 0) rfl) (fun _ _ => rfl)) pe_int (fun _ _ => rfl)) (pe_fld (pv 0) rfl)))))) (pss_one (ps_expr (pe_mcal0 M_refuse (hr.mono (by decide)) (passes_call (takes_of rfl rfl rfl rfl) (fun _ _ _ _ h => h)) (pv 0))))
  pss_nil)
  (pss_one (ps_ret (pe_dget (hu_of hr) (pe_fld (pv 0) rfl) (pe_mcal M_take (hr.mono (by decide)) (passes_call (takes_of rfl rfl rfl rfl) (fun _ _ _ _ h => h)) (pv 0) (pa_cons pe_str pa_nil)) (fun _ _ => rfl))))), ?_⟩
    obtain ⟨dx, ha⟩ := R.rd
    have hp : 0 < TT.length := by
      obtain ⟨l, e, eT, _⟩ := R.tl
      rw [eT, List.length_append]
      exact Nat.succ_pos _
    obtain ⟨us, v, x, w, hpt, hv, rfl, hx⟩ := R.tok hp
    obtain ⟨kvs, hd, hk⟩ := R.tb
    refine ⟨fun σ H' => σ = [some (.ref a)] ∧ H' = H ∧ kd TT 0 = "word" ∧ tabF sc (nm (wo TT 0)) ≠ none, ?_, ?_⟩
    · refine ⟨_, rfl, a, dx, _, rfl, ha, rfl, a, pt, pd, k, TT, sc, 0, "word", rfl, R, hp, ?_⟩
      refine ⟨_, rfl, ite2 (fun h1 => ?_) (fun h1 => ?_)⟩
      · refine ⟨_, rfl, a, dx, _, rfl, ha, rfl, a, pt, pd, k, TT, sc, 0, rfl, R, hp, qe ?_⟩
        unfold nameM
        rw [if_neg (of_nd h1)]
      · have h2 := of_nnd h1
        obtain ⟨y, hy, _⟩ := kd_word R.tl h2
        rw [hy] at hx
        refine ⟨_, rfl, a, _, dx, _, _, rfl, ha, T.clR, T.na_tokens, rfl, _, rfl, a, _, dx, _, _, rfl, ha, T.clR, T.na_place, rfl, ?_⟩
        refine ⟨pt, us, _, _, rfl, rfl, SqL.of hpt, hv, x, _, 1, _, rfl, rfl, SqT.of hx, rfl, ?_⟩
        refine ⟨_, rfl, a, _, dx, _, _, rfl, ha, T.clR, T.na_tables, rfl, pd, _, rfl, .k (k := .inr y) hd, ?_⟩
        rw [tab_some hk]
        refine ⟨_, rfl, ite2 (fun h3 => ?_) (fun h3 => ?_)⟩
        · refine ⟨_, rfl, a, dx, _, rfl, ha, rfl, a, pt, pd, k, TT, sc, 0, rfl, R, hp, qe ?_⟩
          unfold nameM
          rw [if_pos h2, hy]
          have h4 := of_nd h3
          by_cases c : tabF sc y = none
          · exact c
          · exact absurd c h4
        · refine ⟨rfl, rfl, h2, ?_⟩
          rw [hy]
          exact of_nnd h3
    · rintro σ H' ⟨rfl, rfl, h2, h3⟩
      obtain ⟨y, hy, _⟩ := kd_word R.tl h2
      have h1 : 1 < TT.length := kd_ne R.tl h2 (by decide +kernel)
      refine ⟨_, rfl, a, _, dx, _, _, rfl, ha, T.clR, T.na_tables, rfl, _, rfl, a, dx, _, rfl, ha, rfl, a, pt, pd, k, TT, sc, 0, "word", rfl, R, hp, fun z => absurd h2 z, fun _ H2 b2 R2 => ?_⟩
      obtain ⟨kvs2, hd2, hk2⟩ := R2.tb
      rw [hy] at h3
      rcases tab_val (n := y) hk2 with ⟨e1, e2⟩ | ⟨n, r, x2, e1, e2, e3⟩
      · exact absurd e1 h3
      · rw [hy]
        refine ⟨pd, .ref x2, rfl, ?_, ?_⟩
        · rw [← e2]
          exact .k (k := .inr y) hd2
        · refine q n r ?_ h1 x2 H2 b2 R2 ?_
          · unfold nameM
            rw [if_pos h2, hy]
            exact e1
          · rw [hy]
            exact e3
end
end Ev
namespace Ev
open PySem PySem.Spec PyProof.Rows L2
theorem numM_err {T : List Tk} {p m e : Nat} (h : numM T p m = .error e) : e = p := by
  unfold numM at h
  split at h
  · injection h with h
    exact h.symm
  · injection h
theorem numM_ok {T : List Tk} {p m n : Nat} (h : numM T p m = .ok n) : n ≤ m := by
  unfold numM at h
  split at h
  · injection h
  · next hc =>
    injection h with h
    have : ¬ (m : Int) < it (wo T p) := fun z => hc (.inr (.inr z))
    omega
theorem Bx.freeA {a p : Addr} {H H1 : Hp} {o : HO} (b : Bx [a] H H1) (ha : H1 a = some o) (h : H1 p = none) : H p = none := by
  cases e : H p with
  | none => rfl
  | some u =>
    rw [b.k p u (fun z => by
      rw [List.mem_singleton.mp z, ha] at h
      cases h) e] at h
    cases h
/-- a new object, made after the reader has moved -/
theorem new_a {a : Addr} {H H1 : Hp} {u : HO} {o : HO} {Q : VK} (b : Bx [a] H H1) (ha : H1 a = some u) (k : ∀ p H', H p = none → H' p = some o → Bx [a] H H' → Bx [] H1 H' → Q (.ref p) H') : ∀ p, H1 p = none → Q (.ref p) (upd H1 p o) :=
  fun p hp => k p _ (b.freeA ha hp) upd_same (b.trans (.new hp)) (.new hp)
section
variable {P : Program} {w : World} {K : PySem.W.Frag} {mg : Str → Option Value} {base : Heap}
theorem Rst.pos {H : Hp} {a pt pd : Addr} {k p : Nat} {T : List Tk} {sc : SC} (R : Rst K H a pt pd k T sc p) : 0 < T.length := by
  obtain ⟨l, e, eT, _⟩ := R.tl
  rw [eT, List.length_append]
  exact Nat.succ_pos _
/-! ### read_table -/
def sp_read_table (K : PySem.W.Frag) : Sp := fun vs H Q E => ∃ a pt pd k T sc, vs = [.ref a] ∧ Rst K H a pt pd k T sc 0 ∧ kd T 0 = "word" ∧ (∀ e, tabM T sc = .error e → Bad K E a H k (po T e)) ∧
  ∀ n c r, tabM T sc = .ok (n, c, r) → ∀ q H', H q = none → H' q = some (.tup [.str n, .int (c : Nat), .int (r : Nat)]) → Bx [a] H H' → Q (.ref q) H'
theorem ok_read_table (T : Tx K mg) (B : BtK P K) (gB : mg "BadText" = some (.ref (aBT K))) : Mcl P w K mg base (L2.CX P w) 5 "read_table" ["self"] (sp_read_table K) := by
  have M_sees := ok_sees (P := P) (w := w) (base := base) T
  have M_refuse := ok_refuse (P := P) (w := w) (base := base) T B gB
  have M_take := ok_take (P := P) (w := w) (base := base) T B gB
  have M_take_number := ok_take_number (P := P) (w := w) (base := base) T B gB
  refine Mcl.of T.m_read_table T.clR sc_Reader_read_table (fun vs H Q E h => ?len) (fun _ _ _ _ _ _ _ us hl => match us, hl with | [_], _ => rfl) (fun f cdv A outer s H vs Q E hr h => ?body)
  case len =>
    obtain ⟨a, pt, pd, k, T, sc, rfl, _⟩ := h
    rfl
  case body =>
    obtain ⟨a, pt, pd, k, TT, sc, rfl, R, hw, qe, q⟩ := h
    refine ⟨_, (pss_cons (ps_expr (pe_mcal M_take (hr.mono (by decide)) (passes_call (takes_of rfl rfl rfl rfl) (fun _ _ _ _ h => h)) (pv 0) (pa_cons pe_str pa_nil)))
  (Evl.pss_cut (ps_if (PW.pt (pw_and (pt_val (pe_mcal M_sees (hr.mono (by decide)) pass0 (pv 0) (pa_cons pe_str pa_nil))) (pw_and1 (pt_cmp (pc_din (hu_of hr) (pe_ix ix_tup (pe_ix ix_list (pe_fld (pv 0) rfl) (pe_fld (pv 0) rfl) (fun _ _ => rfl)) pe_int (fun _ _ => rfl)) (pe_fld (pv 0) rfl)))))) (pss_one (ps_expr (pe_mcal0 M_refuse (hr.mono (by decide)) (passes_call (takes_of rfl rfl rfl rfl) (fun _ _ _ _ h => h)) (pv 0))))
  pss_nil)
  (pss_cons (ps_set (i := 1) sc_Reader_read_table.nd rfl (Or.inl rfl) (pe_mcal M_take (hr.mono (by decide)) (passes_call (takes_of rfl rfl rfl rfl) (fun _ _ _ _ h => h)) (pv 0) (pa_cons pe_str pa_nil)))
  (pss_cons (ps_set (i := 2) sc_Reader_read_table.nd rfl (Or.inl rfl) (pe_mcal M_take_number (hr.mono (by decide)) (passes_call (takes_of rfl rfl rfl rfl) (fun _ _ _ _ h => h)) (pv 0) (pa_cons (pe_cint T.c_MOST) pa_nil)))
  (pss_cons (ps_set (i := 3) sc_Reader_read_table.nd rfl (Or.inl rfl) (pe_mcal M_take_number (hr.mono (by decide)) (passes_call (takes_of rfl rfl rfl rfl) (fun _ _ _ _ h => h)) (pv 0) (pa_cons (pe_op op_sub (pe_cint T.c_MOST) (pv 2)) pa_nil)))
  (pss_cons (ps_expr (pe_mcal M_take (hr.mono (by decide)) (passes_call (takes_of rfl rfl rfl rfl) (fun _ _ _ _ h => h)) (pv 0) (pa_cons pe_str pa_nil)))
  (pss_one (ps_ret (pe_tup (pa_cons (pv 1) (pa_cons (pv 2) (pa_cons (pv 3) pa_nil)))))))))))), ?_⟩
    obtain ⟨dx, ha⟩ := R.rd
    refine ⟨_, rfl, a, dx, _, rfl, ha, rfl, a, pt, pd, k, TT, sc, 0, "word", rfl, R, R.pos, fun z => absurd hw z, fun _ H1 b1 R1 => ?_⟩
    have l1 : 1 < TT.length := kd_ne R.tl hw (by decide +kernel)
    obtain ⟨dx1, ha1⟩ := R1.rd
    obtain ⟨us, v, x, w, hpt, hv, rfl, hx⟩ := R1.tok l1
    obtain ⟨kvs, hd, hk⟩ := R1.tb
    refine ⟨fun σ H' => σ = [some (.ref a), none, none, none] ∧ H' = H1 ∧ (kd TT 1 = "word" → tabF sc (nm (wo TT 1)) = none), ?_, ?_⟩
    · refine ⟨_, rfl, a, dx1, _, rfl, ha1, rfl, a, pt, pd, k, TT, sc, 1, "word", rfl, R1, l1, ?_⟩
      refine ⟨_, rfl, ite2 (fun h1 => ?_) (fun h1 => iteF ?_)⟩
      · have h2 := of_decide_eq_true h1
        obtain ⟨y, hy, _⟩ := kd_word R.tl h2
        rw [hy] at hx
        refine ⟨_, rfl, a, _, dx1, _, _, rfl, ha1, T.clR, T.na_tokens, rfl, _, rfl, a, _, dx1, _, _, rfl, ha1, T.clR, T.na_place, rfl, ?_⟩
        refine ⟨pt, us, _, _, rfl, rfl, SqL.of hpt, hv, x, _, 1, _, rfl, rfl, SqT.of hx, rfl, ?_⟩
        refine ⟨_, rfl, a, _, dx1, _, _, rfl, ha1, T.clR, T.na_tables, rfl, pd, _, rfl, .k (k := .inr y) hd, ?_⟩
        rw [tab_some hk]
        refine ⟨_, rfl, ite2 (fun h3 => ?_) (fun h3 => ?_)⟩
        · refine ⟨_, rfl, a, dx1, _, rfl, ha1, rfl, a, pt, pd, k, TT, sc, 1, rfl, R1, l1, (qe 1 ?_).at b1⟩
          unfold tabM
          rw [if_pos (.inr (by rw [hy]; exact of_decide_eq_true h3))]
        · refine ⟨rfl, rfl, fun _ => ?_⟩
          rw [hy]
          by_cases c : tabF sc y = none
          · exact c
          · exact absurd (decide_eq_true c) h3
      · exact ⟨rfl, rfl, fun z => absurd (decide_eq_true z) h1⟩
    · rintro σ H' ⟨rfl, rfl, hn⟩
      refine ⟨_, rfl, a, dx1, _, rfl, ha1, rfl, a, pt, pd, k, TT, sc, 1, "word", rfl, R1, l1, fun z => ?_, fun h1 H2 b2 R2 => ?_⟩
      · refine (qe 1 ?_).at b1
        unfold tabM
        rw [if_pos (.inl z)]
      have l2 : 2 < TT.length := kd_ne R.tl h1 (by decide +kernel)
      obtain ⟨y, hy, _⟩ := kd_word R.tl h1
      have hnot : ¬ (kd TT 1 ≠ "word" ∨ tabF sc (nm (wo TT 1)) ≠ none) := fun z => z.elim (fun z => z h1) (fun z => z (hn h1))
      obtain ⟨dx2, ha2⟩ := R2.rd
      rw [hy]
      refine ⟨_, rfl, a, dx2, _, rfl, ha2, rfl, a, pt, pd, k, TT, sc, 2, 8, rfl, R2, l2, fun e he => ?_, fun c hc l3 H3 b3 R3 => ?_⟩
      · rw [← numM_err he]
        refine (qe e ?_).at (b1.trans b2)
        unfold tabM
        rw [if_neg hnot, he]
      have c8 := numM_ok hc
      obtain ⟨dx3, ha3⟩ := R3.rd
      refine ⟨_, rfl, a, dx3, _, rfl, ha3, rfl, _, rfl, _, _, rfl, rfl, a, pt, pd, k, TT, sc, 3, 8 - c, congrArg (fun i => [V.ref a, V.int i]) (by omega), R3, l3, fun e he => ?_, fun r hr l4 H4 b4 R4 => ?_⟩
      · rw [← numM_err he]
        refine (qe e ?_).at ((b1.trans b2).trans b3)
        unfold tabM
        rw [if_neg hnot, hc]
        dsimp only
        rw [he]
      obtain ⟨dx4, ha4⟩ := R4.rd
      have ok : ∀ z, (kd TT 4 ≠ "end" → z = Except.error 4) → (kd TT 4 = "end" → z = Except.ok (nm (wo TT 1), c, r)) → tabM TT sc = z := fun z z1 z2 => by
        unfold tabM
        rw [if_neg hnot, hc]
        dsimp only
        rw [hr]
        dsimp only
        by_cases e : kd TT 4 = "end"
        · rw [if_neg (fun w => w e), z2 e]
        · rw [if_pos e, z1 e]
      refine ⟨_, rfl, a, dx4, _, rfl, ha4, rfl, a, pt, pd, k, TT, sc, 4, "end", rfl, R4, l4, fun z => (qe 4 (ok _ (fun _ => rfl) fun e => absurd e z)).at (((b1.trans b2).trans b3).trans b4), fun h4 H5 b5 R5 => ?_⟩
      obtain ⟨dx5, ha5⟩ := R5.rd
      refine ⟨_, rfl, _, rfl, _, rfl, by show 3 ≤ sizeLine; decide, new_a ((((b1.trans b2).trans b3).trans b4).trans b5) ha5 fun x H' hx hx' b' _ => ?_⟩
      refine q (nm (wo TT 1)) c r (ok _ (fun e => absurd h4 e) fun _ => rfl) x H' hx ?_ b'
      rw [hy]
      exact hx'
/-! ### read_term -/
def sp_read_term (K : PySem.W.Frag) : Sp := fun vs H Q E => ∃ a pt pd k T sc p, vs = [.ref a, .bl false] ∧ Rst K H a pt pd k T sc p ∧ p < T.length ∧ (¬ (kd T p = "string" ∨ kd T p = "number") → Bad K E a H k (po T p)) ∧
  ((kd T p = "string" ∨ kd T p = "number") → ∀ q H', H q = none → H' q = some (.tup [.str "value", wo T p]) → Bx [a] H H' → Rst K H' a pt pd k T sc (p + 1) → Q (.ref q) H')
theorem ok_read_term (T : Tx K mg) (B : BtK P K) (gB : mg "BadText" = some (.ref (aBT K))) : Mcl P w K mg base (L2.CX P w) 4 "read_term" ["self", "has_variables"] (sp_read_term K) := by
  have M_sees := ok_sees (P := P) (w := w) (base := base) T
  have M_take := ok_take (P := P) (w := w) (base := base) T B gB
  refine Mcl.of T.m_read_term T.clR sc_Reader_read_term (fun vs H Q E h => ?len) (fun _ _ _ _ _ _ _ us hl => match us, hl with | [_, _], _ => rfl) (fun f cdv A outer s H vs Q E hr h => ?body)
  case len =>
    obtain ⟨a, pt, pd, k, T, sc, p, rfl, _⟩ := h
    rfl
  case body =>
    obtain ⟨a, pt, pd, k, TT, sc, p, rfl, R, hp, qe, q⟩ := h
    refine ⟨_, (pss_cons (ps_if (PW.pt (pw_and (pt_val (pv 1)) (pw_and1 (pt_val (pe_mcal M_sees (hr.mono (by decide)) pass0 (pv 0) (pa_cons pe_str pa_nil)))))) (pss_one (ps_ret (pe_tup (pa_cons pe_str (pa_cons (pe_mcal M_take (hr.mono (by decide)) (passes_call (takes_of rfl rfl rfl rfl) (fun _ _ _ _ h => h)) (pv 0) (pa_cons pe_str pa_nil)) pa_nil)))))
  pss_nil)
  (pss_cons (ps_if (pt_val (pe_mcal M_sees (hr.mono (by decide)) pass0 (pv 0) (pa_cons pe_str pa_nil))) (pss_one (ps_ret (pe_tup (pa_cons pe_str (pa_cons (pe_mcal M_take (hr.mono (by decide)) (passes_call (takes_of rfl rfl rfl rfl) (fun _ _ _ _ h => h)) (pv 0) (pa_cons pe_str pa_nil)) pa_nil)))))
  pss_nil)
  (pss_one (ps_ret (pe_tup (pa_cons pe_str (pa_cons (pe_mcal M_take (hr.mono (by decide)) (passes_call (takes_of rfl rfl rfl rfl) (fun _ _ _ _ h => h)) (pv 0) (pa_cons pe_str pa_nil)) pa_nil))))))), ?_⟩
    obtain ⟨dx, ha⟩ := R.rd
    refine ⟨_, rfl, _, rfl, ?_⟩
    refine iteF (iteF ?_)
    refine ⟨_, rfl, a, dx, _, rfl, ha, rfl, a, pt, pd, k, TT, sc, p, "string", rfl, R, hp, ?_⟩
    refine ⟨_, rfl, ite2 (fun h1 => ?_) (fun h1 => ?_)⟩
    · have h2 := of_decide_eq_true h1
      refine ⟨_, rfl, a, dx, _, rfl, ha, rfl, a, pt, pd, k, TT, sc, p, "string", rfl, R, hp, fun z => absurd h2 z, fun _ H1 b1 R1 => ?_⟩
      obtain ⟨dx1, ha1⟩ := R1.rd
      exact ⟨by show 2 ≤ sizeLine; decide, new_a b1 ha1 fun x H' hx hx' b' b'' => q (.inl h2) x H' hx hx' b' (R1.mono b'')⟩
    · have h2 : ¬ kd TT p = "string" := fun z => h1 (decide_eq_true z)
      refine ⟨_, rfl, a, dx, _, rfl, ha, rfl, a, pt, pd, k, TT, sc, p, "number", rfl, R, hp, fun z => qe fun y => y.elim h2 z, fun h3 H1 b1 R1 => ?_⟩
      obtain ⟨dx1, ha1⟩ := R1.rd
      exact ⟨by show 2 ≤ sizeLine; decide, new_a b1 ha1 fun x H' hx hx' b' b'' => q (.inr h3) x H' hx hx' b' (R1.mono b'')⟩
end
end Ev
namespace Ev
open PySem PySem.Spec PyProof.Rows L2
/-- a term as the program has it: ('value', x) -/
def TrmR (H : Hp) (v : V) (x : V) : Prop := ∃ q, v = .ref q ∧ H q = some (.tup [.str "value", x])
theorem TrmR.mono {D : List Addr} {H H' : Hp} {v x : V} (h : TrmR H v x) (b : Bx D H H') : TrmR H' v x := by
  obtain ⟨q, e, h⟩ := h
  exact ⟨q, e, b.t _ _ h⟩
/-- the state behind a change of a list that is none of its -/
theorem Rst.set {K : PySem.W.Frag} {H0 H : Hp} {a pt pd : Addr} {k p : Nat} {T : List Tk} {sc : SC} {l : Addr} {xs : List V} {o : HO} (R : Rst K H a pt pd k T sc p) (R0 : Rst K H0 a pt pd k T sc 0 ∨ (∃ p0, Rst K H0 a pt pd k T sc p0)) (h0 : H0 l = none) (hl : H l = some (.lst xs)) : Rst K (upd H l o) a pt pd k T sc p := by
  obtain ⟨p0, R0⟩ : ∃ p0, Rst K H0 a pt pd k T sc p0 := R0.elim (fun h => ⟨0, h⟩) id
  have b : Bx [l] H (upd H l o) := Bx.mut (.refl _ _) (.inl (by simp)) hl
  obtain ⟨⟨dx, ha⟩, ⟨us, ht, hu⟩, ⟨kvs, hd, hk⟩, tl⟩ := R
  obtain ⟨⟨dx0, ha0⟩, ⟨us0, ht0, _⟩, ⟨kvs0, hd0, _⟩, _⟩ := R0
  refine ⟨⟨dx, b.l1 (ne_of_none ha0 h0) ha⟩, ⟨us, b.l1 (ne_of_none ht0 h0) ht, hu.mono fun v t h => h.mono b⟩, ⟨kvs, b.l1 (ne_of_none hd0 h0) hd, hk.mono fun e t h => ?_⟩, tl⟩
  obtain ⟨h1, r, h2, h3⟩ := h
  exact ⟨h1, r, h2, b.t _ _ h3⟩
section
variable {P : Program} {w : World} {K : PySem.W.Frag} {mg : Str → Option Value} {base : Heap}
/-! ### read_terms -/
def sp_read_terms (K : PySem.W.Frag) : Sp := fun vs H Q E => ∃ a pt pd k T sc p n, vs = [.ref a, .int (n : Nat), .bl false] ∧ n ≤ 1000 ∧ Rst K H a pt pd k T sc p ∧ p < T.length ∧ (∀ e, termsN T p n = .error e → Bad K E a H k (po T e)) ∧
  ∀ xs q, termsN T p n = .ok (xs, q) → ∀ l H' us, H l = none → H' l = some (.lst us) → All2 (TrmR H') us xs → Bx [a] H H' → Rst K H' a pt pd k T sc q → Q (.ref l) H'
theorem ok_read_terms (T : Tx K mg) (B : BtK P K) (gB : mg "BadText" = some (.ref (aBT K))) : Mcl P w K mg base (L2.CX P w) 5 "read_terms" ["self", "many", "has_variables"] (sp_read_terms K) := by
  have M_take := ok_take (P := P) (w := w) (base := base) T B gB
  have M_read_term := ok_read_term (P := P) (w := w) (base := base) T B gB
  refine Mcl.of T.m_read_terms T.clR sc_Reader_read_terms (fun vs H Q E h => ?len) (fun _ _ _ _ _ _ _ us hl => match us, hl with | [_, _, _], _ => rfl) (fun f cdv A outer s H vs Q E hr h => ?body)
  case len =>
    obtain ⟨a, pt, pd, k, T, sc, p, n, rfl, _⟩ := h
    rfl
  case body =>
    obtain ⟨a, pt, pd, k, TT, sc, p0, n, rfl, hn, R, hp, qe, q⟩ := h
    refine ⟨_, (pss_cons (ps_set (i := 3) sc_Reader_read_terms.nd rfl (Or.inl rfl) (pe_lst pa_nil))
  (pss_cons (ps_for (passes_of rfl) rfl (pi_range1 (by rfl) T.b_range (pa_cons (pv 1) pa_nil)) (pg_name (i := 4) sc_Reader_read_terms.nd rfl (Or.inl rfl))
  (Evl.pss_cut (ps_if (pt_cmpR op_gt (pv 4) pe_int (nomark _)) (pss_one (ps_expr (pe_mcal M_take (hr.mono (by decide)) (passes_call (takes_of rfl rfl rfl rfl) (fun _ _ _ _ h => h)) (pv 0) (pa_cons pe_str pa_nil))))
  pss_nil)
  (pss_one (ps_expr (pe_bm PySem.F.plainAttrs_list PySem.F.slot_list_append PySem.F.type_list_append mt_append (pv 3) (pa_cons (pe_mcal M_read_term (hr.mono (by decide)) (passes_call (takes_of rfl rfl rfl rfl) (fun _ _ _ _ h => h)) (pv 0) (pa_cons (pv 2) pa_nil)) pa_nil))))))
  (pss_one (ps_ret (pv 3))))), ?_⟩
    obtain ⟨dx, ha⟩ := R.rd
    refine ⟨by decide, fun l hl => ?_⟩
    have nla : l ≠ a := (ne_of_none ha hl).symm
    refine ⟨_, rfl, _, rfl, by omega, by omega, for_range (lo := 0) (n := ((n : Nat) : Int).toNat) (fun i σ H' => ∃ (us acc : List V) (p : Nat) (y : Option V), σ = [some (.ref a), some (.int (n : Nat)), some (.bl false), some (.ref l), y] ∧ termsN TT p0 i = .ok (acc, p) ∧
      H' l = some (.lst us) ∧ All2 (TrmR H') us acc ∧ Bx [a] H H' ∧ Rst K H' a pt pd k TT sc p ∧ us.length = i) ⟨[], [], p0, _, rfl, rfl, upd_same, trivial, .new hl, R.mono (.new hl), rfl⟩ ?_ ?_⟩
    · rintro i σ H1 hi ⟨us, acc, p, y, rfl, hter, hus, hall, b1, R1, hlen⟩
      have hp1 : p < TT.length := ((terms_ok R.tl hp i).1 acc p hter).2.2
      have estep := terms_s hter
      obtain ⟨dx1, ha1⟩ := R1.rd
      have err : ∀ e, stepT TT i acc p = .error e → Bad K E a H k (po TT e) := fun e he => qe e (terms_stuck (i := i + 1) (estep.trans he) (by omega))
      refine ⟨fun σ H' => σ = [some (.ref a), some (.int (n : Nat)), some (.bl false), some (.ref l), some (.int (0 + (i : Int)))] ∧ H' l = some (.lst us) ∧ All2 (TrmR H') us acc ∧ Bx [a] H H' ∧ Rst K H' a pt pd k TT sc (qT i p) ∧ qT i p < TT.length ∧ ¬ (0 < i ∧ kd TT p ≠ ","), ?_, ?_⟩
      · refine ⟨_, rfl, _, _, rfl, rfl, _, rfl, ite2 (fun h1 => ?_) (fun h1 => ?_)⟩
        · have h2 : 0 < i := by
            have := of_decide_eq_true h1
            omega
          have eq : qT i p = p + 1 := by unfold qT; rw [if_pos h2]
          refine ⟨_, rfl, a, dx1, _, rfl, ha1, rfl, a, pt, pd, k, TT, sc, p, ",", rfl, R1, hp1, fun z => (err p ?_).at b1, fun z H2 b2 R2 => ?_⟩
          · unfold stepT
            rw [if_pos ⟨h2, z⟩]
          · rw [eq]
            exact ⟨rfl, b2.l1 nla hus, hall.mono fun v t h => h.mono b2, b1.trans b2, R2, kd_ne R.tl z (by decide +kernel), fun z2 => z2.2 z⟩
        · have h2 : ¬ 0 < i := by
            have : ¬ (0 : Int) < 0 + (i : Int) := of_decide_eq_false (Bool.eq_false_iff.mpr h1)
            omega
          have eq : qT i p = p := by unfold qT; rw [if_neg h2]
          rw [eq]
          exact ⟨rfl, hus, hall, b1, R1, hp1, fun z => h2 z.1⟩
      · rintro σ H2 ⟨rfl, hus2, hall2, b2, R2, hq, hno⟩
        obtain ⟨dx2, ha2⟩ := R2.rd
        refine ⟨_, rfl, .inl ⟨rfl, _, SqL.of hus2⟩, _, rfl, a, dx2, _, rfl, ha2, rfl, _, rfl, a, pt, pd, k, TT, sc, qT i p, rfl, R2, hq, fun z => (err _ ?_).at b2, fun z x H3 hx hx3 b3 R3 => ?_⟩
        · unfold stepT
          rw [if_neg hno, if_neg z]
        · have hus3 := b3.l1 nla hus2
          have bm : Bx [l] H3 (upd H3 l (.lst (us ++ [.ref x]))) := Bx.mut (.refl _ _) (.inl (by simp)) hus3
          refine ⟨l, us, _, rfl, rfl, hus3, sz_lt (by omega), us ++ [.ref x], acc ++ [wo TT (qT i p)], qT i p + 1, _, rfl, ?_, upd_same, ?_, ?_, R3.set (.inr ⟨_, R⟩) hl hus3, ?_⟩
          · rw [estep]
            unfold stepT
            rw [if_neg hno, if_pos z]
          · exact All2.app1 ⟨x, rfl, bm.t _ _ hx3⟩ (hall2.mono fun v t h => (h.mono b3).mono bm)
          · exact Bx.mut (b2.trans b3) (.inr hl) hus3
          · rw [List.length_append, hlen]
            rfl
    · rintro σ H1 ⟨us, acc, p, y, rfl, hter, hus, hall, b1, R1, hlen⟩
      exact ⟨_, rfl, q acc p hter l H1 us hl hus hall b1 R1⟩
/-! ### read_atom -/
def sp_read_atom (K : PySem.W.Frag) : Sp := fun vs H Q E => ∃ a pt pd k T sc, vs = [.ref a, .bl false] ∧ Rst K H a pt pd k T sc 0 ∧ (∀ t ∈ sc, t.2.1 + t.2.2 ≤ 8) ∧ (∀ e, atomM T sc = .error e → Bad K E a H k (po T e)) ∧
  ∀ n xs p, atomM T sc = .ok (n, xs, p) → ∀ q t H' us, H q = none → H' q = some (.tup [.str n, .ref t]) → H' t = some (.tup us) → All2 (TrmR H') us xs → Bx [a] H H' → Rst K H' a pt pd k T sc p → p < T.length → xs.length ≤ 8 → Q (.ref q) H'
theorem All2.app {β α : Type} {R : β → α → Prop} : ∀ {vs : List β} {ts : List α} {vs2 : List β} {ts2 : List α}, All2 R vs ts → All2 R vs2 ts2 → All2 R (vs ++ vs2) (ts ++ ts2)
  | [], [], _, _, _, h2 => h2
  | [], _ :: _, _, _, h, _ => h.elim
  | _ :: _, [], _, _, h, _ => h.elim
  | _ :: vs, _ :: ts, _, _, h, h2 => ⟨h.1, All2.app h.2 h2⟩
theorem tab_le {sc : SC} {n : Str} {k r : Nat} (h : ∀ t ∈ sc, t.2.1 + t.2.2 ≤ 8) (e : tabF sc n = some (k, r)) : k + r ≤ 8 := by
  induction sc with
  | nil => cases e
  | cons t sc ih =>
    obtain ⟨tn, tk, tr⟩ := t
    by_cases c : n = tn
    · subst c
      have e2 : some (tk, tr) = some (k, r) := by
        rw [← e]
        simp [tabF, List.lookup]
      injection e2 with e2
      injection e2 with e3 e4
      have := h _ List.mem_cons_self
      subst e3 e4
      exact this
    · refine ih (fun t ht => h t (List.mem_cons_of_mem _ ht)) ?_
      rw [← e]
      have : (n == tn) = false := by simpa using c
      simp [tabF, List.lookup, this]
theorem ok_read_atom (T : Tx K mg) (B : BtK P K) (gB : mg "BadText" = some (.ref (aBT K))) : Mcl P w K mg base (L2.CX P w) 6 "read_atom" ["self", "has_variables"] (sp_read_atom K) := by
  have M_take_name := ok_take_name (P := P) (w := w) (base := base) T B gB
  have M_take := ok_take (P := P) (w := w) (base := base) T B gB
  have M_read_terms := ok_read_terms (P := P) (w := w) (base := base) T B gB
  refine Mcl.of T.m_read_atom T.clR sc_Reader_read_atom (fun vs H Q E h => ?len) (fun _ _ _ _ _ _ _ us hl => match us, hl with | [_, _], _ => rfl) (fun f cdv A outer s H vs Q E hr h => ?body)
  case len =>
    obtain ⟨a, pt, pd, k, T, sc, rfl, _⟩ := h
    rfl
  case body =>
    obtain ⟨a, pt, pd, k, TT, sc, rfl, R, h8, qe, q⟩ := h
    refine ⟨_, (pss_cons (ps_asg (pe_mcal0 M_take_name (hr.mono (by decide)) (passes_call (takes_of rfl rfl rfl rfl) (fun _ _ _ _ h => h)) (pv 0)) (pg_tup (by rfl) (pgs_cons (pg_name (i := 2) sc_Reader_read_atom.nd rfl (Or.inl rfl)) (pgs_cons (pg_name (i := 3) sc_Reader_read_atom.nd rfl (Or.inl rfl)) (pgs_cons (pg_name (i := 4) sc_Reader_read_atom.nd rfl (Or.inl rfl)) pgs_nil)))))
  (pss_cons (ps_expr (pe_mcal M_take (hr.mono (by decide)) (passes_call (takes_of rfl rfl rfl rfl) (fun _ _ _ _ h => h)) (pv 0) (pa_cons pe_str pa_nil)))
  (pss_cons (ps_set (i := 5) sc_Reader_read_atom.nd rfl (Or.inl rfl) (pe_mcal M_read_terms (hr.mono (by decide)) (passes_call (takes_of rfl rfl rfl rfl) (fun _ _ _ _ h => h)) (pv 0) (pa_cons (pv 3) (pa_cons (pv 1) pa_nil))))
  (pss_cons (ps_expr (pe_mcal M_take (hr.mono (by decide)) (passes_call (takes_of rfl rfl rfl rfl) (fun _ _ _ _ h => h)) (pv 0) (pa_cons pe_str pa_nil)))
  (pss_cons (ps_set (i := 5) sc_Reader_read_atom.nd rfl (Or.inl rfl) (pe_op op_cat (pv 5) (pe_mcal M_read_terms (hr.mono (by decide)) (passes_call (takes_of rfl rfl rfl rfl) (fun _ _ _ _ h => h)) (pv 0) (pa_cons (pv 4) (pa_cons (pv 1) pa_nil)))))
  (pss_cons (ps_expr (pe_mcal M_take (hr.mono (by decide)) (passes_call (takes_of rfl rfl rfl rfl) (fun _ _ _ _ h => h)) (pv 0) (pa_cons pe_str pa_nil)))
  (pss_one (ps_ret (pe_tup (pa_cons (pv 2) (pa_cons (pe_callTy call_tuple_of (by rfl) T.b_tuple boot_tuple (pa_cons (pv 5) pa_nil)) pa_nil))))))))))), ?_⟩
    obtain ⟨dx, ha⟩ := R.rd
    refine ⟨_, rfl, a, dx, _, rfl, ha, rfl, a, pt, pd, k, TT, sc, rfl, R, fun z => qe 0 ?_, fun n r hn l1 x H1 b1 R1 hx => ?_⟩
    · unfold atomM
      rw [z]
    have hnr : n + r ≤ 8 := by
      unfold nameM at hn
      split at hn
      · exact tab_le h8 hn
      · cases hn
    obtain ⟨dx1, ha1⟩ := R1.rd
    refine ⟨x, _, rfl, SqT.of hx, rfl, _, _, rfl, _, _, rfl, _, _, rfl, rfl, ?_⟩
    refine ⟨_, rfl, a, dx1, _, rfl, ha1, rfl, a, pt, pd, k, TT, sc, 1, "(", rfl, R1, l1, fun z => (qe 1 ?_).at b1, fun hp H2 b2 R2 => ?_⟩
    · unfold atomM
      rw [hn]
      dsimp only
      rw [if_pos z]
    have l2 : 2 < TT.length := kd_ne R.tl hp (by decide +kernel)
    have at1 : ∀ z, (match termsN TT 2 n with
      | .error e => Except.error e
      | .ok (xs, p) =>
        if kd TT p ≠ "|" then Except.error p else
        match termsN TT (p + 1) r with
        | .error e => Except.error e
        | .ok (ys, p2) => if kd TT p2 ≠ ")" then Except.error p2 else Except.ok (nm (wo TT 0), xs ++ ys, p2 + 1)) = z → atomM TT sc = z := fun z hz => by
      unfold atomM
      rw [hn]
      dsimp only
      rw [if_neg (fun w => w hp)]
      exact hz
    obtain ⟨dx2, ha2⟩ := R2.rd
    refine ⟨_, rfl, a, dx2, _, rfl, ha2, rfl, _, rfl, _, rfl, a, pt, pd, k, TT, sc, 2, n, rfl, by omega, R2, l2, fun e he => (qe e (at1 _ ?_)).at (b1.trans b2), fun xs p hxs f H3 us hf hus hall b3 R3 => ?_⟩
    · rw [he]
    obtain ⟨xl, _, lp⟩ := (terms_ok R.tl l2 n).1 xs p hxs
    obtain ⟨dx3, ha3⟩ := R3.rd
    refine ⟨_, rfl, a, dx3, _, rfl, ha3, rfl, a, pt, pd, k, TT, sc, p, "|", rfl, R3, lp, fun z => (qe p (at1 _ ?_)).at ((b1.trans b2).trans b3), fun hb H4 b4 R4 => ?_⟩
    · rw [hxs]
      dsimp only
      rw [if_pos z]
    have lp1 : p + 1 < TT.length := kd_ne R.tl hb (by decide +kernel)
    obtain ⟨dx4, ha4⟩ := R4.rd
    have nfa : f ≠ a := (ne_of_none ha2 hf).symm
    have hus4 := b4.l1 nfa hus
    have at2 : ∀ z, (match termsN TT (p + 1) r with
        | .error e => Except.error e
        | .ok (ys, p2) => if kd TT p2 ≠ ")" then Except.error p2 else Except.ok (nm (wo TT 0), xs ++ ys, p2 + 1)) = z → atomM TT sc = z := fun z hz => by
      refine at1 z ?_
      rw [hxs]
      dsimp only
      rw [if_neg (fun w => w hb)]
      exact hz
    refine ⟨_, rfl, _, rfl, a, dx4, _, rfl, ha4, rfl, _, rfl, _, rfl, a, pt, pd, k, TT, sc, p + 1, r, rfl, by omega, R4, lp1, fun e he => (qe e (at2 _ ?_)).at (((b1.trans b2).trans b3).trans b4), fun ys p2 hys g H5 ws hg hws hall2 b5 R5 => ?_⟩
    · rw [he]
    obtain ⟨yl, _, lp2⟩ := (terms_ok R.tl lp1 r).1 ys p2 hys
    have hus5 := b5.l1 nfa hus4
    have ul := hall.len
    have wl := hall2.len
    refine ⟨f, g, us, ws, rfl, rfl, hus5, hws, sz_of (by omega), fun c hc => ?_⟩
    have hall5 : All2 (TrmR (upd H5 c (.lst (us ++ ws)))) (us ++ ws) (xs ++ ys) := ((hall.mono fun v t h => ((h.mono b4).mono b5)).app hall2).mono fun v t h => h.mono (.new (D := []) hc)
    have b6 : Bx [] H5 (upd H5 c (.lst (us ++ ws))) := .new hc
    have R6 := R5.mono b6
    obtain ⟨dx6, ha6⟩ := R6.rd
    have nca : c ≠ a := by
      obtain ⟨dx5, ha5⟩ := R5.rd
      exact (ne_of_none ha5 hc).symm
    refine ⟨_, rfl, a, dx6, _, rfl, ha6, rfl, a, pt, pd, k, TT, sc, p2, ")", rfl, R6, lp2, fun z => (qe p2 (at2 _ ?_)).at (((((b1.trans b2).trans b3).trans b4).trans b5).trans b6.any), fun hcl H7 b7 R7 => ?_⟩
    · rw [hys]
      dsimp only
      rw [if_pos z]
    have b17 := (((((b1.trans b2).trans b3).trans b4).trans b5).trans b6.any).trans b7
    obtain ⟨dx7, ha7⟩ := R7.rd
    have hc7 := b7.l1 nca (upd_same (H := H5) (o := .lst (us ++ ws)))
    refine ⟨_, rfl, _, rfl, c, us ++ ws, rfl, .inl ⟨SqL.of hc7, fun t ht => ?_⟩⟩
    have ht0 : H7 t = none := ht
    refine ⟨by show 2 ≤ sizeLine; decide, fun y hy => ?_⟩
    have b8 : Bx [] H7 (upd (upd H7 t (.tup (us ++ ws))) y (.tup [.str (nm (wo TT 0)), .ref t])) := (Bx.new ht).trans (.new hy)
    refine q (nm (wo TT 0)) (xs ++ ys) (p2 + 1) (at2 _ ?_) y t _ (us ++ ws) (b17.freeA ha7 ?_) upd_same ?_ (hall5.mono fun v u h => (h.mono b7).mono b8) (b17.trans b8.any) (R7.mono b8) (kd_ne R.tl hcl (by decide +kernel)) ?_
    · rw [hys]
      dsimp only
      rw [if_neg (fun w => w hcl)]
    · by_cases e : y = t
      · rw [e]
        exact ht
      · rw [upd_ne e] at hy
        exact hy
    · rw [upd_ne (ne_of_none upd_same hy), upd_same]
    · rw [List.length_append]
      omega
end
end Ev
namespace Ev
open PySem PySem.Spec PyProof.Rows L2
section
variable {P : Program} {w : World} {K : PySem.W.Frag} {mg : Str → Option Value} {base : Heap}
/-! ### read_fact -/
def sp_read_fact (K : PySem.W.Frag) : Sp := fun vs H Q E => ∃ a pt pd k T sc, vs = [.ref a] ∧ Rst K H a pt pd k T sc 0 ∧ (∀ t ∈ sc, t.2.1 + t.2.2 ≤ 8) ∧ (∀ e, factM T sc = .error e → Bad K E a H k (po T e)) ∧
  ∀ n xs, factM T sc = .ok (n, xs) → ∀ q t H', H q = none → H' q = some (.tup [.str n, .ref t]) → H' t = some (.tup xs) → Bx [a] H H' → Q (.ref q) H'
theorem ok_read_fact (T : Tx K mg) (B : BtK P K) (gB : mg "BadText" = some (.ref (aBT K))) : Mcl P w K mg base (L2.CX P w) 7 "read_fact" ["self"] (sp_read_fact K) := by
  have M_take := ok_take (P := P) (w := w) (base := base) T B gB
  have M_read_atom := ok_read_atom (P := P) (w := w) (base := base) T B gB
  refine Mcl.of T.m_read_fact T.clR sc_Reader_read_fact (fun vs H Q E h => ?len) (fun _ _ _ _ _ _ _ us hl => match us, hl with | [_], _ => rfl) (fun f cdv A outer s H vs Q E hr h => ?body)
  case len =>
    obtain ⟨a, pt, pd, k, T, sc, rfl, _⟩ := h
    rfl
  case body =>
    obtain ⟨a, pt, pd, k, TT, sc, rfl, R, h8, qe, q⟩ := h
    refine ⟨_, (pss_cons (ps_asg (pe_mcal M_read_atom (hr.mono (by decide)) (passes_call (takes_of rfl rfl rfl rfl) (fun _ _ _ _ h => h)) (pv 0) (pa_cons pe_bl pa_nil)) (pg_tup (by rfl) (pgs_cons (pg_name (i := 1) sc_Reader_read_fact.nd rfl (Or.inl rfl)) (pgs_cons (pg_name (i := 2) sc_Reader_read_fact.nd rfl (Or.inl rfl)) pgs_nil))))
  (pss_cons (ps_expr (pe_mcal M_take (hr.mono (by decide)) (passes_call (takes_of rfl rfl rfl rfl) (fun _ _ _ _ h => h)) (pv 0) (pa_cons pe_str pa_nil)))
  (pss_one (ps_ret (pe_tup (pa_cons (pv 1) (pa_cons (pe_callTy call_tuple_of (by rfl) T.b_tuple boot_tuple (pa_cons (pe_lc (own := [("kind", 3), ("worth", 4)]) (g := gTup K 2 (gCons (gName 3) (gCons (gName 4) gNil))) (by rfl) sc_Reader_read_fact.nd (pi_tup (pv 2)) (blkOk_by (own := [("kind", 3), ("worth", 4)]) (N := n_Reader_read_fact) (sc := defScope s_Reader_read_fact) (by decide +kernel)) (fun _ _ _ _ _ => pg_tup rfl (pgs_cons (pg_name (i := 3) sc_Reader_read_fact.nd rfl (Or.inl rfl)) (pgs_cons (pg_name (i := 4) sc_Reader_read_fact.nd rfl (Or.inl rfl)) pgs_nil))) (fun _ _ _ _ _ => pts_nil) (fun _ _ _ _ _ => (pv 4))) pa_nil)) pa_nil))))))), ?_⟩
    obtain ⟨dx, ha⟩ := R.rd
    refine ⟨_, rfl, a, dx, _, rfl, ha, rfl, a, pt, pd, k, TT, sc, rfl, R, h8, fun e he => qe e ?_, fun n xs p hat y t H1 us hy0 hy ht hall b1 R1 lp l8 => ?_⟩
    · unfold factM
      rw [he]
    obtain ⟨dx1, ha1⟩ := R1.rd
    refine ⟨y, _, rfl, SqT.of hy, rfl, _, _, rfl, _, _, rfl, rfl, ?_⟩
    refine ⟨_, rfl, a, dx1, _, rfl, ha1, rfl, a, pt, pd, k, TT, sc, p, "end", rfl, R1, lp, fun z => (qe p ?_).at b1, fun hend H2 b2 R2 => ?_⟩
    · unfold factM
      rw [hat]
      dsimp only
      rw [if_pos z]
    have hf : factM TT sc = .ok (n, xs) := by
      unfold factM
      rw [hat]
      dsimp only
      rw [if_neg (fun w => w hend)]
    obtain ⟨dx2, ha2⟩ := R2.rd
    have ht2 := b2.t _ _ ht
    have ul := hall.len
    refine ⟨_, rfl, _, rfl, t, rfl, ⟨_, SqT.of ht2⟩, fun D hD => ?_⟩
    refine lc_tup (K := K) (a := t) (xs := us) (fun j H' => H' D = some (.lst (xs.take j)) ∧ Bx [] H2 H') ⟨upd_same, .new hD⟩ (fun i H' _ ⟨_, b⟩ => SqT.of (b.t _ _ ht2)) ?_ ?_
    · rintro j v H3 hv ⟨hD3, b3⟩
      have hj := (List.getElem?_eq_some_iff.mp hv).1
      obtain ⟨v', hv', x, e1, hx⟩ := hall.get (get_lt (show j < xs.length by omega))
      rw [hv] at hv'
      injection hv' with hv'
      subst hv'
      subst e1
      refine ⟨x, _, rfl, SqT.of ((b2.trans b3.any).t _ _ hx), rfl, _, _, rfl, _, _, rfl, rfl, rfl, tyes ?_⟩
      refine ⟨_, rfl, _, hD3, ?_, ?_, Bx.mut b3 (.inr hD) hD3⟩
      · rw [List.length_take]
        exact sz_lt (by omega)
      · rw [upd_same, List.take_add_one, get_lt (show j < xs.length by omega)]
        rfl
    · rintro H3 ⟨hD3, b3⟩
      rw [List.take_of_length_le (by omega)] at hD3
      have b13 := (b1.trans b2).trans b3.any
      refine ⟨D, xs, rfl, .inl ⟨SqL.of hD3, fun u hu => ?_⟩⟩
      refine ⟨by show 2 ≤ sizeLine; decide, fun z hz => ?_⟩
      have ha3 := b3.l0 ha2
      have b4 : Bx [] H3 (upd (upd H3 u (.tup xs)) z (.tup [.str n, .ref u])) := (Bx.new hu).trans (.new hz)
      refine q n xs hf z u _ (b13.freeA ha3 ?_) upd_same ?_ (b13.trans b4.any)
      · by_cases e : z = u
        · rw [e]
          exact hu
        · rw [upd_ne e] at hz
          exact hz
      · rw [upd_ne (ne_of_none upd_same hz), upd_same]
/-! ### a new Reader -/
def sp_reader_init (K : PySem.W.Frag) : Sp := fun vs H Q _ => ∃ (a dx pt pd : Addr) (k : Nat), vs = [.ref a, .ref pt, .int k, .ref pd] ∧ H a = some (.ins (aR K) dx []) ∧ Q .non (upd (upd (upd (upd H a (.ins (aR K) dx [("tokens", .ref pt)])) a (.ins (aR K) dx [("tokens", .ref pt), ("line", .int k)])) a (.ins (aR K) dx [("tokens", .ref pt), ("line", .int k), ("tables", .ref pd)])) a (.ins (aR K) dx (RdF pt k pd 0)))
theorem ok_reader_init (T : Tx K mg) : ∃ fd, FnOk P w K mg base CX0 1 (He.ma K (aR K) "__init__") fd ["self", "tokens", "line", "tables"] (sp_reader_init K) ∧ Binds K fd ["self", "tokens", "line", "tables"] [] := by
  obtain ⟨fd, F⟩ := T.inR
  refine ⟨fd, F.ok sc_Reader_init (fun vs H Q E h => ?_) (fun cdv A outer s H vs Q E hr h => ?_), F.bindsN fun kV doc pm an cdv ct us hl => match us, hl with | [_, _, _, _], _ => rfl⟩
  · obtain ⟨a, dx, pt, pd, k, rfl, _⟩ := h
    rfl
  · obtain ⟨a, dx, pt, pd, k, rfl, ha, q⟩ := h
    refine ⟨_, PSs.nox (pss_cons (ps_fld (pv 0) (pv 1) rfl)
  (pss_cons (ps_fld (pv 0) (pv 2) rfl)
  (pss_cons (ps_fld (pv 0) (pv 3) rfl)
  (pss_one (ps_fld (pv 0) pe_int rfl))))), ?_⟩
    refine ⟨_, rfl, _, rfl, a, _, dx, _, rfl, ha, T.clR, T.na_tokens, by show 0 < 1000; decide, ?_⟩
    refine ⟨_, rfl, _, rfl, a, _, dx, _, rfl, upd_same, T.clR, T.na_line, by show 1 < 1000; decide, ?_⟩
    refine ⟨_, rfl, _, rfl, a, _, dx, _, rfl, upd_same, T.clR, T.na_tables, by show 2 < 1000; decide, ?_⟩
    refine ⟨_, rfl, a, _, dx, _, rfl, upd_same, T.clR, T.na_place, by show 3 < 1000; decide, q⟩
end
end Ev
namespace Ev
open PySem PySem.Spec PyProof.Rows L2
/-! ## Facts of the program -/
theorem Val.cases {v : V} {C : Prop} (h : Val v) (hi : ∀ i, v = .int i → C) (hw : ∀ w, v = .str w → Word w → C) : C := h.elim (fun ⟨i, e⟩ => hi i e) fun ⟨w, e, x⟩ => hw w e x
section
variable {P : Program} {w : World} {K : PySem.W.Frag} {mg : Str → Option Value} {base : Heap}
/-! ### is_word -/
def sp_is_word : Sp := fun vs H Q _ => ∃ (z : Str), vs = [.str z] ∧ Word z ∧ ∀ H', Bx [] H H' → Q (.bl true) H'
theorem ok_is_word (T : Tx K mg) : Cal P w K mg base CX0 1 "is_word" ["text"] sp_is_word := by
  refine Cal.of T.d_is_word sc_is_word (fun vs H Q E h => ?len) (fun _ _ _ _ _ _ _ us hl => match us, hl with | [_], _ => rfl) (fun f cdv A outer s H vs Q E hr h => ?body)
  case len =>
    obtain ⟨z, rfl, _⟩ := h
    rfl
  case body =>
    obtain ⟨z, rfl, ⟨hz, hzl, h6⟩, q⟩ := h
    refine ⟨_, PSs.nox (pss_one (ps_ret (pe_and (pe_cmpR op_ne (pv 0) pe_str (nomark _)) (pe_one (pe_callB (cr_all rfl) (by rfl) T.b_all boot_all (pa_cons (pe_lc (own := [("char", 1)]) (g := gName 1) (by rfl) sc_is_word.nd (pi_str (pv 0)) (blkOk_by (own := [("char", 1)]) (N := n_is_word) (sc := defScope s_is_word) (by decide +kernel)) (fun _ _ _ _ _ => pg_name (i := 1) sc_is_word.nd rfl (Or.inl rfl)) (fun _ _ _ _ _ => pts_nil) (fun _ _ _ _ _ => (pe_cmpR op_in_sign (pv 1) (pe_cstr T.c_LETTERS) rfl))) pa_nil)))))), ?_⟩
    have ne : (!decide (V.str z = V.str "")) = true := by
      rw [decide_eq_false]
      · rfl
      · intro e
        have e2 := V.str.inj e
        rw [e2] at hz
        exact hz rfl
    refine ⟨_, rfl, rfl, ?_⟩
    refine ⟨_, rfl, ?_⟩
    rw [ne]
    refine iteT ?_
    refine ⟨_, rfl, _, rfl, fun D hD => ?_⟩
    refine lc_its (fun j H' => H' D = some (.lst ((List.replicate j true).map V.bl)) ∧ Bx [] H H') ⟨upd_same, .new hD⟩ ?_ ?_
    · rintro j c H1 hc ⟨hD1, b1⟩
      have hj := (Array.getElem?_eq_some_iff.mp hc).1
      have hcm : c ∈ zL.cps.toList := hzl c (Array.mem_toList_iff.mpr (Array.mem_of_getElem? hc))
      refine ⟨rfl, tyes ?_⟩
      refine ⟨_, rfl, c, zL, rfl, rfl, _, hD1, ?_, ?_, Bx.mut b1 (.inr hD) hD1⟩
      · rw [List.length_map, List.length_replicate]
        have : z.cps.size ≤ 640 := h6
        exact sz_lt (by omega)
      · rw [upd_same, decide_eq_true hcm, List.replicate_succ', List.map_append]
        rfl
    · rintro H1 ⟨hD1, b1⟩
      refine ⟨D, _, rfl, SqL.of hD1, ?_⟩
      have e : (List.replicate z.cps.size true).all id = true := by simp
      rw [e]
      exact q H1 b1
/-! ### is_value -/
def sp_is_value : Sp := fun vs H Q _ => ∃ v, vs = [v] ∧ Val v ∧ ∀ H', Bx [] H H' → Q (.bl true) H'
theorem ok_is_value (T : Tx K mg) : Cal P w K mg base CX0 2 "is_value" ["value"] sp_is_value := by
  have H_is_word := ok_is_word (P := P) (w := w) (base := base) T
  refine Cal.of T.d_is_value sc_is_value (fun vs H Q E h => ?len) (fun _ _ _ _ _ _ _ us hl => match us, hl with | [_], _ => rfl) (fun f cdv A outer s H vs Q E hr h => ?body)
  case len =>
    obtain ⟨v, rfl, _⟩ := h
    rfl
  case body =>
    obtain ⟨v, rfl, hv, q⟩ := h
    refine ⟨_, PSs.nox (pss_one (ps_ret (pe_or (pe_not (pe_callB call_isi (by rfl) T.b_isinstance boot_isinstance (pa_cons (pv 0) (pa_cons (pe_bltn (v := .ty "str") (by rfl) T.b_str boot_str rfl) pa_nil)))) (pe_one (pe_cal H_is_word (hr.mono (by decide)) pass0 (pa_cons (pv 0) pa_nil)))))), ?_⟩
    refine hv.cases (fun i e => ?_) (fun y e hy => ?_)
    · subst e
      refine ⟨_, rfl, .int i, .ty "str", _, _, false, rfl, .ty "str", .base (.int i), kit_ty (by decide +kernel), false, rfl, true, rfl, ?_⟩
      rw [if_pos rfl]
      exact q H (.refl _ _)
    · subst e
      refine ⟨_, rfl, .str y, .ty "str", _, _, true, rfl, .ty "str", .base (.str y), kit_ty (by decide +kernel), true, rfl, false, rfl, ?_⟩
      rw [if_neg Bool.false_ne_true]
      exact ⟨_, rfl, y, rfl, hy, q⟩
/-! ### is_row -/
def sp_is_row : Sp := fun vs H Q _ => ∃ (r : Addr) (xs : List V), vs = [.ref r] ∧ H r = some (.tup xs) ∧ (∀ v ∈ xs, Val v) ∧ xs.length ≤ 8 ∧ ∀ H', Bx [] H H' → Q (.bl true) H'
theorem ok_is_row (T : Tx K mg) : Cal P w K mg base CX0 3 "is_row" ["row"] sp_is_row := by
  have H_is_value := ok_is_value (P := P) (w := w) (base := base) T
  refine Cal.of T.d_is_row sc_is_row (fun vs H Q E h => ?len) (fun _ _ _ _ _ _ _ us hl => match us, hl with | [_], _ => rfl) (fun f cdv A outer s H vs Q E hr h => ?body)
  case len =>
    obtain ⟨r, xs, rfl, _⟩ := h
    rfl
  case body =>
    obtain ⟨r, xs, rfl, hr0, hv, hl, q⟩ := h
    refine ⟨_, PSs.nox (pss_one (ps_ret (pe_callB (cr_all rfl) (by rfl) T.b_all boot_all (pa_cons (pe_lc (own := [("value", 1)]) (g := gName 1) (by rfl) sc_is_row.nd (pi_tup (pv 0)) (blkOk_by (own := [("value", 1)]) (N := n_is_row) (sc := defScope s_is_row) (by decide +kernel)) (fun _ _ _ _ _ => pg_name (i := 1) sc_is_row.nd rfl (Or.inl rfl)) (fun _ _ _ _ _ => pts_nil) (fun _ _ _ _ _ => (pe_cal H_is_value (hr.mono (by decide)) pass0 (pa_cons (pv 1) pa_nil)))) pa_nil)))), ?_⟩
    refine ⟨_, rfl, r, rfl, ⟨_, SqT.of hr0⟩, fun D hD => ?_⟩
    refine lc_tup (K := K) (a := r) (xs := xs) (fun j H' => H' D = some (.lst ((List.replicate j true).map V.bl)) ∧ Bx [] H H') ⟨upd_same, .new hD⟩ (fun i H' _ ⟨_, b⟩ => SqT.of (b.t _ _ hr0)) ?_ ?_
    · rintro j v H1 hx ⟨hD1, b1⟩
      have hj := (List.getElem?_eq_some_iff.mp hx).1
      refine ⟨rfl, tyes ?_⟩
      refine ⟨_, rfl, v, rfl, hv v (List.mem_of_getElem? hx), fun H2 b2 => ?_⟩
      have hD2 := b2.l0 hD1
      refine ⟨_, hD2, ?_, ?_, Bx.mut (b1.trans b2) (.inr hD) hD2⟩
      · rw [List.length_map, List.length_replicate]
        exact sz_lt (by omega)
      · rw [upd_same, List.replicate_succ', List.map_append]
        rfl
    · rintro H1 ⟨hD1, b1⟩
      refine ⟨D, _, rfl, SqL.of hD1, ?_⟩
      have e : (List.replicate xs.length true).all id = true := by simp
      rw [e]
      exact q H1 b1
/-! ### table_of -/
def sp_table_of : Sp := fun vs H Q _ => ∃ (a : Addr) (z : Str) (es : List TE4), vs = [.ref a, .str z] ∧ H a = some (.tup (refsT es)) ∧ (∀ e ∈ es, TabAt H e) ∧ Q (findT es z) H
theorem ok_table_of (T : Tx K mg) : Cal P w K mg base CX0 1 "table_of" ["schema", "name"] sp_table_of := by
  refine Cal.of T.d_table_of sc_table_of (fun vs H Q E h => ?len) (fun _ _ _ _ _ _ _ us hl => match us, hl with | [_, _], _ => rfl) (fun f cdv A outer s H vs Q E hr h => ?body)
  case len =>
    obtain ⟨a, z, es, rfl, _⟩ := h
    rfl
  case body =>
    obtain ⟨a, z, es, rfl, ha, hes, q⟩ := h
    refine ⟨_, PSs.nox (pss_cons (ps_for PassesOwn.never rfl (pi_tup (pv 0)) (pg_name (i := 2) sc_table_of.nd rfl (Or.inl rfl))
  (pss_one (ps_if (pt_cmpR op_eq (pe_ix ix_tup (pv 2) pe_int (fun _ _ => rfl)) (pv 1) (nomark _)) (pss_one (ps_ret (pv 2)))
  pss_nil)))
  (pss_one (ps_ret pe_non))), ?_⟩
    refine ⟨_, rfl, a, rfl, ⟨_, SqT.of ha⟩, for_tup (K := K) (a := a) (xs := refsT es) (fun i σ H' => ∃ y, σ = [some (.ref a), some (.str z), y] ∧ H' = H ∧ ∀ e ∈ es.take i, ¬ e.2.1 = z) ⟨_, rfl, rfl, fun e he => by rw [List.take_zero] at he; cases he⟩ ?_ ?_ ?_⟩
    · rintro i σ H' _ ⟨_, _, rfl, _⟩
      exact SqT.of ha
    · rintro i x σ H' hx ⟨y, rfl, rfl, hno⟩
      unfold refsT at hx
      rw [List.getElem?_map] at hx
      cases hq : es[i]? with
      | none => rw [hq] at hx; cases hx
      | some e =>
        rw [hq] at hx
        have ex : V.ref e.1 = x := Option.some.inj hx
        subst ex
        have hi := (List.getElem?_eq_some_iff.mp hq).1
        refine ⟨_, rfl, e.1, _, 0, _, rfl, rfl, SqT.of (hes e (List.mem_of_getElem? hq)), atI_nat (j := 0) rfl, _, rfl, rfl, _, rfl, ite2 (fun hc => ?_) (fun hc => ?_)⟩
        · have hn : e.2.1 = z := V.str.inj (of_decide_eq_true hc)
          refine ⟨_, rfl, ?_⟩
          have es_eq : es = es.take i ++ e :: es.drop (i + 1) := by
            have e2 : es.drop i = e :: es.drop (i + 1) := by
              rw [List.drop_eq_getElem_cons hi, (List.getElem?_eq_some_iff.mp hq).2]
            rw [← e2, List.take_append_drop]
          have ef : findT es z = .ref e.1 := by
            unfold findT
            rw [es_eq, List.find?_append, List.find?_eq_none.mpr fun y hy => by rw [decide_eq_false (hno y hy)]; exact Bool.false_ne_true, Option.none_or, List.find?_cons, decide_eq_true hn]
          rw [← ef]
          exact q
        · refine ⟨_, rfl, rfl, fun y hy => ?_⟩
          rw [List.take_add_one, hq] at hy
          rcases List.mem_append.mp hy with hy | hy
          · exact hno y hy
          · rw [List.mem_singleton.mp hy]
            exact fun z => hc (decide_eq_true (by rw [z]))
    · rintro σ H' ⟨y, rfl, rfl, hno⟩
      have ef : findT es z = .non := by
        unfold findT
        rw [List.find?_eq_none.mpr fun y hy => by
          rw [decide_eq_false (hno y (by
            have : es.take (refsT es).length = es := by
              unfold refsT
              rw [List.length_map, List.take_length]
            rw [this]
            exact hy))]
          exact Bool.false_ne_true]
      rw [ef] at q
      exact q
/-! ### is_fact -/
theorem find_tab {H : Hp} {z : Str} : ∀ {es : List TE4}, (∀ e ∈ es, TabAt H e) → (∃ e ∈ es, e.2.1 = z) → ∃ e ∈ es, e.2.1 = z ∧ findT es z = .ref e.1
  | [], _, ⟨e, he, _⟩ => nomatch he
  | e :: r, h, ⟨u, hu, hz⟩ => by
    by_cases c : e.2.1 = z
    · refine ⟨e, List.mem_cons_self, c, ?_⟩
      unfold findT
      rw [List.find?_cons, decide_eq_true c]
    · obtain ⟨e2, h2, h3, h4⟩ := find_tab (z := z) (es := r) (fun y hy => h y (List.mem_cons_of_mem _ hy)) ⟨u, by
        rcases List.mem_cons.mp hu with rfl | hu
        · exact absurd hz c
        · exact hu, hz⟩
      refine ⟨e2, List.mem_cons_of_mem _ h2, h3, ?_⟩
      unfold findT
      rw [List.find?_cons, decide_eq_false c]
      exact h4
def sp_is_fact : Sp := fun vs H Q _ => ∃ (a : Addr) (z : Str) (r : Addr) (es : List TE4) (xs : List V), vs = [.ref a, .str z, .ref r] ∧ H a = some (.tup (refsT es)) ∧ (∀ e ∈ es, TabAt H e) ∧ H r = some (.tup xs) ∧ (∀ v ∈ xs, Val v) ∧ xs.length ≤ 8 ∧
  (∃ e ∈ es, e.2.1 = z) ∧ (∀ e ∈ es, e.2.1 = z → (xs.length : Int) = e.2.2.1 + e.2.2.2) ∧ ∀ H', Bx [] H H' → Q (.bl true) H'
theorem ok_is_fact (T : Tx K mg) : Cal P w K mg base CX0 4 "is_fact" ["schema", "name", "row"] sp_is_fact := by
  have H_table_of := ok_table_of (P := P) (w := w) (base := base) T
  have H_is_row := ok_is_row (P := P) (w := w) (base := base) T
  refine Cal.of T.d_is_fact sc_is_fact (fun vs H Q E h => ?len) (fun _ _ _ _ _ _ _ us hl => match us, hl with | [_, _, _], _ => rfl) (fun f cdv A outer s H vs Q E hr h => ?body)
  case len =>
    obtain ⟨a, z, r, es, xs, rfl, _⟩ := h
    rfl
  case body =>
    obtain ⟨a, z, r, es, xs, rfl, ha, hes, hrx, hv, hl, hex, hlen, q⟩ := h
    refine ⟨_, PSs.nox (pss_cons (ps_set (i := 3) sc_is_fact.nd rfl (Or.inl rfl) (pe_cal H_table_of (hr.mono (by decide)) pass0 (pa_cons (pv 0) (pa_cons (pv 1) pa_nil))))
  (pss_one (ps_ret (pe_and (pe_cmpR op_notN (pv 3) pe_non (nomark _)) (pe_and (pe_cmpR op_eq (pe_callB call_len_seq (by rfl) T.b_len PySem.boot_len (pa_cons (pv 2) pa_nil)) (pe_op op_add (pe_ix ix_tup (pv 3) pe_int (fun _ _ => rfl)) (pe_ix ix_tup (pv 3) pe_int (fun _ _ => rfl))) (nomark _)) (pe_one (pe_cal H_is_row (hr.mono (by decide)) pass0 (pa_cons (pv 2) pa_nil)))))))), ?_⟩
    obtain ⟨e, he, hz, hf⟩ := find_tab hes hex
    refine ⟨_, rfl, _, rfl, a, z, es, rfl, ha, hes, ?_⟩
    rw [hf]
    have et := hes e he
    refine ⟨_, rfl, rfl, true, rfl, ?_⟩
    rw [if_pos rfl]
    refine ⟨_, rfl, r, _, rfl, .inr (SqT.of hrx), _, rfl, e.1, _, 1, _, rfl, rfl, SqT.of et, rfl, _, rfl, e.1, _, 2, _, rfl, rfl, SqT.of et, rfl, _, _, rfl, rfl, rfl, true, ?_, ?_⟩
    · rw [decide_eq_true (congrArg V.int (hlen e he hz))]
    · rw [if_pos rfl]
      exact ⟨_, rfl, r, xs, rfl, hrx, hv, hl, q⟩
end
end Ev
namespace Ev
open PySem PySem.Spec PyProof.Rows L2
open Evl (Ex ex_l ex_t)
/-! ### data that stays -/
theorem Bx.ex {H H' : Hp} (b : Bx [] H H') : Ex H H' := fun _ _ h => b.l0 h
section
variable {K : PySem.W.Frag} {H H' : Hp}
mutual
theorem dp_ex (e : Ex H H') : ∀ (d : PyData) (v : V), Dp K H v d → Dp K H' v d
  | .none, _, h => by cases h; exact .non
  | .bool _, _, h => by cases h; exact .bl _
  | .int _, _, h => by cases h; exact .int _
  | .str _, _, h => by cases h; exact .str _
  | .list ds, _, h => by
    cases h with
    | lst hs ha => exact .lst (ex_l e hs) (dpAll_ex e ds _ ha)
  | .tuple ds, _, h => by
    cases h with
    | tup hs ha => exact .tup (ex_t e hs) (dpAll_ex e ds _ ha)
  | .dict _, _, h => by cases h
theorem dpAll_ex (e : Ex H H') : ∀ (ds : List PyData) (vs : List V), DpAll K H vs ds → DpAll K H' vs ds
  | [], _, h => by cases h; exact .nil
  | d :: ds, _, h => by
    cases h with
    | cons h1 h2 => exact .cons (dp_ex e d _ h1) (dpAll_ex e ds _ h2)
end
theorem dpAll_app {vs us : List V} {ds es : List PyData} (h : DpAll K H vs ds) (h2 : DpAll K H us es) : DpAll K H (vs ++ us) (ds ++ es) := by
  induction ds generalizing vs with
  | nil => cases h; exact h2
  | cons d ds ih =>
    cases h with
    | cons h1 ht => exact .cons h1 (ih ht)
theorem dpAll_len {vs : List V} {ds : List PyData} (h : DpAll K H vs ds) : vs.length = ds.length := by
  induction ds generalizing vs with
  | nil => cases h; rfl
  | cons d ds ih =>
    cases h with
    | cons h1 ht => rw [List.length_cons, List.length_cons, ih ht]
end
/-! ### the program's keys -/
abbrev Fa : Type := Str × List V
def encV : V → PyData
  | .int i => .tuple [.int 0, .int i, .str ""]
  | .str s => .tuple [.int 1, .int 0, .str s]
  | _ => .none
def pkey (f : Fa) : PyData := .tuple [.str f.1, .tuple (f.2.map encV)]
/-- the items of a value's key -/
def encL : V → List V
  | .int i => [.int 0, .int i, .str ""]
  | .str s => [.int 1, .int 0, .str s]
  | _ => []
/-- a value's key, tracked -/
def KvR (H : Hp) (u v : V) : Prop := ∃ p, u = .ref p ∧ H p = some (.tup (encL v))
theorem KvR.mono {D : List Addr} {H H' : Hp} {u v : V} (h : KvR H u v) (b : Bx D H H') : KvR H' u v := by
  obtain ⟨p, e, h1⟩ := h
  exact ⟨p, e, b.t _ _ h1⟩
/-- a fact, tracked at q -/
def FaAt (H : Hp) (q : Addr) (f : Fa) : Prop := ∃ r, H q = some (.tup [.str f.1, .ref r]) ∧ H r = some (.tup f.2)
theorem FaAt.mono {D : List Addr} {H H' : Hp} {q : Addr} {f : Fa} (h : FaAt H q f) (b : Bx D H H') : FaAt H' q f := by
  obtain ⟨r, h1, h2⟩ := h
  exact ⟨r, b.t _ _ h1, b.t _ _ h2⟩
section
variable {K : PySem.W.Frag} {H : Hp}
theorem kv_dp {u v : V} (hv : Val v) (h : KvR H u v) : Dp K H u (encV v) := by
  obtain ⟨p, rfl, hp⟩ := h
  refine hv.cases (fun i e => ?_) (fun y e _ => ?_)
  · subst e
    exact .tup (SqT.of hp) (.cons (.int _) (.cons (.int _) (.cons (.str _) .nil)))
  · subst e
    exact .tup (SqT.of hp) (.cons (.int _) (.cons (.int _) (.cons (.str _) .nil)))
theorem kvs_dp : ∀ {us xs : List V}, (∀ v ∈ xs, Val v) → All2 (KvR H) us xs → DpAll K H us (xs.map encV)
  | [], [], _, _ => .nil
  | [], _ :: _, _, h => h.elim
  | _ :: _, [], _, h => h.elim
  | u :: us, v :: xs, hv, h => .cons (kv_dp (hv v List.mem_cons_self) h.1) (kvs_dp (fun y hy => hv y (List.mem_cons_of_mem _ hy)) h.2)
end
section
variable {P : Program} {w : World} {K : PySem.W.Frag} {mg : Str → Option Value} {base : Heap}
/-! ### value_key -/
def sp_value_key : Sp := fun vs H Q _ => ∃ v, vs = [v] ∧ Val v ∧ ∀ p H', H p = none → H' p = some (.tup (encL v)) → Bx [] H H' → Q (.ref p) H'
theorem ok_value_key (T : Tx K mg) : Cal P w K mg base CX0 1 "value_key" ["value"] sp_value_key := by
  refine Cal.of T.d_value_key sc_value_key (fun vs H Q E h => ?len) (fun _ _ _ _ _ _ _ us hl => match us, hl with | [_], _ => rfl) (fun f cdv A outer s H vs Q E hr h => ?body)
  case len =>
    obtain ⟨v, rfl, _⟩ := h
    rfl
  case body =>
    obtain ⟨v, rfl, hv, q⟩ := h
    refine ⟨_, PSs.nox (pss_cons (ps_if (pt_val (pe_callB call_isi (by rfl) T.b_isinstance boot_isinstance (pa_cons (pv 0) (pa_cons (pe_bltn (v := .ty "str") (by rfl) T.b_str boot_str rfl) pa_nil)))) (pss_one (ps_ret (pe_tup (pa_cons pe_int (pa_cons pe_int (pa_cons (pv 0) pa_nil))))))
  pss_nil)
  (pss_one (ps_ret (pe_tup (pa_cons pe_int (pa_cons (pv 0) (pa_cons pe_str pa_nil))))))), ?_⟩
    refine hv.cases (fun i e => ?_) (fun y e hy => ?_)
    · subst e
      refine ⟨_, rfl, .int i, .ty "str", _, _, false, rfl, .ty "str", .base (.int i), kit_ty (by decide +kernel), false, rfl, iteF ?_⟩
      exact ⟨_, rfl, by show 3 ≤ sizeLine; decide, fun p hp => q _ _ hp upd_same (.new hp)⟩
    · subst e
      refine ⟨_, rfl, .str y, .ty "str", _, _, true, rfl, .ty "str", .base (.str y), kit_ty (by decide +kernel), true, rfl, iteT ?_⟩
      exact ⟨_, rfl, by show 3 ≤ sizeLine; decide, fun p hp => q _ _ hp upd_same (.new hp)⟩
/-! ### row_key -/
def sp_row_key : Sp := fun vs H Q _ => ∃ r xs, vs = [.ref r] ∧ H r = some (.tup xs) ∧ (∀ v ∈ xs, Val v) ∧ xs.length ≤ 8 ∧ ∀ t H' us, H t = none → H' t = some (.tup us) → All2 (KvR H') us xs → Bx [] H H' → Q (.ref t) H'
theorem ok_row_key (T : Tx K mg) : Cal P w K mg base CX0 2 "row_key" ["row"] sp_row_key := by
  have H_value_key := ok_value_key (P := P) (w := w) (base := base) T
  refine Cal.of T.d_row_key sc_row_key (fun vs H Q E h => ?len) (fun _ _ _ _ _ _ _ us hl => match us, hl with | [_], _ => rfl) (fun f cdv A outer s H vs Q E hr h => ?body)
  case len =>
    obtain ⟨r, xs, rfl, _⟩ := h
    rfl
  case body =>
    obtain ⟨r, xs, rfl, hr0, hv, hl, q⟩ := h
    refine ⟨_, PSs.nox (pss_one (ps_ret (pe_callTy call_tuple_of (by rfl) T.b_tuple boot_tuple (pa_cons (pe_lc (own := [("value", 1)]) (g := gName 1) (by rfl) sc_row_key.nd (pi_tup (pv 0)) (blkOk_by (own := [("value", 1)]) (N := n_row_key) (sc := defScope s_row_key) (by decide +kernel)) (fun _ _ _ _ _ => pg_name (i := 1) sc_row_key.nd rfl (Or.inl rfl)) (fun _ _ _ _ _ => pts_nil) (fun _ _ _ _ _ => (pe_cal H_value_key (hr.mono (by decide)) pass0 (pa_cons (pv 1) pa_nil)))) pa_nil)))), ?_⟩
    refine ⟨_, rfl, r, rfl, ⟨_, SqT.of hr0⟩, fun D hD => ?_⟩
    refine lc_tup (K := K) (a := r) (xs := xs) (fun j H' => ∃ us, H' D = some (.lst us) ∧ All2 (KvR H') us (xs.take j) ∧ Bx [] H H' ∧ us.length = j) ⟨[], upd_same, trivial, .new hD, rfl⟩ (fun i H' _ ⟨_, _, _, b, _⟩ => SqT.of (b.t _ _ hr0)) ?_ ?_
    · rintro j v H1 hx ⟨us, hD1, hall, b1, hlen⟩
      have hj := (List.getElem?_eq_some_iff.mp hx).1
      refine ⟨rfl, tyes ?_⟩
      refine ⟨_, rfl, v, rfl, hv v (List.mem_of_getElem? hx), fun p H2 hp0 hp b2 => ?_⟩
      have hD2 := b2.l0 hD1
      have bm : Bx [D] H2 (upd H2 D (.lst (us ++ [.ref p]))) := Bx.mut (.refl _ _) (.inl (by simp)) hD2
      refine ⟨us, hD2, sz_lt (by omega), us ++ [.ref p], upd_same, ?_, Bx.mut (b1.trans b2) (.inr hD) hD2, by rw [List.length_append, hlen]; rfl⟩
      rw [List.take_add_one, hx]
      exact All2.app1 ⟨p, rfl, bm.t _ _ hp⟩ (hall.mono fun u y h => (h.mono b2).mono bm)
    · rintro H1 ⟨us, hD1, hall, b1, hlen⟩
      rw [List.take_length] at hall
      refine ⟨D, us, rfl, .inl ⟨SqL.of hD1, fun t ht => ?_⟩⟩
      exact q t _ us (b1.free0 ht) upd_same (hall.mono fun u y h => h.mono (.new (D := []) ht)) (b1.trans (.new ht))
/-! ### fact_key -/
/-- a fact's key, tracked -/
def PkR (H : Hp) (t : Addr) (f : Fa) : Prop := ∃ u us, H t = some (.tup [.str f.1, .ref u]) ∧ H u = some (.tup us) ∧ All2 (KvR H) us f.2
theorem pk_dp {H : Hp} {t : Addr} {f : Fa} (hv : ∀ v ∈ f.2, Val v) (h : PkR H t f) : Dp K H (.ref t) (pkey f) := by
  obtain ⟨u, us, h1, h2, h3⟩ := h
  exact .tup (SqT.of h1) (.cons (.str _) (.cons (.tup (SqT.of h2) (kvs_dp hv h3)) .nil))
def sp_fact_key : Sp := fun vs H Q _ => ∃ q f, vs = [.ref q] ∧ FaAt H q f ∧ (∀ v ∈ f.2, Val v) ∧ f.2.length ≤ 8 ∧ ∀ t H', H t = none → PkR H' t f → Bx [] H H' → Q (.ref t) H'
theorem ok_fact_key (T : Tx K mg) : Cal P w K mg base CX0 3 "fact_key" ["fact"] sp_fact_key := by
  have H_row_key := ok_row_key (P := P) (w := w) (base := base) T
  refine Cal.of T.d_fact_key sc_fact_key (fun vs H Q E h => ?len) (fun _ _ _ _ _ _ _ us hl => match us, hl with | [_], _ => rfl) (fun f cdv A outer s H vs Q E hr h => ?body)
  case len =>
    obtain ⟨a, f, rfl, _⟩ := h
    rfl
  case body =>
    obtain ⟨a, fc, rfl, ⟨r, h1, h2⟩, hv, hl, q⟩ := h
    refine ⟨_, PSs.nox (pss_one (ps_ret (pe_tup (pa_cons (pe_ix ix_tup (pv 0) pe_int (fun _ _ => rfl)) (pa_cons (pe_cal H_row_key (hr.mono (by decide)) pass0 (pa_cons (pe_ix ix_tup (pv 0) pe_int (fun _ _ => rfl)) pa_nil)) pa_nil))))), ?_⟩
    refine ⟨_, rfl, a, _, 0, _, rfl, rfl, SqT.of h1, rfl, _, rfl, a, _, 1, _, rfl, rfl, SqT.of h1, rfl, r, fc.2, rfl, h2, hv, hl, fun t H1 us ht ht1 hall b1 => ?_⟩
    refine ⟨by show 2 ≤ sizeLine; decide, fun p hp => ?_⟩
    have b2 : Bx [] H1 (upd H1 p (.tup [.str fc.1, .ref t])) := .new hp
    exact q p _ (b1.free0 hp) ⟨t, us, upd_same, b2.t _ _ ht1, hall.mono fun u y h => h.mono b2⟩ (b1.trans b2)
end
end Ev
namespace Ev
open PySem PySem.Spec PyProof.Rows L2
/-! ## A dict whose keys are facts: (name, row) -/
def nkV : V → NestedKey
  | .int i => .num i
  | .str s => .text s
  | _ => .none
def dkey (f : Fa) : NestedKey := .tup [.text f.1, .tup (f.2.map nkV)]
/-- an entry: the key's fact, its address; the value is True -/
def ent (P : Program) (w : World) (k : Fa × Addr) : NestedKey × Addr × Value := (dkey k.1, k.2, .bool true)
def dnO (P : Program) (w : World) (d : Addr) (ks : List (Fa × Addr)) : HO :=
  .ext fun h => (d == sysModules) = false ∧ ∃ o es ep, h.get? d = some o ∧ o.ExactDict ∧ o.data = .dict es ep ∧ es.toList = (ks.map (ent P w)).map (entryOfKey (nestedKind P w))
theorem dnO_tup {P : Program} {w : World} {d : Addr} {ks : List (Fa × Addr)} (xs : List V) : dnO P w d ks ≠ .tup xs := fun z => by
  have z' : HO.ext _ = HO.tup xs := z
  cases z'
theorem dnO_at {P : Program} {w : World} {H : Hp} {h : Heap} {d : Addr} {ks : List (Fa × Addr)} (hok : HOk P w H h) (he : H d = some (dnO P w d ks)) :
    (d == sysModules) = false ∧ ∃ o es ep, h.get? d = some o ∧ o.ExactDict ∧ o.data = .dict es ep ∧ es.toList = (ks.map (ent P w)).map (entryOfKey (nestedKind P w)) := by
  have x : ObjOk P w H h d (.ext fun h => (d == sysModules) = false ∧ ∃ o es ep, h.get? d = some o ∧ o.ExactDict ∧ o.data = .dict es ep ∧ es.toList = (ks.map (ent P w)).map (entryOfKey (nestedKind P w))) := hok d _ he
  exact x.1
theorem dnO_ok {P : Program} {w : World} {H : Hp} {h : Heap} {d : Addr} {ks : List (Fa × Addr)} {o : Obj} {es : Array DictEntry} {ep : Nat} (h0 : (d == sysModules) = false) (h1 : h.get? d = some o) (h2 : o.ExactDict) (h3 : o.data = .dict es ep)
    (h4 : es.toList = (ks.map (ent P w)).map (entryOfKey (nestedKind P w))) : ObjOk P w H h d (dnO P w d ks) :=
  ⟨⟨h0, o, es, ep, h1, h2, h3, h4⟩, ⟨o, h1⟩, fun g1 g2 z k => by
    obtain ⟨z0, o', es', ep', z1, z2, z3, z4⟩ := z
    exact ⟨z0, o', es', ep', k _ z1, z2, z3, z4⟩⟩
/-- a value of a row as a key's part -/
theorem nk_is {h : Heap} : ∀ {vs : List V} {us : List Value}, (∀ v ∈ vs, Val v) → Vals vs us → NestedAll h (vs.map nkV) us
  | [], _, _, r => by
    cases r
    exact .nil
  | v :: vs, _, hv, r => by
    cases r with
    | @cons _ u _ us r1 r2 =>
      refine .cons ?_ (nk_is (fun y hy => hv y (List.mem_cons_of_mem _ hy)) r2)
      refine (hv v List.mem_cons_self).cases (fun i e => ?_) (fun y e _ => ?_)
      · subst e
        obtain ⟨t, rfl⟩ := (show ∃ t, u = Value.int i t from r1)
        exact .int i t
      · subst e
        obtain ⟨t, rfl⟩ := (show ∃ t, u = Value.str y t from r1)
        exact .text y t
theorem nk_depth : ∀ {vs : List V}, (∀ v ∈ vs, Val v) → NestedKey.depthAll (vs.map nkV) ≤ 1
  | [], _ => by simp [NestedKey.depthAll]
  | v :: vs, hv => by
    have ih := nk_depth (vs := vs) fun y hy => hv y (List.mem_cons_of_mem _ hy)
    refine (hv v List.mem_cons_self).cases (fun i e => ?_) (fun y e _ => ?_)
    · subst e
      simp [NestedKey.depthAll, NestedKey.depth, nkV]
      omega
    · subst e
      simp [NestedKey.depthAll, NestedKey.depth, nkV]
      omega
theorem at_some {P : Program} {w : World} {k : NestedKey} {ks : List (Fa × Addr)} : (atKey (ks.map (ent P w)) k).isSome = decide (k ∈ ks.map fun k => dkey k.1) := by
  induction ks with
  | nil => simp [atKey]
  | cons x r ih =>
    unfold atKey at ih ⊢
    rw [List.map_cons, List.find?_cons, List.map_cons]
    by_cases c : dkey x.1 = k
    · subst c
      simp [ent]
    · have e1 : decide ((ent P w x).1 = k) = false := decide_eq_false c
      rw [e1]
      show ((List.find? _ (r.map (ent P w))).map _).isSome = _
      rw [ih]
      apply decide_eq_decide.mpr
      rw [List.mem_cons]
      exact ⟨.inr, fun z => z.elim (fun z => absurd z.symm c) id⟩
theorem stored_in {P : Program} {w : World} {k : NestedKey} {ks : List (Fa × Addr)} (a : Addr) (h : k ∈ ks.map fun k => dkey k.1) : storedH (ks.map (ent P w)) k a (.bool true) = ks.map (ent P w) := by
  unfold storedH
  rw [at_some, decide_eq_true h, if_pos rfl, List.map_map]
  refine List.map_congr_left fun x _ => ?_
  show putAt k (.bool true) (ent P w x) = ent P w x
  unfold putAt
  split
  · rfl
  · rfl
theorem stored_out {P : Program} {w : World} {f : Fa} {ks : List (Fa × Addr)} (a : Addr) (h : dkey f ∉ ks.map fun k => dkey k.1) : storedH (ks.map (ent P w)) (dkey f) a (.bool true) = (ks ++ [(f, a)]).map (ent P w) := by
  unfold storedH
  rw [at_some, decide_eq_false h, if_neg Bool.false_ne_true, List.map_append]
  rfl
/-- the rules -/
def tDNewN (P : Program) (w : World) : TE := fun _ H Q => ∀ p, H p = none → Q (.ref p) (upd H p (dnO P w p []))
def rSetN (P : Program) (w : World) : V → V → V → Hp → (Hp → Prop) → Prop := fun o i v H Q => ∃ d q ks f, o = .ref d ∧ i = .ref q ∧ v = .bl true ∧ H d = some (dnO P w d ks) ∧ FaAt H q f ∧ (∀ v ∈ f.2, Val v) ∧ (∀ k ∈ ks, FaAt H k.2 k.1 ∧ ∀ v ∈ k.1.2, Val v) ∧
  (ks.map fun k => dkey k.1).Nodup ∧ ks.length ≤ 1000 ∧ (dkey f ∈ (ks.map fun k => dkey k.1) → Q (upd H d (dnO P w d ks))) ∧ (dkey f ∉ (ks.map fun k => dkey k.1) → Q (upd H d (dnO P w d (ks ++ [(f, q)]))))
def rListN (P : Program) (w : World) : List V → Hp → VK → Prop := fun xs H Q => ∃ d ks, xs = [.ref d] ∧ H d = some (dnO P w d ks) ∧ ks.length ≤ 1000 ∧ ∀ p, H p = none → Q (.ref p) (upd H p (.lst (ks.map fun k => V.ref k.2)))
section
variable {X : Cx} {pos : Pos}
theorem pe_dnewN : PE X (.Dict [] [] pos) (tDNewN X.prog X.w) := ⟨fun pins s σ H Q I h =>
  wpAny_Dict_empty ⟨.ref s.heap.objs.size, _, I.laid (a := s.heap.objs.size) (o := dnO X.prog X.w s.heap.objs.size []) (t' := s.toks) (fun _ _ q => Heap.get?_push_of_some _ q) (Nat.le_refl _)
    (dnO_ok (beq_eq_false_iff_ne.mpr (Ne.symm (Nat.ne_of_lt I.big))) (Heap.get?_push_size _ rfl) ⟨rfl, rfl, rfl⟩ rfl rfl), rfl, h _ (I.hok.fresh (Nat.le_refl _))⟩⟩
theorem fa_is {pins : List (Addr × Obj)} {σ : L2.St} {H : Hp} {s : Shared} {q : Addr} {f : Fa} (I : Inv X pins σ H s) (hf : FaAt H q f) (hv : ∀ v ∈ f.2, Val v) : (nestedKind X.prog X.w).is s.heap (dkey f) q := by
  obtain ⟨r, h1, h2⟩ := hf
  obtain ⟨_, its, r1, o, ho, hc, n, hd⟩ := I.hok _ _ h1
  obtain ⟨_, its2, r2, o2, ho2, hc2, n2, hd2⟩ := I.hok _ _ h2
  obtain ⟨u1, u2, rfl, ra, rb⟩ := vals2 r1
  obtain ⟨t, rfl⟩ := (show ∃ t, u1 = Value.str f.1 t from ra)
  cases rb
  refine ⟨.tup ho hc hd (.cons (.text _ _) (.cons (.tup ho2 hc2 hd2 (nk_is hv r2)) .nil)), ?_⟩
  have := nk_depth hv
  show NestedKey.depth (.tup [.text f.1, .tup (f.2.map nkV)]) ≤ 8
  simp [NestedKey.depth, NestedKey.depthAll]
  omega
theorem set_N (hu : X.A.units + 65 < cLine) : PSet X (rSetN X.prog X.w) := by
  intro pins s σ H o i v ov iv u Q I ro ri rv h
  obtain ⟨d, q, ks, f, rfl, rfl, rfl, hd, hf, hv, hks, hnd, hl, q1, q2⟩ := h
  cases ro
  cases ri
  cases rv
  obtain ⟨hsm, ob, es, ep, ho, hx, hdt, he⟩ := dnO_at I.hok hd
  have hm : s.heap.DictOfH (nestedKind X.prog X.w) d (ks.map (ent X.prog X.w)) := by
    refine ⟨ob, es, ep, ho, hx, hdt, he, fun x hx => ?_, ?_⟩
    · obtain ⟨k, hk, rfl⟩ := List.mem_map.mp hx
      exact fa_is I (hks k hk).1 (hks k hk).2
    · rw [List.map_map]
      exact hnd
  refine wpAny_setItem_heap (knd := nestedKind X.prog X.w) (hsz := by rw [List.length_map, sizeLine_eq]; omega) (by show X.A.units + 1 + 8 < cLine; omega) (fa_is I hf hv) hm fun h' hm' hs => ?_
  obtain ⟨o2, es2, ep2, ho2, hx2, hd2, he2, _, _⟩ := hm'
  by_cases hin : dkey f ∈ (ks.map fun k => dkey k.1)
  · refine ⟨_, d_write (t' := _) I (by rw [hd]; exact True.intro) hs ⟨_, ho2⟩ (dnO_ok hsm ho2 hx2 hd2 ?_), q1 hin⟩
    rw [he2, stored_in q hin]
  · refine ⟨_, d_write (t' := _) I (by rw [hd]; exact True.intro) hs ⟨_, ho2⟩ (dnO_ok hsm ho2 hx2 hd2 ?_), q2 hin⟩
    rw [he2, stored_out q hin]
theorem call_list_N (hc : X.calm = true) : CallR X (.type "list") (rListN X.prog X.w) := by
  intro pins s σ H xs us Q I r h
  obtain ⟨d, ks, rfl, hd, hl, q⟩ := h
  obtain ⟨u, rfl, rx⟩ := r.one
  cases rx
  obtain ⟨hsm, o, es, ep, ho, hx, hdt, he⟩ := dnO_at I.hok hd
  have l1 : es.size = ks.length := by
    have := size_of_entries he
    rw [List.length_map] at this
    exact this
  have hsz : ks.length ≤ sizeLine := by
    rw [sizeLine_eq]
    omega
  refine PySem.W.kdl_call (kdl_raw hsm hx hdt) (I.ok.hd hc) ho (by omega) fun h' tk acc c kp e it => ?_
  have ea : acc.toList = ks.map fun k => Value.ref k.2 := by
    have hlen : acc.toList.length = ks.length := by rw [Array.length_toList, it.1]; exact l1
    apply List.ext_getElem?
    intro j
    rw [List.getElem?_map]
    cases hj : acc.toList[j]? with
    | none =>
      have h1 := List.getElem?_eq_none_iff.mp hj
      rw [List.getElem?_eq_none (by omega)]
      rfl
    | some v =>
      obtain ⟨en, hen, hv⟩ := it.2 j v (by rw [← Array.getElem?_toList]; exact hj)
      have qe := entry_at he j
      rw [hen, List.getElem?_map] at qe
      cases hb : ks[j]? with
      | none =>
        rw [hb] at qe
        exact nomatch (show some en = none from qe)
      | some b =>
        rw [hb] at qe
        have e2 : en = entryOfKey (nestedKind X.prog X.w) (ent X.prog X.w b) := Option.some.inj qe
        rw [hv, e2]
        rfl
  have eb : acc.toList = (ks.map fun k => k.2).map Value.ref := by
    rw [ea, List.map_map]
    rfl
  have rv : Vals (ks.map fun k => V.ref k.2) acc.toList := by
    have e3 : (ks.map fun k => V.ref k.2) = (ks.map fun k => k.2).map V.ref := by
      rw [List.map_map]
      rfl
    rw [eb, e3]
    exact vals_refs _
  refine ⟨.ref s.heap.objs.size, _, I.laid (t' := tk) (o := .lst (ks.map fun k => V.ref k.2)) kp (Nat.le_refl _) ?_, rfl, q _ (I.hok.fresh (Nat.le_refl _))⟩
  exact ⟨by rw [List.length_map]; exact hsz, acc.toList, c, rv, by rw [Array.toArray_toList]; exact e⟩
end
end Ev
namespace Ev
open PySem PySem.W PySem.Calls PyProof.Rows PySem.Spec L2
open Evl (Ex ex_l ex_t)
/-! ## sorted(xs, key=f), f a def that is known by its promise -/
section
variable {X : Cx} {pins : List (Addr × Obj)} {σ : L2.St} {H : Hp} {s : Shared}
/-- an address that no state of ours knew at s0 -/
structure Newly (X : Cx) (pins : List (Addr × Obj)) (x : Addr) : Prop where
  z : X.s_0.heap.objs.size ≤ x
  l : x ≠ X.env.locals
  c : ∀ y c, X.env.cells.lookup y = some c → c ≠ x
  p : ∀ p ∈ X.pn ++ pins, p.1 ≠ x
  f : x ∉ frs X.stack
theorem newly (I : L2.Inv X pins σ H s) {x : Addr} (h : s.heap.objs.size ≤ x) : Newly X pins x := by
  refine ⟨Nat.le_trans I.sz h, fun e => ?_, fun y c e z => ?_, fun p hp z => ?_, fun hm => ?_⟩
  · have := I.lt
    rw [← e] at this
    exact absurd (Nat.lt_of_lt_of_le this h) (Nat.lt_irrefl _)
  · obtain ⟨v, o, ho, _⟩ := I.cell y c e
    rw [z] at ho
    exact absurd (Nat.lt_of_lt_of_le (Heap.lt_size ho) h) (Nat.lt_irrefl _)
  · have ho := (I.pin p hp).1
    rw [z] at ho
    exact absurd (Nat.lt_of_lt_of_le (Heap.lt_size ho) h) (Nat.lt_irrefl _)
  · obtain ⟨_, o, ho, _⟩ := I.stack.mem hm
    exact absurd (Nat.lt_of_lt_of_le (Heap.lt_size ho) h) (Nat.lt_irrefl _)
/-- what is not tracked changes at new addresses alone -/
theorem Inv.touch (I : L2.Inv X pins σ H s) {xs : List Addr} {h' : Heap} {t : Nat} (hn : ∀ x ∈ xs, Newly X pins x) (h0 : ∀ x ∈ xs, H x = none) (k : ∀ b o, b ∉ xs → s.heap.get? b = some o → h'.get? b = some o) : L2.Inv X pins σ H { s with heap := h', toks := t } := by
  refine I.call (ch := xs) (g' := s.gens) (d' := s.drawn) ⟨fun b o q n _ hx => k b o hx q, fun b o q n _ hx => ⟨o.slots, k b o hx q⟩, fun b o q n _ => n, fun b o q hx => ⟨o, k b o hx q⟩, fun b xs q => q, fun b o v q => q, fun b ps q => ⟨#[], by rw [q]; simp⟩⟩ (fun b o q => ?_) I.bare fun b hb => ⟨.inr (hn b hb).z, (hn b hb).l, (hn b hb).c, (hn b hb).p⟩
  refine (I.hok b o q).stay (fun c v hc r => k c v (fun hm => ?_) r) (fun _ r => r) fun _ _ r => r
  have hz := h0 c hm
  rcases hc with hc | hc
  · rw [hc, q] at hz
    cases hz
  · rw [hc] at hz
    cases hz
/-- a new list stands at a new address -/
theorem Inv.lay (I : L2.Inv X pins σ H s) {xs : List Addr} {a : Addr} {h' : Heap} {t c : Nat} {ys : List V} {its : List Value} (hn : ∀ x ∈ xs, Newly X pins x) (h0 : ∀ x ∈ xs, H x = none) (ha : a ∈ xs) (k : ∀ b o, b ∉ xs → s.heap.get? b = some o → h'.get? b = some o)
    (hz : ys.length ≤ sizeLine) (r : Vals ys its) (e : h'.get? a = some (seqObj "list" its.toArray c)) : L2.Inv X pins σ (upd H a (.lst ys)) { s with heap := h', toks := t } := by
  have hHa := h0 a ha
  refine I.call (ch := xs) (g' := s.gens) (d' := s.drawn) ⟨fun b o q n _ hx => k b o hx q, fun b o q n _ hx => ⟨o.slots, k b o hx q⟩, fun b o q n hx => ?_, fun b o q hx => ⟨o, k b o hx q⟩, fun b xs q => ?_, fun b o v q => ?_, fun b ps q => ⟨#[], ?_⟩⟩ (fun b o q => ?_) I.bare fun b hb => ⟨.inr (hn b hb).z, (hn b hb).l, (hn b hb).c, (hn b hb).p⟩
  · rw [upd_ne (fun z => hx (by rw [z]; exact ha))]
    exact n
  · rw [upd_ne (ne_of_none q hHa)]
    exact q
  · rw [upd_ne (ne_of_none q hHa)]
    exact q
  · rw [upd_ne (ne_of_none q hHa), q]
    simp
  · by_cases hb : b = a
    · subst hb
      rw [upd_same] at q
      cases q
      exact ⟨hz, its, c, r, e⟩
    · rw [upd_ne hb] at q
      refine (I.hok b o q).stay (fun c v hc r => k c v (fun hm => ?_) r) (fun c r => ?_) fun c xs r => ?_
      · have hz := h0 c hm
        rcases hc with hc | hc
        · rw [hc, q] at hz
          cases hz
        · rw [hc] at hz
          cases hz
      · rw [upd_ne (ne_of_none r hHa)]
        exact r
      · rw [upd_ne (ne_of_none r hHa)]
        exact r
theorem vals_each : ∀ {bs : List (Fa × Addr)} {its : List Value}, Vals (bs.map fun b => V.ref b.2) its → EachIs (fun (v : Value) (b : Fa × Addr) => v = .ref b.2) its bs
  | [], _, r => by cases r; exact .nil
  | b :: bs, _, r => by
    cases r with
    | cons r1 r2 =>
      cases r1
      exact .cons rfl (vals_each r2)
theorem each_vals : ∀ {bs : List (Fa × Addr)} {its : List Value}, EachIs (fun (v : Value) (b : Fa × Addr) => v = .ref b.2) its bs → Vals (bs.map fun b => V.ref b.2) its
  | [], _, h => by cases h; exact .nil
  | b :: bs, _, h => by
    cases h with
    | cons h1 h2 =>
      subst h1
      exact .cons rfl (each_vals h2)
theorem each_reads {X : Cx} {pins : List (Addr × Obj)} {σ : L2.St} {H : Hp} {s : Shared} (I : L2.Inv X pins σ H s) {enc : Fa → PyData} : ∀ {bs : List (Fa × Addr)} {vs : List V} {us : List Value}, DpAll X.K H vs (bs.map fun b => enc b.1) → Vals vs us →
    EachIs (fun (v : Value) (b : Fa × Addr) => ∃ as, Reads s.heap v (enc b.1) as) us bs
  | [], _, _, h, r => by cases h; cases r; exact .nil
  | b :: bs, _, _, h, r => by
    cases h with
    | cons h1 h2 =>
      cases r with
      | cons r1 r2 => exact .cons (Dp.reads I _ _ _ h1 r1) (each_reads I h2 r2)
theorem vals_snoc {vs : List V} {us : List Value} {v : V} {u : Value} (h : Vals vs us) (r : RelV v u) : Vals (vs ++ [v]) (us ++ [u]) := h.append (.cons r .nil)
theorem each_at {α β : Type} {R : α → β → Prop} : ∀ {as : List α} {bs : List β} {j : Nat} {x : α}, EachIs R as bs → as[j]? = some x → ∃ b, bs[j]? = some b ∧ R x b
  | _, _, _, _, .nil, h => by rw [List.getElem?_nil] at h; cases h
  | _, _, 0, _, .cons h1 _, h => by
    injection h with h
    subst h
    exact ⟨_, rfl, h1⟩
  | _, _, j + 1, x, .cons _ t, h => each_at (j := j) t h
/-- the keys, then the sort itself -/
theorem sortK_rest {X : Cx} {pins : List (Addr × Obj)} {σ : L2.St} {H : Hp} {s : Shared} (I : L2.Inv X pins σ H s) {a kS fk : Addr} {e1 : Nat} {vs : List Value} {bs : List (Fa × Addr)} {enc : Fa → PyData} {sp : Sp} {fd : FuncData} {pn : Str} {k : Nat} {P : PySem.Fin → Shared → Prop} {E : Value → Shared → Prop}
    (F : FnOk X.prog X.w X.K X.mg X.base CX0 k fk fd [pn] sp) (bn : Binds X.K fd [pn] []) (hr : Room (k + 2) X.A) (na : Newly X pins a) (nk : Newly X pins kS) (hka : kS ≠ a) (ha0 : H a = none) (hk0 : H kS = none)
    (hk : s.heap.get? kS = some (seqObj "list" #[] 0)) (ha : s.heap.get? a = some (seqObj "list" #[] e1)) (ev : EachIs (fun (v : Value) (b : Fa × Addr) => v = .ref b.2) vs bs) (hb : bs.length ≤ 100000)
    (turn : ∀ b ∈ bs, ∀ H', Bx [] H H' → sp [.ref b.2] H' (fun v H'' => Bx [] H' H'' ∧ Dp X.K H'' v (enc b.1)) E0)
    (hS : ∀ (s' : Shared) (keys : List Value), EachIs (fun (v : Value) (b : Fa × Addr) => ∃ as, Reads s'.heap v (enc b.1) as) keys bs →
      SortsAt X.prog X.w X.A.in1.in1 s' (dataKind s'.heap (bs.map fun b => enc b.1)) keys ∧ EachIs (fun (v : Value) (b : Fa × Addr) => (dataKind s'.heap (bs.map fun b => enc b.1)).keyOf v = some (keyToks (enc b.1))) keys bs)
    (q : ∀ s' H', L2.Inv X pins σ H' s' → Bx [] H H' → H' a = some (.lst ((bs.mergeSort (dataLe false fun b => enc b.1)).map fun b => V.ref b.2)) → P (.done (.ret .none)) s') :
    wpAny (model X.prog X.w) X.A.in1.in1 (ksk_rest a (.ref fk) false vs.toArray e1 (.ref kS)) P E s := by
  have lv : vs.length = bs.length := ev.length
  have hZ : vs.length ≤ sizeLine := by rw [lv]; exact sz_of hb
  unfold ksk_rest
  refine wpAny_bind (wpAny_rule ?_)
  rw [List.forIn_toArray]
  refine wpAny_bind (ksk_fold (fun j s' => ∃ H' kA e kvs, L2.Inv X pins σ H' s' ∧ Bx [] H H' ∧ H' a = none ∧ H' kS = none ∧ s'.heap.get? kS = some (seqObj "list" kA e) ∧ s'.heap.get? a = some (seqObj "list" #[] e1) ∧ Vals kvs kA.toList ∧ DpAll X.K H' kvs ((bs.take j).map fun b => enc b.1)) vs 0 s
    ⟨H, #[], 0, [], I, .refl _ _, ha0, hk0, hk, ha, .nil, .nil⟩ ?step ?done)
  case step =>
    rintro j x s' hx ⟨H', kA, e, kvs, I', b', ha0', hk0', hk', ha', rk, dk⟩
    simp only [Nat.zero_add] at dk ⊢
    have hj : j < bs.length := by
      have := (List.getElem?_eq_some_iff.mp hx).1
      omega
    obtain ⟨b, hbj, rfl⟩ := each_at ev hx
    have hbm : b ∈ bs := List.mem_of_getElem? hbj
    have lk : kA.size = j := by
      have h1 := rk.length
      have h2 := dpAll_len dk
      rw [List.length_map, List.length_take] at h2
      rw [← Array.length_toList]
      omega
    have run := F.run X.A.in1.in1 X.stack s' H' ⟨[.ref b.2], []⟩ [.ref b.2] [V.ref b.2] _ E0 hr.in1.in1 I'.env0.in1.in1 (bn s' [.ref b.2] I'.kIn rfl) (.cons rfl .nil) (turn b hbm H' b')
    refine wpAny_bind (wpAny_attempt (wpAny_call (codeAny_mono run fun r s2 hq => ?_)))
    cases r with
    | error e2 => exact hq.elim
    | ok fl =>
      cases fl with
      | next => exact False.elim hq
      | brk => exact False.elim hq
      | cont => exact False.elim hq
      | ret u =>
        obtain ⟨v, H2, os2, bare2, un2, hok2, rv2, b2, d2⟩ := hq
        have I2 : L2.Inv X pins σ H2 s2 := I'.call' (ch := []) os2 un2 hok2 bare2 fun b z => absurd z (by simp)
        have hk2 := un2.keep kS _ hk' hk0' nk.f (by simp)
        have ha2 := un2.keep a _ ha' ha0' na.f (by simp)
        have hk02 := un2.free kS _ hk' hk0' (by simp)
        have ha02 := un2.free a _ ha' ha0' (by simp)
        have s1 := Heap.SameBut.update s2.heap kS (Obj.mapSeq (·.push u))
        obtain ⟨c2, hc2⟩ : ∃ c2, (s2.heap.update kS (Obj.mapSeq (·.push u))).get? kS = some (seqObj "list" (kA.push u) c2) := ⟨_, get?_update_seq hk2 (·.push u)⟩
        try dsimp only
        refine wpAny_bind (listUpdate_at hk2 rfl ?_ (by rw [lk]; exact sz_of (by omega)) (by rw [Array.size_push, lk]; exact Nat.le_succ_of_le (sz_of (by omega))))
        refine wpAny_pure ⟨rfl, H2, kA.push u, c2, kvs ++ [v], Inv.touch (xs := [kS]) (t := s2.toks) I2 (fun x hx => ?_) (fun x hx => ?_) (fun b o hb e => ?_), b'.trans b2, ha02, hk02, hc2, (s1.2 a hka.symm).trans ha2, ?_, ?_⟩
        · rw [List.mem_singleton.mp hx]
          exact nk
        · rw [List.mem_singleton.mp hx]
          exact hk02
        · exact (s1.2 b (fun z => hb (by rw [z]; simp))).trans e
        · rw [Array.toList_push]
          exact vals_snoc rk rv2
        · rw [List.take_add_one, hbj, List.map_append]
          exact dpAll_app (dpAll_ex b2.ex _ _ dk) (.cons d2 .nil)
  case done =>
    rintro s' ⟨H', kA, e, kvs, I', b', ha0', hk0', hk', ha', rk, dk⟩
    rw [show 0 + vs.length = bs.length by omega, List.take_length] at dk
    have er := each_reads I' dk rk
    obtain ⟨hs, hkeys⟩ := hS s' kA.toList er
    have lk : kA.size = vs.length := by
      have h1 := er.length
      rw [Array.length_toList] at h1
      omega
    try dsimp only
    refine wpAny_bind (listItems_at hk' rfl ?_)
    obtain ⟨G, g1, g2⟩ := restrict s'.heap fun b => decide (b ≠ kS)
    have gk : ∀ b, b ≠ kS → G.get? b = s'.heap.get? b := fun b hb => g1 b (decide_eq_true hb)
    have gn : G.get? kS = none := g2 kS (by simp)
    have gs : ∀ b o, G.get? b = some o → s'.heap.get? b = some o := fun b o ho => by
      by_cases hb : b = kS
      · rw [hb, gn] at ho
        cases ho
      · exact (gk b hb).symm.trans ho
    refine keyH_end (h₁ := G) (fun b o _ ho => gs b o ho) gn hk' ha' hka hs lk hZ fun h' tk c kp ho' => ?_
    have eo := sortVals_each (κ := dataKind s'.heap (bs.map fun b => enc b.1)) (rev := false) (fun b : Fa × Addr => keyToks (enc b.1)) ev hkeys
    have ro := each_vals (bs := bs.mergeSort (dataLe false fun b => enc b.1)) eo
    refine q _ _ (Inv.lay (a := a) (xs := [a, kS]) I' (fun x hx => ?_) (fun x hx => ?_) (by simp) (fun b o hb hbo => ?_) ?_ ro ho') (b'.trans (.new ha0')) upd_same
    · rcases List.mem_cons.mp hx with rfl | hx
      · exact na
      · rw [List.mem_singleton.mp hx]
        exact nk
    · rcases List.mem_cons.mp hx with rfl | hx
      · exact ha0'
      · rw [List.mem_singleton.mp hx]
        exact hk0'
    · refine kp b o (fun z => hb (by rw [z]; simp)) ?_
      rw [gk b (fun z => hb (by rw [z]; simp))]
      exact hbo
    · rw [List.length_map, List.length_mergeSort]
      exact sz_of hb
theorem sortK_run {X : Cx} {pins : List (Addr × Obj)} {σ : L2.St} {H : Hp} {s : Shared} (I : L2.Inv X pins σ H s) (hc : X.calm = true) {l fk : Addr} {bs : List (Fa × Addr)} {enc : Fa → PyData} {sp : Sp} {fd : FuncData} {pn : Str} {k : Nat} {Q : VK}
    (F : FnOk X.prog X.w X.K X.mg X.base CX0 k fk fd [pn] sp) (bn : Binds X.K fd [pn] []) (hr : Room (k + 2) X.A) (hl : SqL X.K H l (bs.map fun b => V.ref b.2)) (hb : bs.length ≤ 100000)
    (turn : ∀ b ∈ bs, ∀ H', Bx [] H H' → sp [.ref b.2] H' (fun v H'' => Bx [] H' H'' ∧ Dp X.K H'' v (enc b.1)) E0)
    (hS : ∀ (s' : Shared) (keys : List Value), EachIs (fun (v : Value) (b : Fa × Addr) => ∃ as, Reads s'.heap v (enc b.1) as) keys bs →
      SortsAt X.prog X.w X.A.in1.in1 s' (dataKind s'.heap (bs.map fun b => enc b.1)) keys ∧ EachIs (fun (v : Value) (b : Fa × Addr) => (dataKind s'.heap (bs.map fun b => enc b.1)).keyOf v = some (keyToks (enc b.1))) keys bs)
    (q : ∀ p H', H p = none → Bx [] H H' → H' p = some (.lst ((bs.mergeSort (dataLe false fun b => enc b.1)).map fun b => V.ref b.2)) → Q (.ref p) H') :
    wpAny (model X.prog X.w) X.A (call (.builtin "sorted") [.ref l] [(Str.ofString "key", .ref fk)]) (EP X pins σ Q) X.xe s := by
  obtain ⟨vs, rv, pl, hz⟩ := I.list hl
  have ev := vals_each rv
  have lv : vs.length = bs.length := ev.length
  have hZ : vs.length ≤ sizeLine := by rw [lv]; exact sz_of hb
  have na : Newly X pins (s.heap.objs.size + 1) := newly I (Nat.le_succ _)
  refine sorted_of_sort pl.isList hZ (ksk_s1 _ _) (fun x => ksk_l1 _ _) fun E' => ?_
  rw [ksk_t1]
  have ho : (copyHeap s.heap vs).get? (s.heap.objs.size + 1) = some (seqObj "list" vs.toArray 0) := copyHeap_at s.heap vs
  obtain ⟨e1, ho1⟩ : ∃ e1, ((copyHeap s.heap vs).update (s.heap.objs.size + 1) (Obj.mapSeq fun _ => (#[] : Array Value))).get? (s.heap.objs.size + 1) = some (seqObj "list" #[] e1) := ⟨_, get?_update_seq ho fun _ => #[]⟩
  unfold ksk_tree
  refine wpAny_bind (listItems_at ho rfl ?_)
  refine wpAny_bind (listUpdate_at ho rfl ?_ (by rw [List.size_toArray]; exact hZ) (Nat.zero_le _))
  refine wpAny_bind (seqEpoch_at ho1 rfl ?_)
  refine wpAny_bind (wpAny_newTuple ?_ (by show vs.length ≤ _; exact hZ))
  refine wpAny_bind (wpAny_newList ?_ (Nat.zero_le _))
  refine wpAny_holding ?_
  have hkS : ((((copyHeap s.heap vs).update (s.heap.objs.size + 1) (Obj.mapSeq fun _ => (#[] : Array Value))).push (seqObj "tuple" vs.toArray 0)).objs.size) = (copyHeap s.heap vs).objs.size + 1 := by rw [size_push', Heap.size_update]
  have hcp : s.heap.objs.size + 1 < (copyHeap s.heap vs).objs.size := Heap.lt_size ho
  have nk : Newly X pins ((((copyHeap s.heap vs).update (s.heap.objs.size + 1) (Obj.mapSeq fun _ => (#[] : Array Value))).push (seqObj "tuple" vs.toArray 0)).objs.size) := newly I (by rw [hkS]; omega)
  have keep : ∀ b o, s.heap.get? b = some o → ((((copyHeap s.heap vs).update (s.heap.objs.size + 1) (Obj.mapSeq fun _ => (#[] : Array Value))).push (seqObj "tuple" vs.toArray 0)).push (seqObj "list" #[] 0)).get? b = some o := fun b o hbo => by
    refine Heap.get?_push_of_some _ (Heap.get?_push_of_some _ ?_)
    rw [Heap.get?_update_ne _ _ _ _ (Nat.ne_of_lt (Nat.lt_succ_of_lt (Heap.lt_size hbo)))]
    exact copyHeap_old hbo
  refine sortK_rest (s := { s with heap := ((((copyHeap s.heap vs).update (s.heap.objs.size + 1) (Obj.mapSeq fun _ => (#[] : Array Value))).push (seqObj "tuple" vs.toArray 0)).push (seqObj "list" #[] 0)) }) (I.kept (t' := s.toks) keep) F bn hr na nk (by rw [hkS]; exact Nat.ne_of_gt (Nat.lt_succ_of_lt hcp)) (I.hok.fresh (Nat.le_succ _)) (I.hok.fresh (by rw [hkS]; omega))
    (Heap.get?_push_size _ rfl) (Heap.get?_push_of_some _ (Heap.get?_push_of_some _ ho1)) ev hb turn hS fun s' H' I' b' hl' => ⟨rfl, .ref _, H', I', rfl, q _ H' (I.hok.fresh (Nat.le_succ _)) b' hl'⟩
end
end Ev
namespace Ev
open PySem PySem.W PySem.Calls PyProof.Rows PySem.Spec
open PySem.SeqAt
open AutoSeq1 (wpAny_loadPart')
open MeetsSeq MeetsSeq2 MeetsSeq3 SeqRoads2
/-! ## (k, x) < (k', x'): the second items are compared only where the first are equal -/
def PairLt (A : Around) (s : Shared) (x0 x1 y0 y1 : Value) (K : Bool → Prop) : Prop :=
  ∃ e0, EqAt A.in1 s x0 y0 e0 ∧ (e0 = false → ∃ r, RcLt A.in1 s x0 y0 r ∧ K r) ∧ (e0 = true → ∃ e1, EqAt A.in1 s x1 y1 e1 ∧ (e1 = false → ∃ r, RcLt A.in1 s x1 y1 r ∧ K r) ∧ (e1 = true → K false))
theorem two_lt (l b : Addr) (x0 x1 y0 y1 : Value) (n n2 : Nat) (dd dd2 : Option Addr) (sl sl2 : Array (Option Value)) :
    Meets (Builtin.«tuple.__lt__» ⟨[.ref l, .ref b], []⟩) (fun A R s => s.heap.get? l = some { cls := .type "tuple", dict := dd, data := .seq #[x0, x1] n, slots := sl } ∧
      s.heap.get? b = some { cls := .type "tuple", dict := dd2, data := .seq #[y0, y1] n2, slots := sl2 } ∧ PairLt A s x0 x1 y0 y1 fun k => R (.ok (.ret (.bool k))) s) :=
  .of_wp fun prog w A R s h => by
    obtain ⟨hp, g, d, tk, os⟩ := s
    obtain ⟨hl, hb, e0, he0, h0, h1⟩ := h
    have f2 := AutoSeq1.sub_tuple_tuple
    wp_walk using wpAny_loadPart' hl, wpAny_loadPart' hb, wpAny_forIn_list _ (fun rest b s' => b.1 = none ∧ s' = ⟨hp, g, d, tk, os⟩ ∧ (rest = [(x0, y0), (x1, y1)] ∨ (rest = [(x1, y1)] ∧ e0 = true) ∨ (rest = [] ∧ R (.ok (.ret (.bool false))) ⟨hp, g, d, tk, os⟩))) _
    case turn =>
      rintro ⟨y, x⟩ rest b s' ⟨hb', rfl, hz⟩
      rcases hz with hz | ⟨hz, t0⟩ | ⟨hz, _⟩
      · injection hz with e1 e2
        injection e1 with e3 e4
        subst e2 e3 e4
        refine wpAny_bind (he0 prog w _ _ ?_)
        cases e0 with
        | true =>
          wp_walk
          exact ⟨rfl, rfl, .inr (.inl ⟨rfl, rfl⟩)⟩
        | false =>
          obtain ⟨r, hr, hk⟩ := h0 rfl
          refine KFB.if_so rfl ?_
          refine wpAny_bind (wpAny_rule ?_)
          refine wpAny_bind (hr prog w _ _ ?_)
          wp_walk
          exact ⟨_, rfl, hk⟩
      · injection hz with e1 e2
        injection e1 with e3 e4
        subst e2 e3 e4
        obtain ⟨e1, he1, k0, k1⟩ := h1 t0
        refine wpAny_bind (he1 prog w _ _ ?_)
        cases e1 with
        | true =>
          wp_walk
          exact ⟨rfl, rfl, .inr (.inr ⟨rfl, k1 rfl⟩)⟩
        | false =>
          obtain ⟨r, hr, hk⟩ := k0 rfl
          refine KFB.if_so rfl ?_
          refine wpAny_bind (wpAny_rule ?_)
          refine wpAny_bind (hr prog w _ _ ?_)
          wp_walk
          exact ⟨_, rfl, hk⟩
      · cases hz
    case fin =>
      rintro ⟨b1, b2⟩ s' ⟨hb', rfl, hz⟩
      simp only at hb'
      subst hb'
      rcases hz with hz | ⟨hz, _⟩ | ⟨_, hR⟩
      · cases hz
      · cases hz
      · wp_walk
        exact ⟨_, rfl, by simpa [Builtin.Tuple.tupleCompareSizes] using hR⟩
    case h =>
      exact ⟨rfl, rfl, .inl rfl⟩
end Ev
namespace Ev
open PySem PySem.W PySem.Calls PyProof.Rows PySem.Spec L2
open PySem.SeqAt
/-! ## The one order of facts -/
abbrev Tok2 : Type := Int ⊕ List Nat
def vItem : V → Tok2
  | .int i => .inl i
  | .str s => .inr s.cps.toList
  | _ => .inl 0
def fkey (f : Fa) : List Tok2 := .inr f.1.cps.toList :: f.2.map vItem
abbrev llt (a b : List Tok2) : Bool := PyProof.Rows.lexLt itemOrd a b
def fl (f g : Fa) : Bool := llt (fkey f) (fkey g)
theorem vItem_inj {v u : V} (hv : Val v) (hu : Val u) (h : vItem v = vItem u) : v = u := by
  refine hv.cases (fun i e => ?_) (fun y e _ => ?_) <;> refine hu.cases (fun j e2 => ?_) (fun z e2 _ => ?_) <;> subst e e2
  · injection h with h
    rw [h]
  · cases h
  · cases h
  · injection h with h
    rw [str_of_cps h]
theorem map_inj {xs ys : List V} (hx : ∀ v ∈ xs, Val v) (hy : ∀ v ∈ ys, Val v) (h : xs.map vItem = ys.map vItem) : xs = ys := by
  induction xs generalizing ys with
  | nil =>
    cases ys with
    | nil => rfl
    | cons y ys => cases h
  | cons x xs ih =>
    cases ys with
    | nil => cases h
    | cons y ys =>
      injection h with h1 h2
      rw [vItem_inj (hx x List.mem_cons_self) (hy y List.mem_cons_self) h1, ih (fun v hv => hx v (List.mem_cons_of_mem _ hv)) (fun v hv => hy v (List.mem_cons_of_mem _ hv)) h2]
/-- a fact with a row of values -/
def FaV (f : Fa) : Prop := ∀ v ∈ f.2, Val v
theorem fkey_inj {f g : Fa} (hf : FaV f) (hg : FaV g) (h : fkey f = fkey g) : f = g := by
  obtain ⟨n, xs⟩ := f
  obtain ⟨m, ys⟩ := g
  injection h with h1 h2
  injection h1 with h1
  have e1 : n = m := str_of_cps h1
  have e2 : xs = ys := map_inj hf hg h2
  rw [e1, e2]
/-- what a value's key must be -/
def EncOk (enc : V → PyData) : Prop := ∀ v u, Val v → Val u → v ≠ u → PyData.eqv (enc v) (enc u) = false ∧ ∀ l m, llt (keyToks (enc v) ++ l) (keyToks (enc u) ++ m) = itemLt (vItem v) (vItem u)
theorem row_toks {enc : V → PyData} (he : EncOk enc) : ∀ (xs ys : List V), (∀ v ∈ xs, Val v) → (∀ v ∈ ys, Val v) → ∀ l m, (xs = ys → llt (keyToksAll (xs.map enc) ++ l) (keyToksAll (ys.map enc) ++ m) = llt l m) ∧ (xs ≠ ys → llt (keyToksAll (xs.map enc) ++ l) (keyToksAll (ys.map enc) ++ m) = llt (xs.map vItem) (ys.map vItem))
  | [], [], _, _, l, m => ⟨fun _ => lex_self (O := itemOrd) _ _ _, fun h => absurd rfl h⟩
  | [], y :: ys, _, _, l, m => ⟨fun h => (nomatch h), fun _ => by
    rw [List.map_cons, toks_all_cons]
    exact lex_diff (O := itemOrd) (by simp)⟩
  | x :: xs, [], _, _, l, m => ⟨fun h => (nomatch h), fun _ => by
    rw [List.map_cons, toks_all_cons]
    exact lex_diff (O := itemOrd) (by simp)⟩
  | x :: xs, y :: ys, hx, hy, l, m => by
    have hx0 := hx x List.mem_cons_self
    have hy0 := hy y List.mem_cons_self
    have ih := row_toks he xs ys (fun v hv => hx v (List.mem_cons_of_mem _ hv)) (fun v hv => hy v (List.mem_cons_of_mem _ hv)) l m
    rw [List.map_cons, List.map_cons, toks_all_cons, toks_all_cons, List.cons_append, List.cons_append, List.append_assoc, List.append_assoc]
    have e0 : ∀ a b, llt (.inl 1 :: a) (.inl 1 :: b) = llt a b := fun a b => lex_self (O := itemOrd) _ _ _
    rw [e0]
    by_cases c : x = y
    · subst c
      have e1 : llt (keyToks (enc x) ++ (keyToksAll (xs.map enc) ++ l)) (keyToks (enc x) ++ (keyToksAll (ys.map enc) ++ m)) = llt (keyToksAll (xs.map enc) ++ l) (keyToksAll (ys.map enc) ++ m) := lex_pre _ _ _
      rw [e1]
      refine ⟨fun h => ih.1 (List.cons.inj h).2, fun h => ?_⟩
      rw [ih.2 fun z => h (by rw [z]), List.map_cons, List.map_cons]
      exact (lex_self (O := itemOrd) _ _ _).symm
    · refine ⟨fun h => absurd (List.cons.inj h).1 c, fun _ => ?_⟩
      rw [(he x y hx0 hy0 c).2, List.map_cons, List.map_cons]
      exact (lex_diff (O := itemOrd) (x := vItem x) (y := vItem y) fun z => c (vItem_inj hx0 hy0 z)).symm
/-- a fact's key as signs -/
def ftoks (enc : V → PyData) (f : Fa) : List Tok2 := .inl 1 :: .inr f.1.cps.toList :: .inl 1 :: (keyToksAll (f.2.map enc) ++ [.inl 0])
theorem ftoks_lt {enc : V → PyData} (he : EncOk enc) {f g : Fa} (hf : FaV f) (hg : FaV g) : llt (ftoks enc f) (ftoks enc g) = fl f g := by
  obtain ⟨n, xs⟩ := f
  obtain ⟨m, ys⟩ := g
  have e0 : ∀ (c : Tok2) a b, llt (c :: a) (c :: b) = llt a b := fun c a b => lex_self (O := itemOrd) _ _ _
  unfold ftoks fl fkey
  rw [e0]
  by_cases c : n = m
  · subst c
    rw [e0, e0, e0]
    by_cases h : xs = ys
    · rw [(row_toks he xs ys hf hg _ _).1 h, h]
      exact (lex_irrefl (O := itemOrd) _).trans (lex_irrefl (O := itemOrd) _).symm
    · exact (row_toks he xs ys hf hg _ _).2 h
  · have hne : (Sum.inr n.cps.toList : Tok2) ≠ .inr m.cps.toList := fun z => c (str_of_cps (Sum.inr.inj z))
    exact (lex_diff (O := itemOrd) hne).trans (lex_diff (O := itemOrd) hne).symm
theorem pkey_toks (f : Fa) : keyToks (pkey f) = ftoks encV f := by
  simp [pkey, keyToks, keyToksAll, ftoks]
theorem encV_ok : EncOk encV := by
  intro v u hv hu hne
  have e0 : ∀ (c : Tok2) a b, llt (c :: a) (c :: b) = llt a b := fun c a b => lex_self (O := itemOrd) _ _ _
  refine hv.cases (fun i e => ?_) (fun y e _ => ?_) <;> refine hu.cases (fun j e2 => ?_) (fun z e2 _ => ?_) <;> subst e e2
  · have c : i ≠ j := fun z => hne (by rw [z])
    refine ⟨by simp [encV, PyData.eqv, PyData.eqvAll, c], fun l m => ?_⟩
    simp only [encV, keyToks, keyToksAll, List.cons_append, List.nil_append, e0]
    exact lex_diff (O := itemOrd) fun z => c (Sum.inl.inj z)
  · refine ⟨by simp [encV, PyData.eqv, PyData.eqvAll], fun l m => ?_⟩
    simp only [encV, keyToks, keyToksAll, List.cons_append, List.nil_append, e0]
    exact lex_diff (O := itemOrd) (by simp)
  · refine ⟨by simp [encV, PyData.eqv, PyData.eqvAll], fun l m => ?_⟩
    simp only [encV, keyToks, keyToksAll, List.cons_append, List.nil_append, e0]
    exact lex_diff (O := itemOrd) (by simp)
  · have c : y ≠ z := fun q => hne (by rw [q])
    refine ⟨by simp [encV, PyData.eqv, PyData.eqvAll, c], fun l m => ?_⟩
    simp only [encV, keyToks, keyToksAll, List.cons_append, List.nil_append, e0]
    exact lex_diff (O := itemOrd) fun q => c (str_of_cps (Sum.inr.inj q))
/-- the law's key of a value -/
def encL2 : V → PyData
  | .int i => .tuple [.int 0, .int i]
  | .str s => .tuple [.int 1, .str s]
  | _ => .none
def lkey (f : Fa) : PyData := .tuple [.str f.1, .list (f.2.map encL2)]
theorem lkey_toks (f : Fa) : keyToks (lkey f) = ftoks encL2 f := by
  simp [lkey, keyToks, keyToksAll, ftoks]
theorem encL2_ok : EncOk encL2 := by
  intro v u hv hu hne
  have e0 : ∀ (c : Tok2) a b, llt (c :: a) (c :: b) = llt a b := fun c a b => lex_self (O := itemOrd) _ _ _
  refine hv.cases (fun i e => ?_) (fun y e _ => ?_) <;> refine hu.cases (fun j e2 => ?_) (fun z e2 _ => ?_) <;> subst e e2
  · have c : i ≠ j := fun z => hne (by rw [z])
    refine ⟨by simp [encL2, PyData.eqv, PyData.eqvAll, c], fun l m => ?_⟩
    simp only [encL2, keyToks, keyToksAll, List.cons_append, List.nil_append, e0]
    exact lex_diff (O := itemOrd) fun z => c (Sum.inl.inj z)
  · refine ⟨by simp [encL2, PyData.eqv, PyData.eqvAll], fun l m => ?_⟩
    simp only [encL2, keyToks, keyToksAll, List.cons_append, List.nil_append, e0]
    exact lex_diff (O := itemOrd) (by simp)
  · refine ⟨by simp [encL2, PyData.eqv, PyData.eqvAll], fun l m => ?_⟩
    simp only [encL2, keyToks, keyToksAll, List.cons_append, List.nil_append, e0]
    exact lex_diff (O := itemOrd) (by simp)
  · have c : y ≠ z := fun q => hne (by rw [q])
    refine ⟨by simp [encL2, PyData.eqv, PyData.eqvAll, c], fun l m => ?_⟩
    simp only [encL2, keyToks, keyToksAll, List.cons_append, List.nil_append, e0]
    exact lex_diff (O := itemOrd) fun q => c (str_of_cps (Sum.inr.inj q))
theorem pkey_lt {f g : Fa} (hf : FaV f) (hg : FaV g) : dataLt (pkey f) (pkey g) = fl f g := by
  unfold dataLt
  rw [pkey_toks, pkey_toks]
  exact ftoks_lt encV_ok hf hg
theorem lkey_lt {f g : Fa} (hf : FaV f) (hg : FaV g) : dataLt (lkey f) (lkey g) = fl f g := by
  unfold dataLt
  rw [lkey_toks, lkey_toks]
  exact ftoks_lt encL2_ok hf hg
end Ev
namespace Ev
open PySem PySem.W PySem.Calls PyProof.Rows PySem.Spec L2
open PySem.SeqAt
/-! ## The law's keys compared -/
theorem Word.low {w : Str} (h : Word w) : ∀ c ∈ w.cps.toList, c < 128 := fun c hc => zL_low (h.2.1 c hc)
theorem enc2_lay {v : V} (hv : Val v) : (encL2 v).canLay0 = true ∧ (encL2 v).depth = 1 := by
  refine hv.cases (fun i e => ?_) (fun y e hy => ?_) <;> subst e
  · simp [encL2, PyData.canLay0, PyData.canLayAll0, PyData.depth, PyData.depthAll]
  · simp [encL2, PyData.canLay0, PyData.canLayAll0, PyData.depth, PyData.depthAll, strOk_of hy.low]
theorem encs_lay : ∀ {xs : List V}, (∀ v ∈ xs, Val v) → PyData.canLayAll0 (xs.map encL2) = true ∧ PyData.depthAll (xs.map encL2) ≤ 1
  | [], _ => by simp [PyData.canLayAll0, PyData.depthAll]
  | v :: xs, h => by
    obtain ⟨i1, i2⟩ := encs_lay (xs := xs) fun y hy => h y (List.mem_cons_of_mem _ hy)
    obtain ⟨j1, j2⟩ := enc2_lay (h v List.mem_cons_self)
    rw [List.map_cons, PyData.canLayAll0, PyData.depthAll, i1, j1, j2]
    exact ⟨rfl, by omega⟩
section
variable {A : Around} {s : Shared}
theorem pair_rc {a b : Addr} {oa ob : Obj} {x0 x1 y0 y1 : Value} {n m : Nat} {k : Bool} (h1 : s.heap.get? a = some oa) (h2 : oa.cls = .type "tuple") (h3 : oa.data = .seq #[x0, x1] n) (k1 : s.heap.get? b = some ob) (k2 : ob.cls = .type "tuple") (k3 : ob.data = .seq #[y0, y1] m)
    (hu : A.units < cLine) (h : PairLt A s x0 x1 y0 y1 fun r => r = k) : RcLt A s (.ref a) (.ref b) k := by
  intro prog w E Q hq
  obtain ⟨c1, d1, t1, s1⟩ := oa
  obtain ⟨c2, d2, t2, s2⟩ := ob
  simp only at h2 h3 k2 k3
  subst h2 h3 k2 k3
  refine richCompare_meets_room (op := .Lt) ⟨_, h1, rfl⟩ ⟨_, k1, rfl⟩ F.slot_tuple_lt F.entry_tuple_lt (F.args_tuple_lt_2 _ _) (two_lt a b x0 x1 y0 y1 n m d1 d2 s1 s2) ⟨h1, k1, ?_⟩ hu
  obtain ⟨e0, p0, p1, p2⟩ := h
  refine ⟨e0, p0, fun z => ?_, fun z => ?_⟩
  · obtain ⟨r, r1, rfl⟩ := p1 z
    exact ⟨_, r1, (fun x => nomatch x), hq⟩
  · obtain ⟨e1, q0, q1, q2⟩ := p2 z
    refine ⟨e1, q0, fun y => ?_, fun y => ?_⟩
    · obtain ⟨r, r1, rfl⟩ := q1 y
      exact ⟨_, r1, (fun x => nomatch x), hq⟩
    · have e := q2 y
      rw [e]
      exact ⟨(fun x => nomatch x), hq⟩
theorem rc_int {x y : Int} {t u : Tok} : RcLt A s (.int x t) (.int y u) (decide (x < y)) := fun prog w E Q hq => P.lt_int hq
theorem rc_str {x y : Str} {t u : Tok} : RcLt A s (.str x t) (.str y u) (decide (x.cps.toList < y.cps.toList)) := fun prog w E Q hq => P.lt_str hq
/-- (k, x) < (k', x'), of two values' keys -/
theorem enc2_rc {v u : V} {a b : Value} {as bs : List Addr} (hv : Val v) (hu : Val u) (hne : v ≠ u) (ra : Reads s.heap a (encL2 v) as) (rb : Reads s.heap b (encL2 u) bs) (hun : A.units < cLine) : RcLt A s a b (itemLt (vItem v) (vItem u)) := by
  have two : ∀ {d0 d1 : PyData} {c : Value} {cs : List Addr}, Reads s.heap c (.tuple [d0, d1]) cs → ∃ l o x0 x1 n c0 c1, c = .ref l ∧ s.heap.get? l = some o ∧ o.cls = .type "tuple" ∧ o.data = .seq #[x0, x1] n ∧ Reads s.heap x0 d0 c0 ∧ Reads s.heap x1 d1 c1 := by
    intro d0 d1 c cs r
    cases r with
    | @tuple l o vs n _ _ h1 h2 h3 h4 =>
      generalize hvs : vs.toList = vl at h4
      cases h4 with
      | cons r0 h5 =>
        cases h5 with
        | cons r1 h6 =>
          cases h6
          refine ⟨l, o, _, _, n, _, _, rfl, h1, h2, ?_, r0, r1⟩
          rw [h3]
          congr 1
          exact Array.ext' hvs
  have hc : ∀ (d0 d1 e0 e1 : PyData), encL2 v = .tuple [d0, d1] → encL2 u = .tuple [e0, e1] → ∃ l o x0 x1 n c0 c1, a = .ref l ∧ s.heap.get? l = some o ∧ o.cls = .type "tuple" ∧ o.data = .seq #[x0, x1] n ∧ Reads s.heap x0 d0 c0 ∧ Reads s.heap x1 d1 c1 ∧
      ∃ l' o' y0 y1 n' c0' c1', b = .ref l' ∧ s.heap.get? l' = some o' ∧ o'.cls = .type "tuple" ∧ o'.data = .seq #[y0, y1] n' ∧ Reads s.heap y0 e0 c0' ∧ Reads s.heap y1 e1 c1' := by
    intro d0 d1 e0 e1 h1 h2
    rw [h1] at ra
    rw [h2] at rb
    obtain ⟨l, o, x0, x1, n, c0, c1, z1, z2, z3, z4, z5, z6⟩ := two ra
    exact ⟨l, o, x0, x1, n, c0, c1, z1, z2, z3, z4, z5, z6, two rb⟩
  refine hv.cases (fun i e => ?_) (fun y e _ => ?_) <;> refine hu.cases (fun j e2 => ?_) (fun z e2 _ => ?_) <;> subst e e2
  · obtain ⟨l, o, x0, x1, n, c0, c1, rfl, h1, h2, h3, r0, r1, l', o', y0, y1, n', c0', c1', rfl, k1, k2, k3, s0, s1⟩ := hc _ _ _ _ rfl rfl
    cases r0; cases r1; cases s0; cases s1
    have c : i ≠ j := fun z => hne (by rw [z])
    exact pair_rc h1 h2 h3 k1 k2 k3 hun ⟨_, EqAt.int_int _ _ _ _, fun z => by simp at z, fun _ => ⟨_, EqAt.int_int _ _ _ _, fun _ => ⟨_, rc_int, rfl⟩, fun z => absurd (by simpa using z) c⟩⟩
  · obtain ⟨l, o, x0, x1, n, c0, c1, rfl, h1, h2, h3, r0, r1, l', o', y0, y1, n', c0', c1', rfl, k1, k2, k3, s0, s1⟩ := hc _ _ _ _ rfl rfl
    cases r0; cases s0
    exact pair_rc h1 h2 h3 k1 k2 k3 hun ⟨_, EqAt.int_int _ _ _ _, fun _ => ⟨_, rc_int, rfl⟩, fun z => by simp at z⟩
  · obtain ⟨l, o, x0, x1, n, c0, c1, rfl, h1, h2, h3, r0, r1, l', o', y0, y1, n', c0', c1', rfl, k1, k2, k3, s0, s1⟩ := hc _ _ _ _ rfl rfl
    cases r0; cases s0
    exact pair_rc h1 h2 h3 k1 k2 k3 hun ⟨_, EqAt.int_int _ _ _ _, fun _ => ⟨_, rc_int, rfl⟩, fun z => by simp at z⟩
  · obtain ⟨l, o, x0, x1, n, c0, c1, rfl, h1, h2, h3, r0, r1, l', o', y0, y1, n', c0', c1', rfl, k1, k2, k3, s0, s1⟩ := hc _ _ _ _ rfl rfl
    cases r0; cases r1; cases s0; cases s1
    have c : y ≠ z := fun q => hne (by rw [q])
    exact pair_rc h1 h2 h3 k1 k2 k3 hun ⟨_, EqAt.int_int _ _ _ _, fun z => by simp at z, fun _ => ⟨_, EqAt.str_str _ _ _ _, fun _ => ⟨_, rc_str, rfl⟩, fun z => absurd (by simpa using z) c⟩⟩
/-- items of a list of data -/
theorem reads_at {h : Heap} {enc : V → PyData} : ∀ {xs : List V} {vs : List Value} {as : List Addr} {j : Nat} (hj : j < vs.length), ReadsAll h vs (xs.map enc) as → ∃ v cs, xs[j]? = some v ∧ Reads h vs[j] (enc v) cs
  | [], _, _, j, hj, r => by
    cases r
    exact absurd hj (Nat.not_lt_zero _)
  | v :: xs, _, _, 0, hj, r => by
    cases r with
    | cons r1 r2 => exact ⟨v, _, rfl, r1⟩
  | v :: xs, _, _, j + 1, hj, r => by
    cases r with
    | cons r1 r2 => exact reads_at (j := j) (Nat.lt_of_succ_lt_succ hj) r2
theorem first_rows {enc : V → PyData} (he : EncOk enc) (hr : ∀ v, Val v → PyData.eqv (enc v) (enc v) = true) : ∀ (xs ys : List V), (∀ v ∈ xs, Val v) → (∀ v ∈ ys, Val v) →
    firstLt (pairEq (xs.map enc) (ys.map enc)) (fun j => itemLt (vItem (xs.getD j .non)) (vItem (ys.getD j .non))) (decide (xs.length < ys.length)) (List.range (min xs.length ys.length)) = llt (xs.map vItem) (ys.map vItem)
  | [], [], _, _ => by simp [firstLt, llt, lex_irrefl]
  | [], y :: ys, _, _ => by simp [firstLt, llt, PyProof.Rows.lexLt]
  | x :: xs, [], _, _ => by simp [firstLt, llt, PyProof.Rows.lexLt]
  | x :: xs, y :: ys, hx, hy => by
    have hx0 := hx x List.mem_cons_self
    have hy0 := hy y List.mem_cons_self
    have ih := first_rows he hr xs ys (fun v hv => hx v (List.mem_cons_of_mem _ hv)) (fun v hv => hy v (List.mem_cons_of_mem _ hv))
    have em : min (x :: xs).length (y :: ys).length = min xs.length ys.length + 1 := by
      rw [List.length_cons, List.length_cons]
      omega
    have ed : decide ((x :: xs).length < (y :: ys).length) = decide (xs.length < ys.length) := by
      rw [List.length_cons, List.length_cons]
      exact decide_eq_decide.mpr (by omega)
    rw [em, ed, List.range_succ_eq_map, List.map_cons, List.map_cons, List.map_cons, List.map_cons]
    by_cases c : x = y
    · subst c
      rw [firstLt_yes (show pairEq (enc x :: xs.map enc) (enc x :: ys.map enc) 0 = true from hr x hx0), firstLt_map]
      refine Eq.trans ?_ ((ih).trans (lex_self (O := itemOrd) _ _ _).symm)
      rfl
    · rw [firstLt_no (show pairEq (enc x :: xs.map enc) (enc y :: ys.map enc) 0 = false from (he x y hx0 hy0 c).1)]
      exact (lex_diff (O := itemOrd) (x := vItem x) (y := vItem y) fun z => c (vItem_inj hx0 hy0 z)).symm
theorem enc2_refl (v : V) (hv : Val v) : PyData.eqv (encL2 v) (encL2 v) = true := by
  refine hv.cases (fun i e => ?_) (fun y e hy => ?_) <;> subst e <;> simp [encL2, PyData.eqv, PyData.eqvAll]
/-- list < list, of two rows' keys -/
theorem rows_rc {xs ys : List V} {a b : Value} {as bs : List Addr} (hx : ∀ v ∈ xs, Val v) (hy : ∀ v ∈ ys, Val v) (ra : Reads s.heap a (.list (xs.map encL2)) as) (rb : Reads s.heap b (.list (ys.map encL2)) bs) (hun : A.units + 3 < cLine) :
    RcLt A s a b (llt (xs.map vItem) (ys.map vItem)) := by
  obtain ⟨lx, dx⟩ := encs_lay hx
  obtain ⟨ly, dy⟩ := encs_lay hy
  cases ra with
  | @list l o vs n _ as₁ h1 h2 h3 h4 =>
    cases rb with
    | @list l' o' ws m _ bs₁ k1 k2 k3 k4 =>
      have n1 : vs.size = xs.length := by
        have := ReadsAll.length _ _ _ h4
        simpa using this
      have n2 : ws.size = ys.length := by
        have := ReadsAll.length _ _ _ k4
        simpa using this
      rw [← first_rows encL2_ok enc2_refl xs ys hx hy, ← n1, ← n2]
      refine RcLt.lists ⟨_, h1, h2, _, h3⟩ ⟨_, k1, k2, _, k3⟩ (by omega) (fun j j1 j2 => ?_) fun j j1 j2 hj => ?_
      · have := eqAt_readsAll _ _ A.in1 s vs.toList ws.toList _ _ h4 k4 lx ly (by show A.units + 1 + min _ _ < cLine; omega) j (by simpa using j1) (by simpa using j2)
        simpa using this
      · obtain ⟨v, cs, e1, r1⟩ := reads_at (j := j) (by simpa using j1) h4
        obtain ⟨u, ds, e2, r2⟩ := reads_at (j := j) (by simpa using j2) k4
        have hne : v ≠ u := fun z => by
          subst z
          have e3 : pairEq (xs.map encL2) (ys.map encL2) j = PyData.eqv (encL2 v) (encL2 v) := by
            unfold pairEq
            rw [List.getD_eq_getElem?_getD, List.getD_eq_getElem?_getD, List.getElem?_map, List.getElem?_map, e1, e2]
            rfl
          rw [e3, enc2_refl v (hx v (List.mem_of_getElem? e1))] at hj
          cases hj
        have e4 : xs.getD j .non = v := by rw [List.getD_eq_getElem?_getD, e1]; rfl
        have e5 : ys.getD j .non = u := by rw [List.getD_eq_getElem?_getD, e2]; rfl
        rw [e4, e5]
        have := enc2_rc (A := A.in1) (hx v (List.mem_of_getElem? e1)) (hy u (List.mem_of_getElem? e2)) hne r1 r2 (by show A.units + 1 < cLine; omega)
        simpa using this
end
end Ev
namespace Ev
open PySem PySem.W PySem.Calls PyProof.Rows PySem.Spec L2
open PySem.SeqAt
/-! ## Facts can be sorted by their keys -/
/-- a fact whose name is a word -/
def FaW (f : Fa) : Prop := Word f.1 ∧ ∀ v ∈ f.2, Val v
theorem lkey_lay {f : Fa} (h : FaW f) : (lkey f).canLay0 = true ∧ (lkey f).depth ≤ 3 := by
  obtain ⟨l1, l2⟩ := encs_lay h.2
  have l3 := strOk_of h.1.low
  refine ⟨by simp [lkey, PyData.canLay0, PyData.canLayAll0, l1, l3], ?_⟩
  simp [lkey, PyData.depth, PyData.depthAll]
  omega
theorem pkey_depth {f : Fa} (h : FaW f) : (pkey f).depth ≤ 3 := by
  have : ∀ {xs : List V}, (∀ v ∈ xs, Val v) → PyData.depthAll (xs.map encV) ≤ 1 := by
    intro xs
    induction xs with
    | nil => intro _; simp [PyData.depthAll]
    | cons v xs ih =>
      intro hv
      have i1 := ih fun y hy => hv y (List.mem_cons_of_mem _ hy)
      rw [List.map_cons, PyData.depthAll]
      have : (encV v).depth ≤ 1 := by
        refine (hv v List.mem_cons_self).cases (fun i e => ?_) (fun y e _ => ?_) <;> subst e <;> simp [encV, PyData.depth, PyData.depthAll]
      omega
  have h2 := this h.2
  simp [pkey, PyData.depth, PyData.depthAll]
  omega
theorem enc_alike {v u : V} (hv : Val v) (hu : Val u) : alike (encV v) (encV u) = true := by
  refine hv.cases (fun i e => ?_) (fun y e _ => ?_) <;> refine hu.cases (fun j e2 => ?_) (fun z e2 _ => ?_) <;> subst e e2 <;> simp [encV, alike, alikeAll]
theorem encs_alike : ∀ {xs ys : List V}, (∀ v ∈ xs, Val v) → (∀ v ∈ ys, Val v) → alikeAll (xs.map encV) (ys.map encV) = true
  | [], _, _, _ => by simp [alikeAll]
  | _ :: _, [], _, _ => by simp [alikeAll]
  | x :: xs, y :: ys, hx, hy => by
    rw [List.map_cons, List.map_cons, alikeAll, enc_alike (hx x List.mem_cons_self) (hy y List.mem_cons_self), encs_alike (fun v hv => hx v (List.mem_cons_of_mem _ hv)) (fun v hv => hy v (List.mem_cons_of_mem _ hv))]
    rfl
theorem pkey_alike {f g : Fa} (hf : FaW f) (hg : FaW g) : alike (pkey f) (pkey g) = true := by
  simp [pkey, alike, alikeAll, encs_alike hf.2 hg.2]
section
variable {P : Program} {w : World} {A : Around}
theorem sorts_p {bs : List (Fa × Addr)} (hb : ∀ b ∈ bs, FaW b.1) (hu : A.units + 3 < cLine) (s : Shared) (keys : List Value) (e : EachIs (fun (v : Value) (b : Fa × Addr) => ∃ as, Reads s.heap v (pkey b.1) as) keys bs) :
    SortsAt P w A s (dataKind s.heap (bs.map fun b => pkey b.1)) keys ∧ EachIs (fun (v : Value) (b : Fa × Addr) => (dataKind s.heap (bs.map fun b => pkey b.1)).keyOf v = some (keyToks (pkey b.1))) keys bs := by
  have hal : AllAlike (bs.map fun b => pkey b.1) := by
    intro d hd d' hd'
    obtain ⟨b, h1, rfl⟩ := List.mem_map.mp hd
    obtain ⟨b', h2, rfl⟩ := List.mem_map.mp hd'
    exact pkey_alike (hb b h1) (hb b' h2)
  have e2 : EachIs (fun (v : Value) d => ∃ as, Reads s.heap v d as) keys (bs.map fun b => pkey b.1) := each_map (R := fun (v : Value) d => ∃ as, Reads s.heap v d as) (fun b : Fa × Addr => pkey b.1) e
  refine ⟨SortsAt.data e2 hal (.inl fun d hd => ?_) fun d hd => ?_, each_of_map (fun b : Fa × Addr => pkey b.1) (each_keys hal e2)⟩
  · obtain ⟨b, _, rfl⟩ := List.mem_map.mp hd
    exact ⟨_, _, rfl⟩
  · obtain ⟨b, h1, rfl⟩ := List.mem_map.mp hd
    have := pkey_depth (hb b h1)
    omega
/-! ### the law's -/
theorem dk_some {h : Heap} {ds : List PyData} (hc : ∀ d ∈ ds, d.canLay0 = true) {v : Value} {d : PyData} {as : List Addr} (hd : d ∈ ds) (r : Reads h v d as) : (dataKind h ds).keyOf v = some (keyToks d) := by
  have q : ∃ d, d ∈ ds ∧ ∃ as, Reads h v d as := ⟨d, hd, as, r⟩
  have e : (dataKind h ds).keyOf v = some (keyToks q.choose) := dif_pos q
  obtain ⟨h1, as', h2⟩ := q.choose_spec
  rw [e, Reads.unique _ _ _ _ _ (hc _ h1) h2 r]
theorem two_reads {h : Heap} {n : Str} {d : PyData} {as : List Addr} {a : Value} (r : Reads h a (.tuple [.str n, d]) as) : ∃ l o vs k t x1 c1, a = .ref l ∧ h.get? l = some o ∧ o.data = .seq vs k ∧ vs.toList = [.str n t, x1] ∧ Reads h x1 d c1 ∧ o.cls = .type "tuple" := by
  cases r with
  | @tuple l o vs k _ _ h1 h2 h3 h4 =>
    generalize hvs : vs.toList = vl at h4
    cases h4 with
    | cons r0 h5 =>
      cases h5 with
      | cons r1 h6 =>
        cases h6
        cases r0
        exact ⟨l, o, vs, k, _, _, _, rfl, h1, h3, hvs, r1, h2⟩
theorem rows_eqv : ∀ {xs ys : List V}, (∀ v ∈ xs, Val v) → (∀ v ∈ ys, Val v) → (xs = ys → PyData.eqvAll (xs.map encL2) (ys.map encL2) = true) ∧ (xs ≠ ys → PyData.eqvAll (xs.map encL2) (ys.map encL2) = false)
  | [], [], _, _ => ⟨fun _ => by simp [PyData.eqvAll], fun h => absurd rfl h⟩
  | [], y :: ys, _, _ => ⟨fun h => (nomatch h), fun _ => by simp [PyData.eqvAll]⟩
  | x :: xs, [], _, _ => ⟨fun h => (nomatch h), fun _ => by simp [PyData.eqvAll]⟩
  | x :: xs, y :: ys, hx, hy => by
    have ih := rows_eqv (xs := xs) (ys := ys) (fun v hv => hx v (List.mem_cons_of_mem _ hv)) (fun v hv => hy v (List.mem_cons_of_mem _ hv))
    have hx0 := hx x List.mem_cons_self
    have hy0 := hy y List.mem_cons_self
    rw [List.map_cons, List.map_cons, eqv_all_cons]
    by_cases c : x = y
    · subst c
      rw [enc2_refl x hx0, Bool.true_and]
      exact ⟨fun h => ih.1 (List.cons.inj h).2, fun h => ih.2 fun z => h (by rw [z])⟩
    · rw [(encL2_ok x y hx0 hy0 c).1, Bool.false_and]
      exact ⟨fun h => absurd (List.cons.inj h).1 c, fun _ => rfl⟩
theorem law_lt {s : Shared} {f g : Fa} {x y : Value} {as bs : List Addr} {E : Value → Shared → Prop} {Q : Bool → Shared → Prop} (hf : FaW f) (hg : FaW g) (rx : Reads s.heap x (lkey f) as) (ry : Reads s.heap y (lkey g) bs) (hu : A.units + 4 < cLine) (hq : Q (fl f g) s) :
    wpAny (model P w) A (keyLt' (tuples' true) x y) Q E s := by
  obtain ⟨n, xs⟩ := f
  obtain ⟨m, ys⟩ := g
  obtain ⟨l, o, vs, k, t, x1, c1, rfl, h1, h2, h3, r1, _⟩ := two_reads rx
  obtain ⟨l', o', ws, k', t', y1, d1, rfl, k1, k2, k3, s1, _⟩ := two_reads ry
  have z1 : vs.size = 2 := by rw [← Array.length_toList, h3]; rfl
  have z2 : ws.size = 2 := by rw [← Array.length_toList, k3]; rfl
  obtain ⟨lx, dx⟩ := encs_lay hf.2
  obtain ⟨ly, dy⟩ := encs_lay hg.2
  have dx2 : PyData.depthAll (xs.map encL2) ≤ 1 := dx
  have dy2 : PyData.depthAll (ys.map encL2) ≤ 1 := dy
  refine kat_lt h1 h2 k1 k2 ?_
  rw [h3, k3, z1, z2]
  refine kat_cons (EqAt.str_str (A := A) n t m t' P w _ _ ?_)
  by_cases c : n = m
  · subst c
    have e0 : (n == n) = true := beq_self_eq_true n
    rw [e0]
    have hq1 : Q (llt (xs.map vItem) (ys.map vItem)) s := by
      have e : fl (n, xs) (n, ys) = llt (xs.map vItem) (ys.map vItem) := lex_self (O := itemOrd) _ _ _
      rw [e] at hq
      exact hq
    refine kat_yes (kat_cons (eqAt_reads _ _ A s _ _ _ _ r1 s1 (by simpa [PyData.canLay0] using lx) (by simpa [PyData.canLay0] using ly) (by simp only [PyData.depth]; omega) P w _ _ ?_))
    by_cases h : xs = ys
    · subst h
      have e1 : PyData.eqv (.list (xs.map encL2)) (.list (xs.map encL2)) = true := by
        rw [PyData.eqv]
        exact (rows_eqv hf.2 hf.2).1 rfl
      rw [e1]
      refine kat_yes (kat_nil ?_)
      have e2 : llt (xs.map vItem) (xs.map vItem) = false := lex_irrefl (O := itemOrd) _
      rw [e2] at hq1
      exact hq1
    · have e1 : PyData.eqv (.list (xs.map encL2)) (.list (ys.map encL2)) = false := by
        rw [PyData.eqv]
        exact (rows_eqv hf.2 hg.2).2 h
      rw [e1]
      refine kat_no ?_
      have e3 : (true && (1 == 0)) = false := rfl
      show wpAny _ _ (oneLt' false _ _) _ _ _
      rw [oneLt'_eq]
      simp only [Bool.false_eq_true, if_false]
      exact wpAny_bind (rows_rc hf.2 hg.2 r1 s1 (by omega) P w _ _ (wpAny_truthy_bool hq1))
  · have e0 : (n == m) = false := beq_eq_false_iff_ne.mpr c
    rw [e0]
    refine kat_no ?_
    have hne : (Sum.inr n.cps.toList : Tok2) ≠ .inr m.cps.toList := fun z => c (str_of_cps (Sum.inr.inj z))
    have e : fl (n, xs) (m, ys) = decide (n.cps.toList < m.cps.toList) := lex_diff (O := itemOrd) hne
    rw [e] at hq
    exact oneLt_str hq
theorem firsts {h : Heap} : ∀ {keys : List Value} {bs : List (Fa × Addr)}, EachIs (fun (v : Value) (b : Fa × Addr) => ∃ as, Reads h v (lkey b.1) as) keys bs → ∃ fs, KatTups h keys fs ∧ fs.length = keys.length ∧ ∀ f ∈ fs, ∃ n t, f = Value.str n t
  | _, _, .nil => ⟨[], KatTups.nil, rfl, fun f hf => nomatch hf⟩
  | _, _, .cons (b := b) ⟨as, r⟩ t => by
    obtain ⟨fs, h1, h2, h3⟩ := firsts t
    obtain ⟨l, o, vs, k, tk, x1, c1, rfl, q1, q2, q3, _, q4⟩ := two_reads r
    have hf : vs[0]? = some (.str b.1.1 tk) := by rw [← Array.getElem?_toList, q3]; rfl
    refine ⟨_ :: fs, KatTups.cons q1 q4 q2 hf h1, by rw [List.length_cons, List.length_cons, h2], fun g hg => ?_⟩
    rcases List.mem_cons.mp hg with rfl | hg
    · exact ⟨_, _, rfl⟩
    · exact h3 g hg
theorem sorts_l {bs : List (Fa × Addr)} (hb : ∀ b ∈ bs, FaW b.1) (hu : A.units + 4 < cLine) (s : Shared) (keys : List Value) (e : EachIs (fun (v : Value) (b : Fa × Addr) => ∃ as, Reads s.heap v (lkey b.1) as) keys bs) :
    SortsAt P w A s (dataKind s.heap (bs.map fun b => lkey b.1)) keys ∧ EachIs (fun (v : Value) (b : Fa × Addr) => (dataKind s.heap (bs.map fun b => lkey b.1)).keyOf v = some (keyToks (lkey b.1))) keys bs := by
  have hc : ∀ d ∈ (bs.map fun b => lkey b.1), d.canLay0 = true := fun d hd => by
    obtain ⟨b, h1, rfl⟩ := List.mem_map.mp hd
    exact (lkey_lay (hb b h1)).1
  have ek : EachIs (fun (v : Value) (b : Fa × Addr) => (dataKind s.heap (bs.map fun b => lkey b.1)).keyOf v = some (keyToks (lkey b.1))) keys bs :=
    (each_mem e).mono fun v b ⟨⟨as, r⟩, hm⟩ => dk_some hc (List.mem_map.mpr ⟨b, hm, rfl⟩) r
  refine ⟨⟨fun v hv => ?_, tuples' true, ?_, fun h2 E Q hq => ?_⟩, ek⟩
  · obtain ⟨b, _, h⟩ := ek.left v hv
    exact ⟨_, h⟩
  · intro E x y a b Q ha hb2 hq
    obtain ⟨d, as, hd, ra, rfl⟩ := dataKind_inv ha
    obtain ⟨d', as', hd', rb, rfl⟩ := dataKind_inv hb2
    obtain ⟨f, h1, rfl⟩ := List.mem_map.mp hd
    obtain ⟨g, h2, rfl⟩ := List.mem_map.mp hd'
    have hq2 : Q (dataLt (lkey f.1) (lkey g.1)) s := hq
    rw [lkey_lt (hb f h1).2 (hb g h2).2] at hq2
    exact law_lt (hb f h1) (hb g h2) ra rb hu hq2
  · obtain ⟨fs, t1, t2, t3⟩ := firsts e
    refine kat_kind (T := Value.type "str") t1 (by omega) (fun f hf => ?_) (beq_self_eq_true _) hq
    obtain ⟨n, t, rfl⟩ := t3 f hf
    exact Looks.of_pure rfl
end
end Ev
namespace Ev
open PySem PySem.W PySem.Calls PyProof.Rows PySem.Spec L2
/-! ## sorted(xs, key=f): the rule -/
theorem ps_never {X : Cx} {st : Stmt} : PS X st (fun _ _ _ => False) := ⟨fun _ _ _ _ _ _ h => h.elim⟩
def rSK (K : PySem.W.Frag) (fk : Addr) (sp : Sp) (enc : Fa → PyData) : List V → List V → Hp → VK → Prop := fun vs zs H Q => ∃ (l : Addr) (bs : List (Fa × Addr)), vs = [.ref l] ∧ zs = [.ref fk] ∧ SqL K H l (bs.map fun b => V.ref b.2) ∧ bs.length ≤ 100000 ∧ (∀ b ∈ bs, FaW b.1) ∧
  (∀ b ∈ bs, ∀ H', Bx [] H H' → sp [.ref b.2] H' (fun v H'' => Bx [] H' H'' ∧ Dp K H'' v (enc b.1)) E0) ∧
  ∀ p H', H p = none → Bx [] H H' → H' p = some (.lst ((bs.mergeSort (dataLe false fun b => enc b.1)).map fun b => V.ref b.2)) → Q (.ref p) H'
theorem cr_sortK {X : Cx} (hc : X.calm = true) {fk : Addr} {enc : Fa → PyData} {sp : Sp} {fd : FuncData} {pn : Str} {k : Nat} (F : FnOk X.prog X.w X.K X.mg X.base CX0 k fk fd [pn] sp) (bn : Binds X.K fd [pn] []) (hr : Room (k + 2) X.A)
    (hS : ∀ (A : Around) (bs : List (Fa × Addr)), (∀ b ∈ bs, FaW b.1) → A.units + 4 < cLine → ∀ (s' : Shared) (keys : List Value), EachIs (fun (v : Value) (b : Fa × Addr) => ∃ as, Reads s'.heap v (enc b.1) as) keys bs →
      SortsAt X.prog X.w A s' (dataKind s'.heap (bs.map fun b => enc b.1)) keys ∧ EachIs (fun (v : Value) (b : Fa × Addr) => (dataKind s'.heap (bs.map fun b => enc b.1)).keyOf v = some (keyToks (enc b.1))) keys bs) :
    CallRK X (.builtin "sorted") [Str.ofString "key"] (rSK X.K fk sp enc) := by
  intro pins s σ H xs zs us ws Q I r rz h
  obtain ⟨l, bs, rfl, rfl, hl, hb, hw, turn, q⟩ := h
  obtain ⟨u, rfl, e1⟩ := vals1 r
  obtain ⟨w1, rfl, e2⟩ := vals1 rz
  cases e1
  cases e2
  exact sortK_run I hc F bn hr hl hb turn (hS X.A.in1.in1 bs hw (by
    have := hr.un
    show X.A.units + 1 + 1 + 4 < cLine
    omega)) q
/-! ### stores -/
/-- out: the facts of inp, each once, sorted -/
structure Store (inp out : List Fa) : Prop where
  srt : out.Pairwise fun a b => fl b a = false
  nd : out.Nodup
  mem : ∀ f, f ∈ out ↔ f ∈ inp
theorem fl_total {f g : Fa} (hf : FaV f) (hg : FaV g) (h1 : fl f g = false) (h2 : fl g f = false) : f = g := fkey_inj hf hg ((listOrd itemOrd).total _ _ h1 h2)
theorem store_one {inp a b : List Fa} (hv : ∀ f ∈ inp, FaV f) (ha : Store inp a) (hb : Store inp b) : a = b := by
  have perm : a.Perm b := (List.perm_ext_iff_of_nodup ha.nd hb.nd).mpr fun f => (ha.mem f).trans (hb.mem f).symm
  exact List.Perm.eq_of_pairwise (fun x y hx hy h1 h2 => fl_total (hv x ((ha.mem x).mp hx)) (hv y ((hb.mem y).mp hy)) h2 h1) ha.srt hb.srt perm
end Ev
namespace Ev
open PySem PySem.W PySem.Calls PyProof.Rows PySem.Spec L2
theorem sorted_by {bs : List (Fa × Addr)} {enc : Fa → PyData} (hlt : ∀ a ∈ bs, ∀ b ∈ bs, dataLt (enc a.1) (enc b.1) = fl a.1 b.1) :
    (bs.mergeSort (dataLe false fun b => enc b.1)).Perm bs ∧ ((bs.mergeSort (dataLe false fun b => enc b.1)).map (·.1)).Pairwise fun a b => fl b a = false := by
  have T := sortLe_total (listOrd itemOrd) false fun b : Fa × Addr => keyToks (enc b.1)
  have hp : (bs.mergeSort (dataLe false fun b => enc b.1)).Perm bs := List.mergeSort_perm _ _
  refine ⟨hp, List.pairwise_map.mpr ?_⟩
  have hs : (bs.mergeSort (dataLe false fun b => enc b.1)).Pairwise fun a b => dataLe false (fun b : Fa × Addr => enc b.1) a b = true := List.pairwise_mergeSort T.trans (fun a b => Bool.or_eq_true_iff.mpr (T.total a b)) bs
  refine hs.imp_of_mem fun {a b} ha hb h => ?_
  rw [← hlt b (hp.mem_iff.mp hb) a (hp.mem_iff.mp ha)]
  have h2 : (!dataLt (enc b.1) (enc a.1)) = true := h
  revert h2
  cases dataLt (enc b.1) (enc a.1) <;> simp
theorem nk_inj : ∀ {xs ys : List V}, (∀ v ∈ xs, Val v) → (∀ v ∈ ys, Val v) → xs.map nkV = ys.map nkV → xs = ys
  | [], [], _, _, _ => rfl
  | [], _ :: _, _, _, h => (nomatch h)
  | _ :: _, [], _, _, h => (nomatch h)
  | x :: xs, y :: ys, hx, hy, h => by
    injection h with h1 h2
    have ih := nk_inj (fun v hv => hx v (List.mem_cons_of_mem _ hv)) (fun v hv => hy v (List.mem_cons_of_mem _ hv)) h2
    have e : x = y := by
      refine (hx x List.mem_cons_self).cases (fun i e => ?_) (fun s e _ => ?_) <;> refine (hy y List.mem_cons_self).cases (fun j e2 => ?_) (fun z e2 _ => ?_) <;> subst e e2
      · injection h1 with h1
        rw [h1]
      · cases h1
      · cases h1
      · injection h1 with h1
        rw [h1]
    rw [e, ih]
theorem dkey_inj {f g : Fa} (hf : FaW f) (hg : FaW g) (h : dkey f = dkey g) : f = g := by
  obtain ⟨n, xs⟩ := f
  obtain ⟨m, ys⟩ := g
  injection h with h
  injection h with h1 h2
  injection h1 with h1
  injection h2 with h2 _
  injection h2 with h2
  have e1 : n = m := h1
  have e2 : xs = ys := nk_inj hf.2 hg.2 h2
  rw [e1, e2]
theorem Bx.mutx {D : List Addr} {H H1 : Hp} {p : Addr} {u o : HO} (a : Bx D H H1) (h : p ∈ D ∨ H p = none) (hl : H1 p = some u) (hu : ∀ xs, u ≠ .tup xs) : Bx D H (upd H1 p o) := ⟨fun x v n e => by
  have ne : x ≠ p := fun z => by
    subst z
    rcases h with h | h
    · exact n h
    · rw [h] at e
      cases e
  rw [upd_ne ne]
  exact a.k x v n e, fun x ys e => by
  have q := a.t x ys e
  have ne : x ≠ p := fun z => by
    subst z
    rw [hl] at q
    exact hu ys (Option.some.inj q)
  rw [upd_ne ne]
  exact q⟩
/-- a fact of the schema es -/
def FaS (es : List TE4) (f : Fa) : Prop := (∃ e ∈ es, e.2.1 = f.1) ∧ ∀ e ∈ es, e.2.1 = f.1 → (f.2.length : Int) = e.2.2.1 + e.2.2.2
section
variable {P : Program} {w : World} {K : PySem.W.Frag} {mg : Str → Option Value} {base : Heap}
/-! ### make_store -/
def sp_make_store : Sp := fun vs H Q _ => ∃ (a l : Addr) (es : List TE4) (bs : List (Fa × Addr)), vs = [.ref a, .ref l] ∧ H a = some (.tup (refsT es)) ∧ (∀ e ∈ es, TabAt H e) ∧ H l = some (.lst (bs.map fun b => V.ref b.2)) ∧ bs.length ≤ 1000 ∧
  (∀ b ∈ bs, FaAt H b.2 b.1 ∧ FaW b.1 ∧ b.1.2.length ≤ 8 ∧ FaS es b.1) ∧
  ∀ t H' (out : List (Fa × Addr)), H' t = some (.tup (out.map fun b => V.ref b.2)) → (∀ b ∈ out, FaAt H' b.2 b.1) → Store (bs.map (·.1)) (out.map (·.1)) → Bx [] H H' → Q (.ref t) H'
theorem ok_make_store (T : Tx K mg) : Cal P w K mg base CX0 6 "make_store" ["schema", "facts"] sp_make_store := by
  have H_is_fact := ok_is_fact (P := P) (w := w) (base := base) T
  obtain ⟨⟨fd, F, bF⟩, gF, kpF⟩ := ok_fact_key (P := P) (w := w) (base := base) T
  refine Cal.of T.d_make_store sc_make_store (fun vs H Q E h => ?len) (fun _ _ _ _ _ _ _ us hl => match us, hl with | [_, _], _ => rfl) (fun f cdv A outer s H vs Q E hr h => ?body)
  case len =>
    obtain ⟨a, l, es, bs, rfl, _⟩ := h
    rfl
  case body =>
    obtain ⟨a, l, es, bs, rfl, ha, hes, hl, hbl, hbs, q⟩ := h
    have hS : ∀ (A : Around) (bs : List (Fa × Addr)), (∀ b ∈ bs, FaW b.1) → A.units + 4 < cLine → ∀ (s' : Shared) (keys : List Value), EachIs (fun (v : Value) (b : Fa × Addr) => ∃ as, Reads s'.heap v (pkey b.1) as) keys bs →
      SortsAt P w A s' (dataKind s'.heap (bs.map fun b => pkey b.1)) keys ∧ EachIs (fun (v : Value) (b : Fa × Addr) => (dataKind s'.heap (bs.map fun b => pkey b.1)).keyOf v = some (keyToks (pkey b.1))) keys bs := fun A bs hb hu s' keys e => sorts_p hb (by omega) s' keys e
    refine ⟨_, PSs.nox (pss_cons (ps_set (i := 2) sc_make_store.nd rfl (Or.inl rfl) pe_dnewN)
  (pss_cons (ps_for PassesOwn.never rfl (pi_list (pv 1)) (pg_tup rfl (pgs_cons (pg_name (i := 3) sc_make_store.nd rfl (Or.inl rfl)) (pgs_cons (pg_name (i := 4) sc_make_store.nd rfl (Or.inl rfl)) pgs_nil)))
  (pss_cons (ps_if (pt_not (pt_val (pe_cal H_is_fact (hr.mono (by decide)) pass0 (pa_cons (pv 0) (pa_cons (pv 3) (pa_cons (pv 4) pa_nil)))))) (pss_one ps_never)
  pss_nil)
  (pss_one (ps_asg pe_bl (pg_sub (pv 2) (pe_tup (pa_cons (pv 3) (pa_cons (pv 4) pa_nil))) (set_N (Room.units65 hr)))))))
  (pss_one (ps_ret (pe_callTy call_tuple_of (by rfl) T.b_tuple boot_tuple (pa_cons (pe_callBK (cr_sortK rfl F bF (hr.mono (by decide)) hS) (by rfl) T.b_sorted boot_sorted (pa_cons (pe_callTy (call_list_N rfl) (by rfl) T.b_list boot_list (pa_cons (pv 2) pa_nil)) pa_nil) (pk_cons (pe_glob (v := .ref (He.ga K "fact_key")) (by rfl) gF rfl) pk_nil)) pa_nil)))))), ?_⟩
    refine fun d hd => ?_
    have ndl : l ≠ d := ne_of_none hl hd
    have hl0 : upd H d (dnO P w d []) l = some (.lst (bs.map fun b => V.ref b.2)) := by
      rw [upd_ne ndl]
      exact hl
    refine ⟨_, rfl, l, rfl, ⟨_, SqL.of hl0⟩, for_list (K := K) (a := l) (xs := bs.map fun b => V.ref b.2) (fun i σ H' => ∃ (ks : List (Fa × Addr)) (y3 y4 : Option V), σ = [some (.ref a), some (.ref l), some (.ref d), y3, y4] ∧ H' d = some (dnO P w d ks) ∧ (∀ k ∈ ks, FaAt H' k.2 k.1 ∧ FaW k.1 ∧ k.1.2.length ≤ 8) ∧
        (ks.map fun k => dkey k.1).Nodup ∧ ks.length ≤ i ∧ (∀ f, f ∈ ks.map (·.1) ↔ f ∈ (bs.take i).map (·.1)) ∧ Bx [] H H')
      ⟨[], none, none, rfl, upd_same, (fun k hk => nomatch hk), List.nodup_nil, Nat.zero_le _, fun f => by simp, .new hd⟩ (fun i σ H' _ ⟨_, _, _, _, _, _, _, _, _, b⟩ => SqL.of (b.l0 hl)) ?_ ?_⟩
    · rintro i x σ H1 hx ⟨ks, y3, y4, rfl, hd1, hks, hnd, hlen, hmem, b1⟩
      rw [List.getElem?_map] at hx
      obtain ⟨b, hb, rfl⟩ : ∃ b, bs[i]? = some b ∧ V.ref b.2 = x := by
        cases hq : bs[i]? with
        | none => rw [hq] at hx; cases hx
        | some b => rw [hq] at hx; exact ⟨b, rfl, Option.some.inj hx⟩
      have hi := (List.getElem?_eq_some_iff.mp hb).1
      obtain ⟨⟨r, f1, f2⟩, fw, f8, fs1, fs2⟩ := hbs b (List.mem_of_getElem? hb)
      have f11 := b1.t _ _ f1
      have f21 := b1.t _ _ f2
      have ha1 := b1.t _ _ ha
      refine ⟨b.2, _, rfl, SqT.of f11, rfl, _, _, rfl, _, _, rfl, rfl, ?_⟩
      refine ⟨_, rfl, _, rfl, _, rfl, a, b.1.1, r, es, b.1.2, rfl, ha1, (fun e he => b1.t _ _ (hes e he)), f21, fw.2, f8, fs1, fs2, fun H2 b2 => ?_⟩
      refine ⟨true, rfl, iteF ?_⟩
      refine ⟨_, rfl, _, rfl, _, rfl, by show 2 ≤ sizeLine; decide, fun p hp => ?_⟩
      have hd2 := b2.l0 hd1
      have b3 : Bx [] H2 (upd H2 p (.tup [.str b.1.1, .ref r])) := .new hp
      have hd3 := b3.l0 hd2
      have b13 := (b1.trans b2).trans b3
      have fp : FaAt (upd H2 p (.tup [.str b.1.1, .ref r])) p b.1 := ⟨r, upd_same, (b2.trans b3).t _ _ f21⟩
      have bm : ∀ o, Bx [d] (upd H2 p (.tup [.str b.1.1, .ref r])) (upd (upd H2 p (.tup [.str b.1.1, .ref r])) d o) := fun o => Bx.mutx (.refl _ _) (.inl (by simp)) hd3 dnO_tup
      have hks3 : ∀ k ∈ ks, FaAt (upd H2 p (.tup [.str b.1.1, .ref r])) k.2 k.1 ∧ FaW k.1 ∧ k.1.2.length ≤ 8 := fun k hk => ⟨(hks k hk).1.mono (b2.trans b3), (hks k hk).2⟩
      have take : (bs.take (i + 1)).map (·.1) = (bs.take i).map (·.1) ++ [b.1] := by
        rw [List.take_add_one, hb, List.map_append]
        rfl
      refine ⟨d, p, ks, b.1, rfl, rfl, rfl, hd3, fp, fw.2, fun k hk => ⟨(hks3 k hk).1, (hks k hk).2.1.2⟩, hnd, by omega, fun hin => ?_, fun hout => ?_⟩
      · refine ⟨ks, _, _, rfl, upd_same, fun k hk => ⟨(hks3 k hk).1.mono (bm _), (hks k hk).2⟩, hnd, by omega, fun f => ?_, Bx.mutx b13 (.inr hd) hd3 dnO_tup⟩
        rw [take, List.mem_append, ← hmem f]
        refine ⟨.inl, fun z => z.elim id fun z => ?_⟩
        obtain ⟨k, hk, e⟩ := List.mem_map.mp hin
        have e2 := dkey_inj (hks k hk).2.1 fw e
        rw [List.mem_singleton.mp z, ← e2]
        exact List.mem_map.mpr ⟨k, hk, rfl⟩
      · refine ⟨ks ++ [(b.1, p)], _, _, rfl, upd_same, fun k hk => ?_, ?_, ?_, fun f => ?_, Bx.mutx b13 (.inr hd) hd3 dnO_tup⟩
        · rcases List.mem_append.mp hk with hk | hk
          · exact ⟨(hks3 k hk).1.mono (bm _), (hks k hk).2⟩
          · rw [List.mem_singleton.mp hk]
            exact ⟨fp.mono (bm _), fw, f8⟩
        · rw [List.map_append]
          refine List.nodup_append.mpr ⟨hnd, by simp, fun x hx y hy => ?_⟩
          rw [List.mem_singleton.mp hy]
          exact fun z => hout (by
            have z2 : x = dkey b.1 := z
            rw [← z2]
            exact hx)
        · rw [List.length_append]
          show ks.length + 1 ≤ _
          omega
        · rw [take, List.mem_append, ← hmem f, List.map_append, List.mem_append]
          rfl
    · rintro σ H1 ⟨ks, y3, y4, rfl, hd1, hks, hnd, hlen, hmem, b1⟩
      rw [List.length_map] at hlen hmem
      rw [List.take_length] at hmem
      refine ⟨_, rfl, d, ks, rfl, hd1, by omega, fun l2 hl2 => ?_⟩
      have b2 : Bx [] H1 (upd H1 l2 (.lst (ks.map fun k => V.ref k.2))) := .new hl2
      refine ⟨l2, ks, rfl, rfl, SqL.of upd_same, by omega, fun k hk => (hks k hk).2.1, fun k hk H2 b3 => ?_, fun p H2 hp b3 hp2 => ?_⟩
      · obtain ⟨k1, k2, k3⟩ := hks k hk
        exact ⟨k.2, k.1, rfl, k1.mono (b2.trans b3), k2.2, k3, fun t H3 ht pk b4 => ⟨b4, pk_dp k2.2 pk⟩⟩
      · have hs := sorted_by (bs := ks) (enc := pkey) fun x hx y hy => pkey_lt (hks x hx).2.1.2 (hks y hy).2.1.2
        refine ⟨p, _, rfl, .inl ⟨SqL.of hp2, fun t ht => ?_⟩⟩
        have b4 : Bx [] H2 (upd H2 t (.tup ((ks.mergeSort (dataLe false fun b => pkey b.1)).map fun b => V.ref b.2))) := .new ht
        refine q t _ (ks.mergeSort (dataLe false fun b => pkey b.1)) upd_same (fun k hk => ((hks k (hs.1.mem_iff.mp hk)).1.mono (b2.trans b3)).mono b4) ⟨hs.2, ?_, fun f => ?_⟩ (((b1.trans b2).trans b3).trans b4)
        · have nd : (ks.map (·.1)).Nodup := List.pairwise_map.mpr ((List.pairwise_map.mp hnd).imp fun h z => h (by rw [z]))
          exact (hs.1.map _).nodup_iff.mpr nd
        · rw [← hmem f]
          exact (hs.1.map _).mem_iff
end
end Ev
namespace Ev
open PySem PySem.Spec PyProof.Rows L2
/-! ## What a book's reading keeps -/
structure SCok (sc : SC) : Prop where
  nd : (sc.map (·.1)).Nodup
  ok : ∀ t ∈ sc, Word t.1 ∧ t.2.1 + t.2.2 ≤ 8
def FSok (sc : SC) (fs : FS) : Prop := ∀ f ∈ fs, FaW f ∧ ∃ k r, tabF sc f.1 = some (k, r) ∧ f.2.length = k + r
theorem tabF_mem {sc : SC} {n : Str} {k r : Nat} (h : tabF sc n = some (k, r)) : (n, k, r) ∈ sc := by
  induction sc with
  | nil => cases h
  | cons t sc ih =>
    obtain ⟨tn, tk, tr⟩ := t
    by_cases c : n = tn
    · subst c
      have e2 : some (tk, tr) = some (k, r) := by
        rw [← h]
        simp [tabF, List.lookup]
      injection e2 with e2
      injection e2 with e3 e4
      rw [e3, e4]
      exact List.mem_cons_self
    · refine List.mem_cons_of_mem _ (ih ?_)
      rw [← h]
      have : (n == tn) = false := by simpa using c
      simp [tabF, List.lookup, this]
theorem tabF_none {sc : SC} {n : Str} (h : tabF sc n = none) : n ∉ sc.map (·.1) := by
  induction sc with
  | nil => exact fun z => nomatch z
  | cons t sc ih =>
    obtain ⟨tn, tk, tr⟩ := t
    by_cases c : n = tn
    · subst c
      have : tabF ((n, tk, tr) :: sc) n = some (tk, tr) := by simp [tabF, List.lookup]
      rw [this] at h
      cases h
    · have e : tabF ((tn, tk, tr) :: sc) n = tabF sc n := by
        have : (n == tn) = false := by simpa using c
        simp [tabF, List.lookup, this]
      rw [e] at h
      intro z
      rcases List.mem_cons.mp z with z | z
      · exact c z
      · exact ih h z
theorem tabF_app {sc : SC} {n : Str} {x : Str × Nat × Nat} {k r : Nat} (h : tabF sc n = some (k, r)) : tabF (sc ++ [x]) n = some (k, r) := by
  unfold tabF at h ⊢
  rw [List.lookup_append, h]
  rfl
theorem tabF_of {sc : SC} (h : (sc.map (·.1)).Nodup) {n : Str} {k r : Nat} (hm : (n, k, r) ∈ sc) : tabF sc n = some (k, r) := by
  induction sc with
  | nil => cases hm
  | cons t sc ih =>
    obtain ⟨tn, tk, tr⟩ := t
    rw [List.map_cons, List.nodup_cons] at h
    rcases List.mem_cons.mp hm with e | hm
    · cases e
      simp [tabF, List.lookup]
    · have c : ¬ n = tn := fun z => h.1 (by
        rw [← z]
        exact List.mem_map.mpr ⟨_, hm, rfl⟩)
      have e : tabF ((tn, tk, tr) :: sc) n = tabF sc n := by
        have : (n == tn) = false := by simpa using c
        simp [tabF, List.lookup, this]
      rw [e]
      exact ih h.2 hm
theorem tabM_ok {T : List Tk} {sc : SC} {n : Str} {k r : Nat} (hT : TokL T) (h : tabM T sc = .ok (n, k, r)) : Word n ∧ k + r ≤ 8 ∧ tabF sc n = none := by
  unfold tabM at h
  split at h
  · injection h
  · next hc =>
    have h1 : kd T 1 = "word" := by
      by_cases c : kd T 1 = "word"
      · exact c
      · exact absurd (.inl c) hc
    have h2 : tabF sc (nm (wo T 1)) = none := by
      by_cases c : tabF sc (nm (wo T 1)) = none
      · exact c
      · exact absurd (.inr c) hc
    obtain ⟨w, hw, ww⟩ := kd_word hT h1
    rcases hq : numM T 2 8 with e | a
    · rw [hq] at h
      injection h
    · rw [hq] at h
      dsimp only at h
      rcases hr : numM T 3 (8 - a) with e | b
      · rw [hr] at h
        injection h
      · rw [hr] at h
        dsimp only at h
        split at h
        · injection h
        · injection h with h
          injection h with e1 e2
          injection e2 with e2 e3
          have l1 := numM_ok hq
          have l2 := numM_ok hr
          rw [← e1, ← e2, ← e3, hw]
          rw [hw] at h2
          exact ⟨ww, by omega, h2⟩
theorem atomM_ok {T : List Tk} {sc : SC} {n : Str} {vs : List V} {p : Nat} (hT : TokL T) (h : atomM T sc = .ok (n, vs, p)) : Word n ∧ (∃ k r, tabF sc n = some (k, r) ∧ vs.length = k + r) ∧ (∀ v ∈ vs, Val v) ∧ p < T.length := by
  unfold atomM at h
  cases hn : nameM T sc with
  | none =>
    rw [hn] at h
    injection h
  | some kr =>
    obtain ⟨k, r⟩ := kr
    rw [hn] at h
    dsimp only at h
    have hw : kd T 0 = "word" ∧ tabF sc (nm (wo T 0)) = some (k, r) := by
      unfold nameM at hn
      split at hn
      · next c => exact ⟨c, hn⟩
      · cases hn
    obtain ⟨w, hww, ww⟩ := kd_word hT hw.1
    split at h
    · injection h
    · next c1 =>
      have e1 : kd T 1 = "(" := by
        by_cases c : kd T 1 = "("
        · exact c
        · exact absurd c c1
      have l2 : 2 < T.length := kd_ne hT e1 (by decide +kernel)
      rcases ex_or (termsN T 2 k) with ⟨e, ht⟩ | ⟨xs, q, ht⟩
      · rw [ht] at h
        injection h
      · rw [ht] at h
        dsimp only at h
        obtain ⟨x1, x2, x3⟩ := (terms_ok hT l2 k).1 xs q ht
        split at h
        · injection h
        · next c2 =>
          have e2 : kd T q = "|" := by
            by_cases c : kd T q = "|"
            · exact c
            · exact absurd c c2
          have l3 : q + 1 < T.length := kd_ne hT e2 (by decide +kernel)
          rcases ex_or (termsN T (q + 1) r) with ⟨e, ht2⟩ | ⟨ys, q2, ht2⟩
          · rw [ht2] at h
            injection h
          · rw [ht2] at h
            dsimp only at h
            obtain ⟨y1, y2, y3⟩ := (terms_ok hT l3 r).1 ys q2 ht2
            split at h
            · injection h
            · next c3 =>
              have e3 : kd T q2 = ")" := by
                by_cases c : kd T q2 = ")"
                · exact c
                · exact absurd c c3
              have l4 : q2 + 1 < T.length := kd_ne hT e3 (by decide +kernel)
              injection h with h
              injection h with h1 h2
              injection h2 with h2 h3
              rw [← h1, ← h2, ← h3]
              have hw2 := hw.2
              rw [hww] at hw2 ⊢
              refine ⟨ww, ⟨k, r, hw2, by rw [List.length_append]; omega⟩, fun v hv => ?_, l4⟩
              rcases List.mem_append.mp hv with hv | hv
              · exact x2 v hv
              · exact y2 v hv
theorem factM_ok {T : List Tk} {sc : SC} {n : Str} {vs : List V} (hT : TokL T) (h : factM T sc = .ok (n, vs)) : Word n ∧ (∃ k r, tabF sc n = some (k, r) ∧ vs.length = k + r) ∧ ∀ v ∈ vs, Val v := by
  unfold factM at h
  rcases ha : atomM T sc with e | ⟨n', vs', p⟩
  · rw [ha] at h
    injection h
  · rw [ha] at h
    dsimp only at h
    split at h
    · injection h
    · injection h with h
      injection h with h1 h2
      obtain ⟨a1, a2, a3, _⟩ := atomM_ok hT ha
      rw [← h1, ← h2]
      exact ⟨a1, a2, a3⟩
theorem SCok.add {sc : SC} (h : SCok sc) {n : Str} {k r : Nat} (hn : Word n) (hl : k + r ≤ 8) (h0 : tabF sc n = none) : SCok (sc ++ [(n, k, r)]) := by
  refine ⟨?_, fun t ht => ?_⟩
  · rw [List.map_append]
    refine List.nodup_append.mpr ⟨h.nd, by simp, fun x hx y hy => ?_⟩
    have e : y = n := by simpa using hy
    rw [e]
    exact fun z => tabF_none h0 (by rw [← z]; exact hx)
  · rcases List.mem_append.mp ht with ht | ht
    · exact h.ok t ht
    · rw [List.mem_singleton.mp ht]
      exact ⟨hn, hl⟩
theorem FSok.more {sc : SC} {fs : FS} (h : FSok sc fs) (x : Str × Nat × Nat) : FSok (sc ++ [x]) fs := fun f hf => by
  obtain ⟨h1, k, r, h2, h3⟩ := h f hf
  exact ⟨h1, k, r, tabF_app h2, h3⟩
theorem stepB_ok {T : List Tk} (hT : TokL T) {k : Nat} {sc sc' : SC} {fs fs' : FS} (h1 : SCok sc) (h2 : FSok sc fs) (h : stepB T k sc fs = .ok (sc', fs')) : SCok sc' ∧ FSok sc' fs' ∧ sc'.length ≤ sc.length + 1 ∧ fs'.length ≤ fs.length + 1 := by
  unfold stepB at h
  cases hl : lineM T sc with
  | blank =>
    rw [hl] at h
    injection h with h
    injection h with e1 e2
    rw [← e1, ← e2]
    exact ⟨h1, h2, Nat.le_succ _, Nat.le_succ _⟩
  | «at» p =>
    rw [hl] at h
    injection h
  | tab n a b =>
    rw [hl] at h
    injection h with h
    injection h with e1 e2
    rw [← e1, ← e2]
    unfold lineM at hl
    split at hl
    · cases hl
    · split at hl
      · rcases ht : tabM T sc with e | ⟨n', a', b'⟩
        · rw [ht] at hl
          cases hl
        · rw [ht] at hl
          cases hl
          obtain ⟨t1, t2, t3⟩ := tabM_ok hT ht
          exact ⟨h1.add t1 t2 t3, h2.more _, by rw [List.length_append]; exact Nat.le_refl _, Nat.le_succ _⟩
      · rcases ht : factM T sc with e | ⟨n', vs⟩
        · rw [ht] at hl
          cases hl
        · rw [ht] at hl
          cases hl
  | fact n vs =>
    rw [hl] at h
    injection h with h
    injection h with e1 e2
    rw [← e1, ← e2]
    unfold lineM at hl
    split at hl
    · cases hl
    · split at hl
      · rcases ht : tabM T sc with e | ⟨n', a', b'⟩
        · rw [ht] at hl
          cases hl
        · rw [ht] at hl
          cases hl
      · rcases ht : factM T sc with e | ⟨n', vs'⟩
        · rw [ht] at hl
          cases hl
        · rw [ht] at hl
          cases hl
          obtain ⟨t1, ⟨k, r, t2, t3⟩, t4⟩ := factM_ok hT ht
          refine ⟨h1, fun f hf => ?_, Nat.le_succ _, by rw [List.length_append]; exact Nat.le_refl _⟩
          rcases List.mem_append.mp hf with hf | hf
          · exact h2 f hf
          · rw [List.mem_singleton.mp hf]
            exact ⟨⟨t1, t4⟩, k, r, t2, t3⟩
/-- lines that can be read -/
def LsOk (ls : List Str) : Prop := ls.length ≤ 60 ∧ ∀ z ∈ ls, z.length ≤ 640
theorem LsOk.tok {ls : List Str} (h : LsOk ls) {i : Nat} {z : Str} (e : ls[i]? = some z) : TokL (toks z.cps.toList) := toks_l _ (by rw [len_cps]; exact h.2 z (List.mem_of_getElem? e))
theorem bookN_s {ls : List Str} {i : Nat} {z : Str} {sc : SC} {fs : FS} (h : bookN ls i = .ok (sc, fs)) (e : ls[i]? = some z) : bookN ls (i + 1) = stepB (toks z.cps.toList) i sc fs := by
  unfold bookN
  rw [h]
  dsimp only
  rw [e]
theorem bookN_e {ls : List Str} {i : Nat} {x : Nat × Nat} (h : bookN ls i = .error x) : bookN ls (i + 1) = .error x := by
  unfold bookN
  rw [h]
theorem bookN_stuck {ls : List Str} {i : Nat} {x : Nat × Nat} (h : bookN ls i = .error x) {n : Nat} (hn : i ≤ n) : bookN ls n = .error x := by
  induction n with
  | zero =>
    have : i = 0 := by omega
    rw [← this]
    exact h
  | succ n ih =>
    by_cases e : i = n + 1
    · rw [← e]
      exact h
    · exact bookN_e (ih (by omega))
theorem bookN_ok {ls : List Str} (hl : LsOk ls) : ∀ {i : Nat} {sc : SC} {fs : FS}, i ≤ ls.length → bookN ls i = .ok (sc, fs) → SCok sc ∧ FSok sc fs ∧ sc.length ≤ i ∧ fs.length ≤ i := by
  intro i
  induction i with
  | zero =>
    intro sc fs _ h
    unfold bookN at h
    injection h with h
    injection h with e1 e2
    rw [← e1, ← e2]
    exact ⟨⟨List.nodup_nil, fun t ht => nomatch ht⟩, (fun f hf => nomatch hf), Nat.le_refl _, Nat.le_refl _⟩
  | succ i ih =>
    intro sc fs hi h
    rcases hb : bookN ls i with e | ⟨sc0, fs0⟩
    · rw [bookN_e hb] at h
      injection h
    · obtain ⟨i1, i2, i3, i4⟩ := ih (by omega) hb
      have ez := get_lt (show i < ls.length by omega)
      rw [bookN_s hb ez] at h
      obtain ⟨j1, j2, j3, j4⟩ := stepB_ok (hl.tok ez) i1 i2 h
      exact ⟨j1, j2, by omega, by omega⟩
end Ev
namespace Ev
open PySem PySem.Spec PyProof.Rows L2
/-- an object that H does not know may change -/
theorem Bx.drop {a : Addr} {H H1 H2 : Hp} (b : Bx [] H H1) (h : H a = none) (c : Bx [a] H1 H2) : Bx [] H H2 := ⟨fun x o n e => c.k x o (fun z => by
  rw [List.mem_singleton.mp z, h] at e
  cases e) (b.k x o n e), fun x xs e => c.t x xs (b.t x xs e)⟩
theorem putK_new {H : Hp} {kvs : List (Key × V)} {sc : SC} {n : Str} {v : V} (h : All2 (TabR H) kvs sc) (h0 : tabF sc n = none) : putK kvs (.inr n) v = kvs ++ [(.inr n, v)] := by
  unfold putK
  rw [valV_any, tab_some h, h0]
  rfl
/-- the tables, by their names -/
structure SchemaOf (sc : SC) (l : SC) : Prop where
  perm : l.Perm sc
  srt : l.Pairwise fun a b => ¬ b.1.cps.toList < a.1.cps.toList
theorem schema_one {sc a b : SC} (hn : (sc.map (·.1)).Nodup) (ha : SchemaOf sc a) (hb : SchemaOf sc b) : a = b := by
  refine List.Perm.eq_of_pairwise (fun x y hx hy h1 h2 => ?_) ha.srt hb.srt (ha.perm.trans hb.perm.symm)
  have e : x.1.cps.toList = y.1.cps.toList := List.le_antisymm (List.not_lt.mp h1) (List.not_lt.mp h2)
  have e1 : x.1 = y.1 := PySem.W.str_of_cps e
  have hx' := ha.perm.mem_iff.mp hx
  have hy' := hb.perm.mem_iff.mp hy
  have q1 := tabF_of hn (n := x.1) (k := x.2.1) (r := x.2.2) hx'
  have q2 := tabF_of hn (n := y.1) (k := y.2.1) (r := y.2.2) hy'
  rw [e1, q2] at q1
  injection q1 with q1
  obtain ⟨x1, x2, x3⟩ := x
  obtain ⟨y1, y2, y3⟩ := y
  injection q1 with z1 z2
  have z0 : x1 = y1 := e1
  have z1' : y2 = x2 := z1
  have z2' : y3 = x3 := z2
  rw [z0, z1', z2']
/-- a table of the schema as the rows of EvB7 have it -/
def te (e : TE4) (t : Str × Nat × Nat) : Prop := e.2.1 = t.1 ∧ e.2.2.1 = t.2.1 ∧ e.2.2.2 = t.2.2
section
variable {P : Program} {w : World} {K : PySem.W.Frag} {mg : Str → Option Value} {base : Heap}
theorem rst_new {H2 HR : Hp} {a pt pd : Addr} {dx : Addr} {k : Nat} {TT : List Tk} {sc : SC} {us : List V} {kvs : List (Key × V)} (b : Bx [] H2 HR) (ha : HR a = some (.ins (aR K) dx (RdF pt k pd 0))) (hpt : H2 pt = some (.lst us)) (hall : All2 (PTok H2) us TT)
    (hd : H2 pd = some (.dK kvs)) (hk : All2 (TabR H2) kvs sc) (tl : TokL TT) : Rst K HR a pt pd k TT sc 0 := by
  refine ⟨⟨dx, ha⟩, ⟨us, b.l0 hpt, hall.mono fun v t h => h.mono b⟩, ⟨kvs, b.l0 hd, hk.mono fun e t h => ?_⟩, tl⟩
  obtain ⟨h1, r, h2, h3⟩ := h
  exact ⟨h1, r, h2, b.t _ _ h3⟩
theorem tabs_mono {D : List Addr} {H H' : Hp} {kvs : List (Key × V)} {sc : SC} (h : All2 (TabR H) kvs sc) (b : Bx D H H') : All2 (TabR H') kvs sc := h.mono fun e t h => by
  obtain ⟨h1, r, h2, h3⟩ := h
  exact ⟨h1, r, h2, b.t _ _ h3⟩
theorem line_tab {TT : List Tk} {sc : SC} (h : isTab TT sc) : lineM TT sc = (match tabM TT sc with | .error e => .at e | .ok (n, k, r) => .tab n k r) := by
  unfold lineM
  rw [if_neg (by rw [h.1.1]; decide +kernel), if_pos h]
  all_goals rfl
theorem line_fact {TT : List Tk} {sc : SC} (h : ¬ isTab TT sc) (h2 : kd TT 0 ≠ "end") : lineM TT sc = (match factM TT sc with | .error e => .at e | .ok (n, vs) => .fact n vs) := by
  unfold lineM
  rw [if_neg h2, if_neg h]
  all_goals rfl
theorem line_blank {TT : List Tk} {sc : SC} (h2 : kd TT 0 = "end") : lineM TT sc = .blank := by
  unfold lineM
  rw [if_pos h2]
theorem keys_of {H : Hp} : ∀ {kvs : List (Key × V)} {sc : SC}, All2 (TabR H) kvs sc → kvs.map (·.1) = (sc.map (·.1)).map Sum.inr
  | [], [], _ => rfl
  | [], _ :: _, h => h.elim
  | _ :: _, [], h => h.elim
  | e :: kvs, t :: sc, h => by
    rw [List.map_cons, List.map_cons, List.map_cons, h.1.1, keys_of h.2]
theorem rising_pw : ∀ (xs : List Str) (p : Str), risingS p xs = true → (p :: xs).Pairwise fun a b => ¬ b.cps.toList < a.cps.toList
  | [], p, _ => List.pairwise_cons.mpr ⟨(fun y hy => nomatch hy), .nil⟩
  | x :: r, p, h => by
    have h1 : (!ltCps x.cps.toList p.cps.toList && risingS x r) = true := h
    rw [Bool.and_eq_true] at h1
    have ih := rising_pw r x h1.2
    have hx : ¬ x.cps.toList < p.cps.toList := fun z => by
      have h2 := h1.1
      rw [ltCps_eq, decide_eq_true z] at h2
      cases h2
    refine List.pairwise_cons.mpr ⟨fun y hy => ?_, ih⟩
    rcases List.mem_cons.mp hy with e | hy
    · rw [e]
      exact hx
    · have h3 := (List.pairwise_cons.mp ih).1 y hy
      exact List.not_lt.mpr (List.le_trans (List.not_lt.mp hx) (List.not_lt.mp h3))
theorem sorted_pw : ∀ (xs : List Str), sortedS xs = true → xs.Pairwise fun a b => ¬ b.cps.toList < a.cps.toList
  | [], _ => .nil
  | x :: r, h => rising_pw r x h
/-- a table by its name -/
def tabOf (sc : SC) (n : Str) : Str × Nat × Nat := (n, (tabF sc n).getD (0, 0))
theorem tabOf_perm {sc : SC} (hn : (sc.map (·.1)).Nodup) {ys : List Str} (hp : ys.Perm (sc.map (·.1))) : (ys.map (tabOf sc)).Perm sc := by
  have h := hp.map (tabOf sc)
  have e : (sc.map (·.1)).map (tabOf sc) = sc := by
    rw [List.map_map]
    refine (List.map_congr_left fun t ht => ?_).trans (List.map_id _)
    show tabOf sc t.1 = t
    unfold tabOf
    rw [tabF_of hn (n := t.1) (k := t.2.1) (r := t.2.2) ht]
    rfl
  rw [e] at h
  exact h
theorem All2.back {β α : Type} {R : β → α → Prop} : ∀ {vs : List β} {ts : List α} {v : β}, All2 R vs ts → v ∈ vs → ∃ t ∈ ts, R v t
  | [], _, _, _, h => nomatch h
  | _ :: _, [], _, h, _ => h.elim
  | v :: vs, t :: ts, x, h, hx => by
    rcases List.mem_cons.mp hx with e | hx
    · rw [e]
      exact ⟨t, List.mem_cons_self, h.1⟩
    · obtain ⟨t', h1, h2⟩ := All2.back h.2 hx
      exact ⟨t', List.mem_cons_of_mem _ h1, h2⟩
theorem All2.forth {β α : Type} {R : β → α → Prop} : ∀ {vs : List β} {ts : List α} {t : α}, All2 R vs ts → t ∈ ts → ∃ v ∈ vs, R v t
  | _, [], _, _, h => nomatch h
  | [], _ :: _, _, h, _ => h.elim
  | v :: vs, t :: ts, x, h, hx => by
    rcases List.mem_cons.mp hx with e | hx
    · rw [e]
      exact ⟨v, List.mem_cons_self, h.1⟩
    · obtain ⟨t', h1, h2⟩ := All2.forth h.2 hx
      exact ⟨t', List.mem_cons_of_mem _ h1, h2⟩
/-! ### read_book -/
/-- the same, of no reader -/
def BadB (K : PySem.W.Frag) (E : XK) (H : Hp) (k at_ : Nat) : Prop := ∀ d H', Bx [] H H' → H' d = some (.xd [("at", .int at_), ("line", .int k)]) → E (.ref (aBT K)) (some d) H'
def sp_read_book (K : PySem.W.Frag) : Sp := fun vs H Q E => ∃ (z : Str) (ls : List Str), vs = [.str z] ∧ z.length ≤ 90000 ∧ Txt.split z "\n" = ls ∧ LsOk ls ∧ (∀ k at_, bookN ls ls.length = .error (k, at_) → BadB K E H k at_) ∧
  ∀ sc fs, bookN ls ls.length = .ok (sc, fs) → ∀ p t1 t2 H' (es : List TE4) (l : SC) (out : List (Fa × Addr)), H' p = some (.tup [.ref t1, .ref t2]) → H' t1 = some (.tup (refsT es)) → (∀ e ∈ es, TabAt H' e) → All2 te es l → SchemaOf sc l →
    H' t2 = some (.tup (out.map fun b => V.ref b.2)) → (∀ b ∈ out, FaAt H' b.2 b.1) → Store fs (out.map (·.1)) → Bx [] H H' → Q (.ref p) H'
theorem ok_read_book (T : Tx K mg) (B : BtK P K) (gB : mg "BadText" = some (.ref (aBT K))) : Cal P w K mg base (L2.CX P w) 8 "read_book" ["text"] (sp_read_book K) := by
  have H_tokens_of := ok_tokens_of (P := P) (w := w) (base := base) T
  have M_sees_table := ok_sees_table (P := P) (w := w) (base := base) T
  have M_sees := ok_sees (P := P) (w := w) (base := base) T
  have M_read_table := ok_read_table (P := P) (w := w) (base := base) T B gB
  have M_read_fact := ok_read_fact (P := P) (w := w) (base := base) T B gB
  have H_make_store := ok_make_store (P := P) (w := w) (base := base) T
  obtain ⟨fdR, FR, bR⟩ := ok_reader_init (P := P) (w := w) (base := base) T
  refine Cal.of T.d_read_book sc_read_book (fun vs H Q E h => ?len) (fun _ _ _ _ _ _ _ us hl => match us, hl with | [_], _ => rfl) (fun f cdv A outer s H vs Q E hr h => ?body)
  case len =>
    obtain ⟨z, ls, rfl, _⟩ := h
    rfl
  case body =>
    obtain ⟨z, ls, rfl, hz, hsp, hls, qe, q⟩ := h
    refine ⟨_, (pss_cons (ps_set (i := 1) sc_read_book.nd rfl (Or.inr rfl) pe_dnewK)
  (pss_cons (ps_set (i := 2) sc_read_book.nd rfl (Or.inl rfl) (pe_lst pa_nil))
  (pss_cons (ps_set (i := 3) sc_read_book.nd rfl (Or.inl rfl) (pe_split (pv 0) pe_str))
  (pss_cons (ps_for (passes_of rfl) rfl (pi_range1 (by rfl) T.b_range (pa_cons (pe_callB call_len_seq (by rfl) T.b_len PySem.boot_len (pa_cons (pv 3) pa_nil)) pa_nil)) (pg_name (i := 4) sc_read_book.nd rfl (Or.inl rfl))
  (pss_cons (ps_set (i := 5) sc_read_book.nd rfl (Or.inl rfl) (pe_make T.mkR FR (hr.mono (by decide)) (by rfl) T.g_Reader bR .nil pass0 (pa_cons (pe_cal H_tokens_of (hr.mono (by decide)) pass0 (pa_cons (pe_ix ix_list (pv 3) (pv 4) (fun _ _ => rfl)) (pa_cons (pe_cstr T.c_SIGNS) pa_nil))) (pa_cons (pv 4) (pa_cons (pv 1) pa_nil)))))
  (pss_one (ps_if (pt_val (pe_mcal0 M_sees_table (hr.mono (by decide)) pass0 (pv 5))) (pss_cons (ps_set (i := 6) sc_read_book.nd rfl (Or.inl rfl) (pe_mcal0 M_read_table (hr.mono (by decide)) (passes_call (takes_of rfl rfl rfl rfl) (fun _ _ _ _ h => h)) (pv 5)))
  (pss_one (ps_dput (hu_of hr) (pv 1) (pe_ix ix_tup (pv 6) pe_int (fun _ _ => rfl)) (pv 6) rfl)))
  (pss_one (ps_if (pt_not (pt_val (pe_mcal M_sees (hr.mono (by decide)) pass0 (pv 5) (pa_cons pe_str pa_nil)))) (pss_one (ps_expr (pe_bm PySem.F.plainAttrs_list PySem.F.slot_list_append PySem.F.type_list_append mt_append (pv 2) (pa_cons (pe_mcal0 M_read_fact (hr.mono (by decide)) (passes_call (takes_of rfl rfl rfl rfl) (fun _ _ _ _ h => h)) (pv 5)) pa_nil))))
  pss_nil))))))
  (pss_cons (ps_set (i := 7) sc_read_book.nd rfl (Or.inl rfl) (pe_callTy call_tuple_of (by rfl) T.b_tuple boot_tuple (pa_cons (pe_lc (own := [("name", 8)]) (g := gName 8) (by rfl) sc_read_book.nd (pi_list (pe_callB (call_sortedD rfl) (by rfl) T.b_sorted boot_sorted (pa_cons (pv 1) pa_nil))) (blkOk_by (own := [("name", 8)]) (N := n_read_book) (sc := defScope s_read_book) (by decide +kernel)) (fun _ _ _ _ _ => pg_name (i := 8) sc_read_book.nd rfl (Or.inl rfl)) (fun _ _ _ _ _ => pts_nil) (fun _ _ _ _ _ => (pe_dget (hu_of hr) (pv 1) (pv 8) (fun _ _ => rfl)))) pa_nil)))
  (pss_one (ps_ret (pe_tup (pa_cons (pv 7) (pa_cons (pe_cal H_make_store (hr.mono (by decide)) pass0 (pa_cons (pv 7) (pa_cons (pv 2) pa_nil))) pa_nil)))))))))), ?_⟩
    refine fun pd hpd => ?_
    refine ⟨by decide, fun pf hpf => ?_⟩
    have npd : pd ≠ pf := ne_of_none upd_same hpf
    refine ⟨_, rfl, ⟨_, rfl⟩, z, "\n", rfl, rfl, by decide, sz_of (by omega), fun pl hpl => ?_⟩
    rw [hsp]
    have hHd : ∀ {p : Addr}, upd H pd (.dK []) p = none → H p = none := fun {p} h => by
      by_cases e : p = pd
      · rw [e]
        exact hpd
      · rw [upd_ne e] at h
        exact h
    have hpf0 : H pf = none := hHd hpf
    have hpl1 : upd H pd (.dK []) pl = none := by
      by_cases e : pl = pf
      · rw [e, upd_same] at hpl
        cases hpl
      · rw [upd_ne e] at hpl
        exact hpl
    have hpl0 : H pl = none := hHd hpl1
    have nlf : pl ≠ pf := fun e => by rw [e, upd_same] at hpl; cases hpl
    have nld : pl ≠ pd := fun e => by rw [e, upd_same] at hpl1; cases hpl1
    have b0 : Bx [] H (upd (upd (upd H pd (.dK [])) pf (.lst [])) pl (.lst (ls.map V.str))) := ((Bx.new hpd).trans (.new hpf)).trans (.new hpl)
    let Pv : Nat → L2.St → Hp → Prop := fun i σ H' => ∃ (sc : SC) (fs : FS) (kvs : List (Key × V)) (bs : List (Fa × Addr)) (y4 y5 y6 : Option V), σ = [some (.str z), some (.ref pd), some (.ref pf), some (.ref pl), y4, y5, y6, none, none] ∧ bookN ls i = .ok (sc, fs) ∧
      H' pd = some (.dK kvs) ∧ All2 (TabR H') kvs sc ∧ H' pf = some (.lst (bs.map fun b => V.ref b.2)) ∧ bs.map (·.1) = fs ∧ (∀ b ∈ bs, FaAt H' b.2 b.1) ∧ H' pl = some (.lst (ls.map V.str)) ∧ Bx [] H H'
    refine ⟨_, rfl, pl, _, rfl, .inl (SqL.of upd_same), _, rfl, by omega, by rw [List.length_map]; have := hls.1; omega, for_range (lo := 0) (n := (((ls.map V.str).length : Nat) : Int).toNat) Pv ⟨[], [], [], [], _, _, _, rfl, rfl, ?_, trivial, ?_, rfl, (fun b hb => nomatch hb), upd_same, b0⟩ ?_ ?_⟩
    · rw [upd_ne nld.symm, upd_ne npd, upd_same]
    · rw [upd_ne nlf.symm, upd_same]
      rfl
    · rintro i σ H1 hi ⟨sc, fs, kvs, bs, y4, y5, y6, rfl, hbk, hd1, hk1, hf1, hbf, hba, hl1, b1⟩
      rw [List.length_map] at hi
      have hi' : i < ls.length := by omega
      obtain ⟨x, hx⟩ : ∃ x, ls[i]? = some x := ⟨_, get_lt hi'⟩
      have hxl := hls.2 x (List.mem_of_getElem? hx)
      have hT := hls.tok hx
      obtain ⟨ok1, ok2, len1, len2⟩ := bookN_ok hls (Nat.le_of_lt hi') hbk
      have hstep := bookN_s hbk hx
      have hix : atI (ls.map V.str) (0 + (i : Int)) = some (.str x) := by
        rw [Int.zero_add]
        refine atI_nat ?_
        rw [List.getElem?_map, hx]
        rfl
      refine ⟨_, rfl, _, rfl, pl, _, _, _, rfl, rfl, SqL.of hl1, hix, x, rfl, hxl, fun pt H2 us hpt hpt2 hall b2 => ?_⟩
      refine ⟨_, rfl, _, rfl, fun a dx ha hdx ndx => ?_⟩
      have e0 : (0 + (i : Int)) = (i : Int) := Int.zero_add _
      rw [e0]
      refine ⟨a, dx, pt, pd, i, rfl, upd_same, rfl, ?_⟩
      have b3 : Bx [] H2 (upd (upd H2 dx (.own a)) a (.ins (aR K) dx [])) := (Bx.new hdx).trans (.new (by rw [upd_ne ndx.symm]; exact ha))
      have hins : ∀ (G : Hp) (o : HO), Bx [] H2 G → (∃ fs', G a = some (.ins (aR K) dx fs')) → Bx [] H2 (upd G a o) := fun G o hb ⟨fs', hg⟩ => Bx.mutx hb (.inr ha) hg fun xs z => nomatch z
      have b4 := hins _ (.ins (aR K) dx [("tokens", .ref pt)]) b3 ⟨_, upd_same⟩
      have b5 := hins _ (.ins (aR K) dx [("tokens", .ref pt), ("line", .int (i : Nat))]) b4 ⟨_, upd_same⟩
      have b6 := hins _ (.ins (aR K) dx [("tokens", .ref pt), ("line", .int (i : Nat)), ("tables", .ref pd)]) b5 ⟨_, upd_same⟩
      have b7 := hins _ (.ins (aR K) dx (RdF pt i pd 0)) b6 ⟨_, upd_same⟩
      have R0 := rst_new b7 upd_same hpt2 hall (b2.l0 hd1) (tabs_mono hk1 b2) hT
      have err : ∀ e, lineM (toks x.cps.toList) sc = .at e → BadB K E H i (po (toks x.cps.toList) e) := fun e he => qe i _ (bookN_stuck (i := i + 1) (by
        rw [hstep]
        unfold stepB
        rw [he]) hi')
      have hHa : H a = none := (b1.trans b2).free0 ha
      refine ⟨_, rfl, a, dx, _, rfl, upd_same, rfl, a, pt, pd, i, toks x.cps.toList, sc, rfl, R0, fun H3 b8 => ?_⟩
      have R3 := R0.mono b8
      have ha3 := b8.l0 (upd_same (H := _) (a := a) (o := .ins (aR K) dx (RdF pt i pd 0)))
      have b13 := ((b1.trans b2).trans b7).trans b8
      have hd3 := ((b2.trans b7).trans b8).l0 hd1
      have hf3 := ((b2.trans b7).trans b8).l0 hf1
      have hl3 := ((b2.trans b7).trans b8).l0 hl1
      have hk3 := tabs_mono hk1 ((b2.trans b7).trans b8)
      have hba3 : ∀ b ∈ bs, FaAt H3 b.2 b.1 := fun b hb => (hba b hb).mono ((b2.trans b7).trans b8)
      have nda : pd ≠ a := fun z => by rw [z, ha3] at hd3; cases hd3
      have nfa : pf ≠ a := fun z => by rw [z, ha3] at hf3; cases hf3
      have nla : pl ≠ a := fun z => by rw [z, ha3] at hl3; cases hl3
      have blen : bs.length ≤ i := by
        have := congrArg List.length hbf
        rw [List.length_map] at this
        omega
      have klen := hk1.len
      have h60 := hls.1
      refine ⟨_, rfl, ite2 (fun h1 => ?_) (fun h1 => ?_)⟩
      · have h2 := of_decide_eq_true h1
        refine ⟨_, rfl, a, dx, _, rfl, ha3, rfl, a, pt, pd, i, toks x.cps.toList, sc, rfl, R3, h2.1.1, fun e he d H' b' hx' => err e (by rw [line_tab h2, he]) d H' (b13.drop hHa b') hx', fun n c r ht q H4 hq hq4 b9 => ?_⟩
        have hd4 := b9.l1 nda hd3
        refine ⟨_, rfl, _, rfl, _, rfl, q, _, 0, _, rfl, rfl, SqT.of hq4, rfl, pd, _, rfl, .k (k := .inr n) hd4 (sz_lt (by omega)), ?_⟩
        obtain ⟨_, _, t3⟩ := tabM_ok hT ht
        rw [putK_new (tabs_mono hk3 b9) t3]
        have b14 := b13.drop hHa b9
        have bm : Bx [pd] H4 (upd H4 pd (.dK (kvs ++ [(.inr n, .ref q)]))) := Bx.put hd4 fun xs z => nomatch z
        refine ⟨sc ++ [(n, c, r)], fs, _, bs, _, _, _, rfl, ?_, upd_same, All2.app1 ⟨rfl, q, rfl, bm.t _ _ hq4⟩ (tabs_mono (tabs_mono hk3 b9) bm), bm.l1 (npd.symm) (b9.l1 nfa hf3), hbf, fun b hb => ((hba3 b hb).mono b9).mono bm, bm.l1 nld (b9.l1 nla hl3), Bx.mutx b14 (.inr hpd) hd4 fun xs z => nomatch z⟩
        rw [hstep]
        unfold stepB
        rw [line_tab h2, ht]
      · have h2 : ¬ isTab (toks x.cps.toList) sc := fun z => h1 (decide_eq_true z)
        refine ⟨_, rfl, a, dx, _, rfl, ha3, rfl, a, pt, pd, i, toks x.cps.toList, sc, 0, "end", rfl, R3, R3.pos, ?_⟩
        refine ⟨_, rfl, ite2 (fun h3 => ?_) (fun h3 => ?_)⟩
        · have h4 := of_nd h3
          refine ⟨_, rfl, .inl ⟨rfl, _, SqL.of hf3⟩, _, rfl, a, dx, _, rfl, ha3, rfl, a, pt, pd, i, toks x.cps.toList, sc, rfl, R3, fun t ht => (ok1.ok t ht).2, fun e he d H' b' hx' => err e (by rw [line_fact h2 h4, he]) d H' (b13.drop hHa b') hx', fun n xs hfm q t H4 hq hq4 ht4 b9 => ?_⟩
          have hf4 := b9.l1 nfa hf3
          have b14 := b13.drop hHa b9
          have bm : Bx [pf] H4 (upd H4 pf (.lst ((bs.map fun b => V.ref b.2) ++ [.ref q]))) := Bx.mut (.refl _ _) (.inl (by simp)) hf4
          refine ⟨pf, _, _, rfl, rfl, hf4, by rw [List.length_map]; exact sz_lt (by omega), sc, fs ++ [(n, xs)], kvs, bs ++ [((n, xs), q)], _, _, _, rfl, ?_, bm.l1 npd (b9.l1 nda hd3), tabs_mono (tabs_mono hk3 b9) bm, ?_, ?_, fun b hb => ?_, bm.l1 nlf (b9.l1 nla hl3), Bx.mut b14 (.inr hpf0) hf4⟩
          · rw [hstep]
            unfold stepB
            rw [line_fact h2 h4, hfm]
          · rw [upd_same, List.map_append]
            rfl
          · rw [List.map_append, hbf]
            rfl
          · rcases List.mem_append.mp hb with hb | hb
            · exact ((hba3 b hb).mono b9).mono bm
            · rw [List.mem_singleton.mp hb]
              exact ⟨t, bm.t _ _ hq4, bm.t _ _ ht4⟩
        · have h4 := of_nnd h3
          refine ⟨sc, fs, kvs, bs, _, _, _, rfl, ?_, hd3, hk3, hf3, hbf, hba3, hl3, b13⟩
          rw [hstep]
          unfold stepB
          rw [line_blank h4]
    · rintro σ H1 ⟨sc, fs, kvs, bs, y4, y5, y6, rfl, hbk, hd1, hk1, hf1, hbf, hba, hl1, b1⟩
      rw [List.length_map] at hbk
      have hbk' : bookN ls ls.length = .ok (sc, fs) := hbk
      obtain ⟨ok1, ok2, len1, len2⟩ := bookN_ok hls (Nat.le_refl _) hbk'
      have blen : bs.length ≤ ls.length := by
        have := congrArg List.length hbf
        rw [List.length_map] at this
        omega
      have h60 := hls.1
      refine ⟨_, rfl, pd, kvs, sc.map (·.1), rfl, .of hd1, keys_of hk1, by rw [List.length_map]; omega, fun ys pp perm srt hpp => ?_⟩
      have b2 : Bx [] H1 (upd H1 pp (.lst (ys.map V.str))) := .new hpp
      refine ⟨pp, rfl, ⟨_, SqL.of upd_same⟩, fun D hD => ?_⟩
      have hm : ∀ y ∈ ys, ∃ k r, tabF sc y = some (k, r) ∧ (y, k, r) ∈ sc := fun y hy => by
        obtain ⟨⟨n, k, r⟩, ht, e⟩ := List.mem_map.mp (perm.mem_iff.mp hy)
        have e2 : n = y := e
        subst e2
        exact ⟨k, r, tabF_of ok1.nd ht, ht⟩
      have ylen : ys.length = sc.length := by rw [perm.length_eq, List.length_map]
      refine lc_list (K := K) (a := pp) (xs := ys.map V.str) (fun j H' => ∃ es : List TE4, H' D = some (.lst (refsT es)) ∧ (∀ e ∈ es, TabAt H' e) ∧ All2 te es ((ys.take j).map (tabOf sc)) ∧ es.length = j ∧ Bx [] (upd H1 pp (.lst (ys.map V.str))) H')
        ⟨[], upd_same, (fun e he => nomatch he), trivial, rfl, .new hD⟩ (fun i H' _ ⟨_, _, _, _, _, b⟩ => SqL.of (b.l0 upd_same)) ?_ ?_
      · rintro j x H2 hx ⟨es, hD2, hes, hall, elen, b3⟩
        rw [List.getElem?_map] at hx
        obtain ⟨y, hy, rfl⟩ : ∃ y, ys[j]? = some y ∧ V.str y = x := by
          cases hq : ys[j]? with
          | none => rw [hq] at hx; cases hx
          | some y => rw [hq] at hx; exact ⟨y, rfl, Option.some.inj hx⟩
        have hj := (List.getElem?_eq_some_iff.mp hy).1
        obtain ⟨k, r, ht, hts⟩ := hm y (List.mem_of_getElem? hy)
        obtain ⟨e0, _⟩ | ⟨k', r', q0, e0, e1, e2⟩ := tab_val (n := y) hk1
        · rw [ht] at e0
          cases e0
        rw [ht] at e0
        cases e0
        have hd2 := b3.l0 (b2.l0 hd1)
        have hq2 := b3.t _ _ (b2.t _ _ e2)
        have hnD : D ≠ q0 := fun z => by
          rw [← z, hD2] at hq2
          cases hq2
        refine ⟨rfl, tyes ?_⟩
        have hg : DGet H2 pd (.str y) (some (.ref q0)) := by
          have g := DGet.k (k := .inr y) hd2
          rw [e1] at g
          exact g
        refine ⟨_, rfl, _, rfl, pd, _, rfl, hg, ?_⟩
        have bm : Bx [D] H2 (upd H2 D (.lst (refsT es ++ [.ref q0]))) := Bx.mut (.refl _ _) (.inl (by simp)) hD2
        refine ⟨refsT es, hD2, by unfold refsT; rw [List.length_map]; exact sz_lt (by omega), es ++ [(q0, y, ((k : Nat) : Int), ((r : Nat) : Int))], ?_, fun e he => ?_, ?_, by rw [List.length_append, elen]; rfl, Bx.mut b3 (.inr hD) hD2⟩
        · rw [upd_same]
          unfold refsT
          rw [List.map_append]
          rfl
        · rcases List.mem_append.mp he with he | he
          · exact bm.t _ _ (hes e he)
          · rw [List.mem_singleton.mp he]
            exact bm.t _ _ hq2
        · rw [List.take_add_one, hy, List.map_append]
          refine All2.app1 ?_ hall
          show te _ (tabOf sc y)
          unfold tabOf
          rw [ht]
          exact ⟨rfl, rfl, rfl⟩
      · rintro H2 ⟨es, hD2, hes, hall, elen, b3⟩
        rw [List.length_map] at hall elen
        rw [List.take_length] at hall
        refine ⟨D, refsT es, rfl, .inl ⟨SqL.of hD2, fun t1 ht1 => ?_⟩⟩
        have b4 : Bx [] H2 (upd H2 t1 (.tup (refsT es))) := .new ht1
        have b24 := (b2.trans b3).trans b4
        have hes4 : ∀ e ∈ es, TabAt (upd H2 t1 (.tup (refsT es))) e := fun e he => b4.t _ _ (hes e he)
        have sok : SchemaOf sc (ys.map (tabOf sc)) := ⟨tabOf_perm ok1.nd perm, List.pairwise_map.mpr (sorted_pw ys srt)⟩
        have hf4 := b24.l0 hf1
        refine ⟨_, rfl, _, rfl, _, rfl, t1, pf, es, bs, rfl, upd_same, hes4, hf4, by omega, fun b hb => ?_, fun t2 H5 out ht2 hout sto b5 => ?_⟩
        · have hbm : b.1 ∈ fs := by
            rw [← hbf]
            exact List.mem_map.mpr ⟨b, hb, rfl⟩
          obtain ⟨fw, k, r, g1, g2⟩ := ok2 b.1 hbm
          have hmem := sok.perm.mem_iff.mpr (tabF_mem g1)
          have le8 := (ok1.ok _ (tabF_mem g1)).2
          refine ⟨(hba b hb).mono b24, fw, by rw [g2]; exact le8, ?_, fun e he en => ?_⟩
          · obtain ⟨e, he, h1, _⟩ := All2.forth hall hmem
            exact ⟨e, he, h1⟩
          · obtain ⟨⟨n', k', r'⟩, ht', h1, h2, h3⟩ := All2.back hall he
            have g3 := tabF_of ok1.nd (sok.perm.mem_iff.mp ht')
            have en2 : n' = b.1.1 := h1.symm.trans en
            rw [en2, g1] at g3
            injection g3 with g3
            injection g3 with g4 g5
            rw [h2, h3, g2, g4, g5]
            exact Int.natCast_add _ _
        · refine ⟨by show 2 ≤ sizeLine; decide, fun p hp => ?_⟩
          have b6 : Bx [] H5 (upd H5 p (.tup [.ref t1, .ref t2])) := .new hp
          rw [hbf] at sto
          exact q sc fs hbk' p t1 t2 _ es _ out upd_same ((b5.trans b6).t _ _ upd_same) (fun e he => (b5.trans b6).t _ _ (hes4 e he)) hall sok (b6.t _ _ ht2) (fun b hb => (hout b hb).mono b6) sto (((b1.trans b24).trans b5).trans b6)
end
end Ev
namespace Ev
open PySem PySem.Spec PyProof.Rows L2
/-! ## The law's reader -/
/-- the law's tokens T stand at pt -/
def LT (H : Hp) (pt : Addr) (T : List Tk) : Prop := (∃ us, H pt = some (.lst us) ∧ All2 (LTok H) us T) ∧ TokL T
theorem LT.mono {H H' : Hp} {pt : Addr} {T : List Tk} (h : LT H pt T) (b : Bx [] H H') : LT H' pt T := by
  obtain ⟨⟨us, h1, h2⟩, h3⟩ := h
  exact ⟨⟨us, b.l0 h1, h2.mono fun v t h => h.mono b⟩, h3⟩
theorem LT.set {H H' : Hp} {pt l : Addr} {T : List Tk} (h : LT H pt T) (b : Bx [l] H H') (n : pt ≠ l) : LT H' pt T := by
  obtain ⟨⟨us, h1, h2⟩, h3⟩ := h
  exact ⟨⟨us, b.l1 n h1, h2.mono fun v t h => h.mono b⟩, h3⟩
theorem LT.tok {H : Hp} {pt : Addr} {T : List Tk} (h : LT H pt T) {p : Nat} (hp : p < T.length) : ∃ us x u, H pt = some (.lst us) ∧ atI us ((p : Nat) : Int) = some (.ref x) ∧ H x = some (.tup [.str (kd T p), u, .int (po T p : Nat)]) ∧ (kd T p ≠ "bad" → u = wo T p) := by
  obtain ⟨⟨us, h1, h2⟩, h3⟩ := h
  have et := get_lt hp
  obtain ⟨v, hv, x, u, e, hx, hu⟩ := h2.get et
  subst e
  rw [← kd_at et, ← po_at et] at hx
  rw [← kd_at et, ← wo_at et] at hu
  exact ⟨us, x, u, h1, atI_nat hv, hx, hu⟩
section
variable {P : Program} {w : World} {K : PySem.W.Frag} {mg : Str → Option Value} {base : Heap}
/-! ### _law_take_terms -/
def sp_l_take_terms : Sp := fun vs H Q _ => ∃ pt T p n, vs = [.ref pt, .int (p : Nat), .int (n : Nat), .bl false] ∧ n ≤ 1000 ∧ LT H pt T ∧ p < T.length ∧ (∀ e, termsN T p n = .error e → ∀ r H', H' r = some (.lst [.non, .int (e : Nat)]) → Bx [] H H' → Q (.ref r) H') ∧
  ∀ xs q, termsN T p n = .ok (xs, q) → ∀ r l H' us, H' r = some (.lst [.ref l, .int (q : Nat)]) → H' l = some (.lst us) → All2 (TrmR H') us xs → Bx [] H H' → Q (.ref r) H'
theorem ok_l_take_terms (T : Tx K mg) : Cal P w K mg base CX0 1 "_law_take_terms" ["_law_tokens_here", "_law_place", "_law_many", "_law_variables"] sp_l_take_terms := by
  refine Cal.of T.d_l_take_terms sc_l_take_terms (fun vs H Q E h => ?len) (fun _ _ _ _ _ _ _ us hl => match us, hl with | [_, _, _, _], _ => rfl) (fun f cdv A outer s H vs Q E hr h => ?body)
  case len =>
    obtain ⟨pt, T, p, n, rfl, _⟩ := h
    rfl
  case body =>
    obtain ⟨pt, TT, p0, n, rfl, hn, R, hp, qe, q⟩ := h
    refine ⟨_, PSs.nox (pss_cons (ps_set (i := 4) sc_l_take_terms.nd rfl (Or.inl rfl) (pe_lst pa_nil))
  (pss_cons (ps_for PassesOwn.never rfl (pi_range1 (by rfl) T.b_range (pa_cons (pv 2) pa_nil)) (pg_name (i := 5) sc_l_take_terms.nd rfl (Or.inl rfl))
  (Evl.pss_cut (ps_if (pt_cmpR op_gt (pv 5) pe_int (nomark _)) (pss_cons (ps_if (pt_cmpR op_ne (pe_ix ix_tup (pe_ix ix_list (pv 0) (pv 1) (fun _ _ => rfl)) pe_int (fun _ _ => rfl)) pe_str (nomark _)) (pss_one (ps_ret (pe_lst (pa_cons pe_non (pa_cons (pv 1) pa_nil)))))
  pss_nil)
  (pss_one (ps_set (i := 1) sc_l_take_terms.nd rfl (Or.inl rfl) (pe_op op_add (pv 1) pe_int))))
  pss_nil)
  (pss_cons (ps_set (i := 6) sc_l_take_terms.nd rfl (Or.inl rfl) (pe_ix ix_list (pv 0) (pv 1) (fun _ _ => rfl)))
  (Evl.pss_cut (ps_if (PW.pt (pw_and (pt_cmpR op_eq (pe_ix ix_tup (pv 6) pe_int (fun _ _ => rfl)) pe_str (nomark _)) (pw_and1 (pt_val (pv 3))))) (pss_one (ps_expr (pe_bm PySem.F.plainAttrs_list PySem.F.slot_list_append PySem.F.type_list_append mt_append (pv 4) (pa_cons (pe_tup (pa_cons pe_str (pa_cons (pe_ix ix_tup (pv 6) pe_int (fun _ _ => rfl)) pa_nil))) pa_nil))))
  (pss_one (ps_if (PW.pt (pw_or (pt_cmpR op_eq (pe_ix ix_tup (pv 6) pe_int (fun _ _ => rfl)) pe_str (nomark _)) (pw_or1 (pt_cmpR op_eq (pe_ix ix_tup (pv 6) pe_int (fun _ _ => rfl)) pe_str (nomark _))))) (pss_one (ps_expr (pe_bm PySem.F.plainAttrs_list PySem.F.slot_list_append PySem.F.type_list_append mt_append (pv 4) (pa_cons (pe_tup (pa_cons pe_str (pa_cons (pe_ix ix_tup (pv 6) pe_int (fun _ _ => rfl)) pa_nil))) pa_nil))))
  (pss_one (ps_ret (pe_lst (pa_cons pe_non (pa_cons (pv 1) pa_nil))))))))
  (pss_one (ps_set (i := 1) sc_l_take_terms.nd rfl (Or.inl rfl) (pe_op op_add (pv 1) pe_int)))))))
  (pss_one (ps_ret (pe_lst (pa_cons (pv 4) (pa_cons (pv 1) pa_nil))))))), ?_⟩
    refine ⟨by decide, fun l hl => ?_⟩
    have hpt : ∃ us, H pt = some (.lst us) := R.1.imp fun us h => h.1
    have npl : pt ≠ l := by
      obtain ⟨us, h⟩ := hpt
      exact ne_of_none h hl
    refine ⟨_, rfl, _, rfl, by omega, by omega, for_range (lo := 0) (n := ((n : Nat) : Int).toNat) (fun i σ H' => ∃ (us acc : List V) (p : Nat) (y6 y7 : Option V), σ = [some (.ref pt), some (.int (p : Nat)), some (.int (n : Nat)), some (.bl false), some (.ref l), y6, y7] ∧ termsN TT p0 i = .ok (acc, p) ∧
      H' l = some (.lst us) ∧ All2 (TrmR H') us acc ∧ Bx [] H H' ∧ LT H' pt TT ∧ us.length = i) ⟨[], [], p0, _, _, rfl, rfl, upd_same, trivial, .new hl, R.mono (.new hl), rfl⟩ ?_ ?_⟩
    · rintro i σ H1 hi ⟨us, acc, p, y6, y7, rfl, hter, hus, hall, b1, R1, hlen⟩
      have hp1 : p < TT.length := ((terms_ok R.2 hp i).1 acc p hter).2.2
      have estep := terms_s hter
      have err : ∀ e, stepT TT i acc p = .error e → ∀ r H', H' r = some (.lst [.non, .int (e : Nat)]) → Bx [] H H' → Q (.ref r) H' := fun e he => qe e (terms_stuck (i := i + 1) (estep.trans he) (by omega))
      refine ⟨fun σ H' => σ = [some (.ref pt), some (.int (qT i p : Nat)), some (.int (n : Nat)), some (.bl false), some (.ref l), some (.int (0 + (i : Int))), y7] ∧ H' = H1 ∧ qT i p < TT.length ∧ ¬ (0 < i ∧ kd TT p ≠ ","), ?_, ?_⟩
      · refine ⟨_, rfl, _, _, rfl, rfl, _, rfl, ite2 (fun h1 => ?_) (fun h1 => ?_)⟩
        · have h2 : 0 < i := by
            have := of_decide_eq_true h1
            omega
          have eq : qT i p = p + 1 := by unfold qT; rw [if_pos h2]
          obtain ⟨ts, x, u, t1, t2, t3, t4⟩ := R1.tok hp1
          refine ⟨_, rfl, _, rfl, pt, ts, _, _, rfl, rfl, SqL.of t1, t2, x, _, _, _, rfl, rfl, SqT.of t3, rfl, rfl, _, rfl, ite2 (fun h3 => ?_) (fun h3 => ?_)⟩
          · have z : kd TT p ≠ "," := fun e => of_nd h3 (congrArg V.str e)
            refine ⟨_, rfl, by show 2 ≤ sizeLine; decide, fun r hr0 => ?_⟩
            refine err p ?_ r _ upd_same (b1.trans (.new hr0))
            unfold stepT
            rw [if_pos ⟨h2, z⟩]
          · have z := V.str.inj (of_nnd h3)
            refine ⟨_, rfl, _, _, rfl, rfl, ?_⟩
            rw [eq]
            exact ⟨rfl, rfl, kd_ne R1.2 z (by decide +kernel), fun z2 => z2.2 z⟩
        · have h2 : ¬ 0 < i := by
            have : ¬ (0 : Int) < 0 + (i : Int) := of_decide_eq_false (Bool.eq_false_iff.mpr h1)
            omega
          have eq : qT i p = p := by unfold qT; rw [if_neg h2]
          rw [eq]
          exact ⟨rfl, rfl, hp1, fun z => h2 z.1⟩
      · rintro σ H2 ⟨rfl, rfl, hq, hno⟩
        obtain ⟨ts, x, u, t1, t2, t3, t4⟩ := R1.tok hq
        refine ⟨_, rfl, _, rfl, pt, ts, _, _, rfl, rfl, SqL.of t1, t2, ?_⟩
        refine ⟨fun σ H' => ∃ us acc, σ = [some (.ref pt), some (.int (qT i p : Nat)), some (.int (n : Nat)), some (.bl false), some (.ref l), some (.int (0 + (i : Int))), some (.ref x)] ∧ termsN TT p0 (i + 1) = .ok (acc, qT i p + 1) ∧
          H' l = some (.lst us) ∧ All2 (TrmR H') us acc ∧ Bx [] H H' ∧ LT H' pt TT ∧ us.length = i + 1, ?_, ?_⟩
        · have key : ¬ (kd TT (qT i p) = "string" ∨ kd TT (qT i p) = "number") → ∀ r H', H' r = some (.lst [.non, .int (qT i p : Nat)]) → Bx [] H H' → Q (.ref r) H' := fun z => err _ (by
            unfold stepT
            rw [if_neg hno, if_neg z])
          have good : (kd TT (qT i p) = "string" ∨ kd TT (qT i p) = "number") → termsN TT p0 (i + 1) = .ok (acc ++ [wo TT (qT i p)], qT i p + 1) := fun z => by
            rw [estep]
            unfold stepT
            rw [if_neg hno, if_pos z]
          have hu : (kd TT (qT i p) = "string" ∨ kd TT (qT i p) = "number") → u = wo TT (qT i p) := fun z => t4 (by rcases z with z | z <;> rw [z] <;> decide +kernel)
          refine ⟨_, rfl, x, _, _, _, rfl, rfl, SqT.of t3, rfl, rfl, _, rfl, ite2 (fun hw => ⟨_, rfl, false, rfl, iteF ?_⟩) (fun hw => iteF ?_)⟩
          all_goals
            have put : (kd TT (qT i p) = "string" ∨ kd TT (qT i p) = "number") → ∀ y, H2 y = none → upd H2 y (.tup [.str "value", u]) l = some (.lst us) ∧ us.length < sizeLine ∧ ∃ acc', termsN TT p0 (i + 1) = .ok (acc', qT i p + 1) ∧
                upd (upd H2 y (.tup [.str "value", u])) l (.lst (us ++ [.ref y])) l = some (.lst (us ++ [.ref y])) ∧ All2 (TrmR (upd (upd H2 y (.tup [.str "value", u])) l (.lst (us ++ [.ref y])))) (us ++ [.ref y]) acc' ∧ Bx [] H (upd (upd H2 y (.tup [.str "value", u])) l (.lst (us ++ [.ref y]))) ∧ LT (upd (upd H2 y (.tup [.str "value", u])) l (.lst (us ++ [.ref y]))) pt TT ∧ (us ++ [V.ref y]).length = i + 1 := fun z y hy => by
              have bn : Bx [] H2 (upd H2 y (.tup [.str "value", u])) := .new hy
              have hl3 := bn.l0 hus
              have bm : Bx [l] (upd H2 y (.tup [.str "value", u])) (upd (upd H2 y (.tup [.str "value", u])) l (.lst (us ++ [.ref y]))) := Bx.mut (.refl _ _) (.inl (by simp)) hl3
              refine ⟨hl3, sz_lt (by omega), acc ++ [wo TT (qT i p)], good z, upd_same, All2.app1 ⟨y, rfl, ?_⟩ (hall.mono fun v t h => (h.mono bn).mono bm), Bx.mut (b1.trans bn) (.inr hl) hl3, (R1.mono bn).set bm npl, by rw [List.length_append, hlen]; rfl⟩
              rw [← hu z]
              exact bm.t _ _ upd_same
            refine ⟨_, rfl, x, _, _, _, rfl, rfl, SqT.of t3, rfl, rfl, _, rfl, ite2 (fun h5 => iteT ?_) (fun h5 => ?_)⟩
            · have z : kd TT (qT i p) = "string" := V.str.inj (of_decide_eq_true h5)
              refine ⟨_, rfl, .inl ⟨rfl, _, SqL.of hus⟩, _, rfl, x, _, _, _, rfl, rfl, SqT.of t3, rfl, by show 2 ≤ sizeLine; decide, fun y hy => ?_⟩
              obtain ⟨g1, g2, acc', g⟩ := put (.inl z) y hy
              exact ⟨l, us, _, rfl, rfl, g1, g2, us ++ [.ref y], acc', rfl, g⟩
            · refine ⟨_, rfl, x, _, _, _, rfl, rfl, SqT.of t3, rfl, rfl, _, rfl, ite2 (fun h6 => ?_) (fun h6 => ?_)⟩
              · have z : kd TT (qT i p) = "number" := V.str.inj (of_decide_eq_true h6)
                refine ⟨_, rfl, .inl ⟨rfl, _, SqL.of hus⟩, _, rfl, x, _, _, _, rfl, rfl, SqT.of t3, rfl, by show 2 ≤ sizeLine; decide, fun y hy => ?_⟩
                obtain ⟨g1, g2, acc', g⟩ := put (.inr z) y hy
                exact ⟨l, us, _, rfl, rfl, g1, g2, us ++ [.ref y], acc', rfl, g⟩
              · refine ⟨_, rfl, by show 2 ≤ sizeLine; decide, fun r hr0 => key (fun z => ?_) r _ upd_same (b1.trans (.new hr0))⟩
                rcases z with z | z
                · exact h5 (decide_eq_true (congrArg V.str z))
                · exact h6 (decide_eq_true (congrArg V.str z))
        · rintro σ H2 ⟨us2, acc2, rfl, s1, s2, s3, s4, s5, s6⟩
          exact ⟨_, rfl, _, _, rfl, rfl, us2, acc2, _, _, _, rfl, s1, s2, s3, s4, s5, s6⟩
    · rintro σ H1 ⟨us, acc, p, y6, y7, rfl, hter, hus, hall, b1, R1, hlen⟩
      refine ⟨_, rfl, _, rfl, by show 2 ≤ sizeLine; decide, fun r hr0 => ?_⟩
      have b2 : Bx [] H1 (upd H1 r (.lst [.ref l, .int (p : Nat)])) := .new hr0
      exact q acc p hter r l _ us upd_same (b2.l0 hus) (hall.mono fun v t h => h.mono b2) (b1.trans b2)
end
end Ev
namespace Ev
open PySem PySem.Spec PyProof.Rows L2
/-- the law's schema stands at ps -/
def LS (H : Hp) (ps : Addr) (sc : SC) : Prop := ∃ es : List TE4, H ps = some (.lst (refsT es)) ∧ (∀ e ∈ es, TabAt H e) ∧ All2 te es sc
theorem LS.mono {H H' : Hp} {ps : Addr} {sc : SC} (h : LS H ps sc) (b : Bx [] H H') : LS H' ps sc := by
  obtain ⟨es, h1, h2, h3⟩ := h
  exact ⟨es, b.l0 h1, fun e he => b.t _ _ (h2 e he), h3⟩
theorem LT.pos {H : Hp} {pt : Addr} {T : List Tk} (h : LT H pt T) : 0 < T.length := by
  obtain ⟨_, l, e, eT, _⟩ := h
  rw [eT, List.length_append]
  exact Nat.succ_pos _
theorem find_of {H : Hp} {n : Str} : ∀ {es : List TE4} {sc : SC}, (∀ e ∈ es, TabAt H e) → All2 te es sc → (tabF sc n = none ∧ findT es n = .non) ∨ ∃ k r q, tabF sc n = some (k, r) ∧ findT es n = .ref q ∧ H q = some (.tup [.str n, .int (k : Nat), .int (r : Nat)])
  | [], [], _, _ => .inl ⟨rfl, rfl⟩
  | [], _ :: _, _, h => h.elim
  | _ :: _, [], _, h => h.elim
  | e :: es, t :: sc, hes, h => by
    obtain ⟨⟨h1, h2, h3⟩, hr⟩ := h
    obtain ⟨tn, tk, tr⟩ := t
    by_cases c : n = tn
    · subst c
      refine .inr ⟨tk, tr, e.1, ?_, ?_, ?_⟩
      · simp [tabF, List.lookup]
      · unfold findT
        rw [List.find?_cons, show decide (e.2.1 = n) = true from decide_eq_true h1]
      · have g := hes e List.mem_cons_self
        unfold TabAt at g
        rw [h1, h2, h3] at g
        exact g
    · have e1 : tabF ((tn, tk, tr) :: sc) n = tabF sc n := by
        have : (n == tn) = false := by simpa using c
        simp [tabF, List.lookup, this]
      have e2 : findT (e :: es) n = findT es n := by
        unfold findT
        rw [List.find?_cons, show decide (e.2.1 = n) = false from decide_eq_false fun z => c (z.symm.trans h1)]
      rw [e1, e2]
      exact find_of (fun x hx => hes x (List.mem_cons_of_mem _ hx)) hr
section
variable {P : Program} {w : World} {K : PySem.W.Frag} {mg : Str → Option Value} {base : Heap}
/-! ### _law_take_atom -/
def sp_l_take_atom : Sp := fun vs H Q _ => ∃ pt ps T sc, vs = [.ref pt, .int 0, .ref ps, .bl false] ∧ LT H pt T ∧ LS H ps sc ∧ (∀ t ∈ sc, t.2.1 + t.2.2 ≤ 8) ∧ (∀ e, atomM T sc = .error e → ∀ r H', H' r = some (.lst [.non, .int (e : Nat)]) → Bx [] H H' → Q (.ref r) H') ∧
  ∀ n xs p, atomM T sc = .ok (n, xs, p) → ∀ r a t H' us, H' r = some (.lst [.ref a, .int (p : Nat)]) → H' a = some (.tup [.str n, .ref t]) → H' t = some (.tup us) → All2 (TrmR H') us xs → Bx [] H H' → Q (.ref r) H'
theorem ok_l_take_atom (T : Tx K mg) : Cal P w K mg base CX0 2 "_law_take_atom" ["_law_tokens_here", "_law_place", "_law_schema", "_law_variables"] sp_l_take_atom := by
  have H_l_table := ok_l_table (P := P) (w := w) (base := base) T
  have H_l_take_terms := ok_l_take_terms (P := P) (w := w) (base := base) T
  refine Cal.of T.d_l_take_atom sc_l_take_atom (fun vs H Q E h => ?len) (fun _ _ _ _ _ _ _ us hl => match us, hl with | [_, _, _, _], _ => rfl) (fun f cdv A outer s H vs Q E hr h => ?body)
  case len =>
    obtain ⟨pt, ps, T, sc, rfl, _⟩ := h
    rfl
  case body =>
    obtain ⟨pt, ps, TT, sc, rfl, R, S, h8, qe, q⟩ := h
    refine ⟨_, PSs.nox (pss_cons (ps_set (i := 4) sc_l_take_atom.nd rfl (Or.inl rfl) pe_non)
  (Evl.pss_cut (ps_if (pt_cmpR op_eq (pe_ix ix_tup (pe_ix ix_list (pv 0) (pv 1) (fun _ _ => rfl)) pe_int (fun _ _ => rfl)) pe_str (nomark _)) (pss_one (ps_set (i := 4) sc_l_take_atom.nd rfl (Or.inl rfl) (pe_cal H_l_table (hr.mono (by decide)) pass0 (pa_cons (pv 2) (pa_cons (pe_ix ix_tup (pe_ix ix_list (pv 0) (pv 1) (fun _ _ => rfl)) pe_int (fun _ _ => rfl)) pa_nil)))))
  pss_nil)
  (pss_cons (ps_if (pt_cmpR op_isN (pv 4) pe_non (nomark _)) (pss_one (ps_ret (pe_lst (pa_cons pe_non (pa_cons (pv 1) pa_nil)))))
  pss_nil)
  (pss_cons (ps_if (pt_cmpR op_ne (pe_ix ix_tup (pe_ix ix_list (pv 0) (pe_op op_add (pv 1) pe_int) (fun _ _ => rfl)) pe_int (fun _ _ => rfl)) pe_str (nomark _)) (pss_one (ps_ret (pe_lst (pa_cons pe_non (pa_cons (pe_op op_add (pv 1) pe_int) pa_nil)))))
  pss_nil)
  (pss_cons (ps_set (i := 5) sc_l_take_atom.nd rfl (Or.inl rfl) (pe_cal H_l_take_terms (hr.mono (by decide)) pass0 (pa_cons (pv 0) (pa_cons (pe_op op_add (pv 1) pe_int) (pa_cons (pe_ix ix_tup (pv 4) pe_int (fun _ _ => rfl)) (pa_cons (pv 3) pa_nil))))))
  (pss_cons (ps_if (PW.pt (pw_or (pt_cmpR op_isN (pe_ix ix_list (pv 5) pe_int (fun _ _ => rfl)) pe_non (nomark _)) (pw_or1 (pt_cmpR op_ne (pe_ix ix_seq (pe_ix ix_list (pv 0) (pe_ix ix_list (pv 5) pe_int (fun _ _ => rfl)) (fun _ _ => rfl)) pe_int (fun _ _ => rfl)) pe_str (nomark _))))) (pss_one (ps_ret (pe_lst (pa_cons pe_non (pa_cons (pe_ix ix_list (pv 5) pe_int (fun _ _ => rfl)) pa_nil)))))
  pss_nil)
  (pss_cons (ps_set (i := 6) sc_l_take_atom.nd rfl (Or.inl rfl) (pe_cal H_l_take_terms (hr.mono (by decide)) pass0 (pa_cons (pv 0) (pa_cons (pe_op op_add (pe_ix ix_list (pv 5) pe_int (fun _ _ => rfl)) pe_int) (pa_cons (pe_ix ix_tup (pv 4) pe_int (fun _ _ => rfl)) (pa_cons (pv 3) pa_nil))))))
  (pss_cons (ps_if (PW.pt (pw_or (pt_cmpR op_isN (pe_ix ix_list (pv 6) pe_int (fun _ _ => rfl)) pe_non (nomark _)) (pw_or1 (pt_cmpR op_ne (pe_ix ix_seq (pe_ix ix_list (pv 0) (pe_ix ix_list (pv 6) pe_int (fun _ _ => rfl)) (fun _ _ => rfl)) pe_int (fun _ _ => rfl)) pe_str (nomark _))))) (pss_one (ps_ret (pe_lst (pa_cons pe_non (pa_cons (pe_ix ix_list (pv 6) pe_int (fun _ _ => rfl)) pa_nil)))))
  pss_nil)
  (pss_one (ps_ret (pe_lst (pa_cons (pe_tup (pa_cons (pe_ix ix_tup (pv 4) pe_int (fun _ _ => rfl)) (pa_cons (pe_callTy call_tuple_of (by rfl) T.b_tuple boot_tuple (pa_cons (pe_op op_cat (pe_ix ix_list (pv 5) pe_int (fun _ _ => rfl)) (pe_ix ix_list (pv 6) pe_int (fun _ _ => rfl))) pa_nil)) pa_nil))) (pa_cons (pe_op op_add (pe_ix ix_list (pv 6) pe_int (fun _ _ => rfl)) pe_int) pa_nil))))))))))))), ?_⟩
    obtain ⟨es, hps, hes, hall⟩ := S
    obtain ⟨ts, x, u, t1, t2, t3, t4⟩ := R.tok R.pos
    refine ⟨fun σ H' => ∃ v4, σ = [some (.ref pt), some (.int 0), some (.ref ps), some (.bl false), some v4, none, none] ∧ H' = H ∧ ((nameM TT sc = none ∧ v4 = .non) ∨ ∃ n k r q, nameM TT sc = some (k, r) ∧ nm (wo TT 0) = n ∧ v4 = .ref q ∧ H q = some (.tup [.str n, .int (k : Nat), .int (r : Nat)])), ?_, ?_⟩
    · refine ⟨_, rfl, _, rfl, pt, ts, _, _, rfl, rfl, SqL.of t1, t2, x, _, _, _, rfl, rfl, SqT.of t3, rfl, rfl, _, rfl, ite2 (fun h1 => ?_) (fun h1 => ?_)⟩
      · have z : kd TT 0 = "word" := V.str.inj (of_decide_eq_true h1)
        obtain ⟨y, hy, wy⟩ := kd_word R.2 z
        have hu : u = .str y := (t4 (by rw [z]; decide +kernel)).trans hy
        have hn : nameM TT sc = tabF sc y := by
          unfold nameM
          rw [if_pos z, hy]
          rfl
        subst hu
        refine ⟨_, rfl, _, rfl, _, rfl, pt, ts, _, _, rfl, rfl, SqL.of t1, t2, x, _, _, _, rfl, rfl, SqT.of t3, rfl, ps, y, es, rfl, .inl hps, hes, _, rfl, rfl, ?_⟩
        rcases find_of (n := y) hes hall with ⟨g1, g2⟩ | ⟨k, r, q', g1, g2, g3⟩
        · exact .inl ⟨hn.trans g1, g2⟩
        · exact .inr ⟨y, k, r, q', hn.trans g1, by rw [hy]; rfl, g2, g3⟩
      · exact ⟨_, rfl, rfl, .inl ⟨by
          unfold nameM
          rw [if_neg fun z => h1 (decide_eq_true (congrArg V.str z))], rfl⟩⟩
    · rintro σ H1 ⟨v4, rfl, rfl, hv⟩
      rcases hv with ⟨hn, rfl⟩ | ⟨n, k, r, q4, hn, hnm, rfl, hq4⟩
      · refine ⟨_, rfl, rfl, _, rfl, ite2 (fun h1 => ?_) (fun h1 => absurd (decide_eq_true rfl) h1)⟩
        refine ⟨_, rfl, by show 2 ≤ sizeLine; decide, fun r hr0 => qe 0 ?_ r _ upd_same (.new hr0)⟩
        unfold atomM
        rw [hn]
      · have hnr : k + r ≤ 8 := by
          unfold nameM at hn
          split at hn
          · exact tab_le h8 hn
          · cases hn
        have h0 : kd TT 0 = "word" := by
          unfold nameM at hn
          split at hn
          · next c => exact c
          · cases hn
        have l1 : 1 < TT.length := kd_ne R.2 h0 (by decide +kernel)
        obtain ⟨ts1, x1, u1, s1, s2, s3, s4⟩ := R.tok l1
        refine ⟨_, rfl, rfl, _, rfl, ite2 (fun h1 => by have := of_decide_eq_true h1; cases this) (fun _ => ?_)⟩
        refine ⟨_, rfl, _, rfl, _, _, rfl, rfl, pt, ts1, _, _, rfl, rfl, SqL.of s1, s2, x1, _, _, _, rfl, rfl, SqT.of s3, rfl, rfl, _, rfl, ite2 (fun h1 => ?_) (fun h1 => ?_)⟩
        · have z : kd TT 1 ≠ "(" := fun e => of_nd h1 (congrArg V.str e)
          refine ⟨_, rfl, _, _, rfl, rfl, by show 2 ≤ sizeLine; decide, fun r hr0 => qe 1 ?_ r _ upd_same (.new hr0)⟩
          unfold atomM
          rw [hn]
          dsimp only
          rw [if_pos z]
        · have z : kd TT 1 = "(" := V.str.inj (of_nnd h1)
          have l2 : 2 < TT.length := kd_ne R.2 z (by decide +kernel)
          have ea : atomM TT sc = (match termsN TT 2 k with
            | .error e => .error e
            | .ok (xs, p) =>
              if kd TT p ≠ "|" then .error p else
              match termsN TT (p + 1) r with
              | .error e => .error e
              | .ok (ys, p2) => if kd TT p2 ≠ ")" then .error p2 else .ok (nm (wo TT 0), xs ++ ys, p2 + 1)) := by
            unfold atomM
            rw [hn]
            dsimp only
            rw [if_neg fun c => c z]
            all_goals rfl
          refine ⟨_, rfl, _, rfl, _, _, rfl, rfl, _, rfl, q4, _, _, _, rfl, rfl, SqT.of hq4, rfl, _, rfl, pt, TT, 2, k, rfl, by omega, R, l2, fun e he r1 H2 hr1 b2 => ?_, fun xs p hx r1 a1 H2 us hr1 ha1 hall1 b2 => ?_⟩
          · refine ⟨_, rfl, r1, _, _, _, rfl, rfl, SqL.of hr1, rfl, rfl, _, rfl, ite2 (fun _ => iteT ?_) (fun h2 => absurd (decide_eq_true rfl) h2)⟩
            refine ⟨_, rfl, r1, _, _, _, rfl, rfl, SqL.of hr1, rfl, by show 2 ≤ sizeLine; decide, fun r' hr0 => qe e ?_ r' _ upd_same (b2.trans (.new hr0))⟩
            rw [ea, he]
          · have lp : p < TT.length := ((terms_ok R.2 l2 k).1 xs p hx).2.2
            have R2 := R.mono b2
            have hq42 := b2.t _ _ hq4
            obtain ⟨ts2, x2, u2, e1, e2, e3, e4⟩ := R2.tok lp
            refine ⟨_, rfl, r1, _, _, _, rfl, rfl, SqL.of hr1, rfl, rfl, _, rfl, ite2 (fun h2 => by have := of_decide_eq_true h2; cases this) (fun _ => ?_)⟩
            refine ⟨_, rfl, _, rfl, r1, _, _, _, rfl, rfl, SqL.of hr1, rfl, pt, ts2, _, _, rfl, rfl, SqL.of e1, e2, .inr (.inl ⟨x2, _, _, _, rfl, rfl, SqT.of e3, rfl, rfl, _, rfl, ite2 (fun h2 => ?_) (fun h2 => ?_)⟩)⟩
            · have z : kd TT p ≠ "|" := fun e => of_nd h2 (congrArg V.str e)
              refine ⟨_, rfl, r1, _, _, _, rfl, rfl, SqL.of hr1, rfl, by show 2 ≤ sizeLine; decide, fun r' hr0 => qe p ?_ r' _ upd_same (b2.trans (.new hr0))⟩
              rw [ea, hx]
              dsimp only
              rw [if_pos z]
            · have z : kd TT p = "|" := V.str.inj (of_nnd h2)
              have l3 : p + 1 < TT.length := kd_ne R.2 z (by decide +kernel)
              refine ⟨_, rfl, _, rfl, r1, _, _, _, rfl, rfl, SqL.of hr1, rfl, _, _, rfl, rfl, _, rfl, q4, _, _, _, rfl, rfl, SqT.of hq42, rfl, _, rfl, pt, TT, p + 1, r, rfl, by omega, R2, l3, fun e he r2 H3 hr2 b3 => ?_, fun ys p2 hy r2 a2 H3 us2 hr2 ha2 hall2 b3 => ?_⟩
              · refine ⟨_, rfl, r2, _, _, _, rfl, rfl, SqL.of hr2, rfl, rfl, _, rfl, ite2 (fun _ => iteT ?_) (fun h2 => absurd (decide_eq_true rfl) h2)⟩
                refine ⟨_, rfl, r2, _, _, _, rfl, rfl, SqL.of hr2, rfl, by show 2 ≤ sizeLine; decide, fun r' hr0 => qe e ?_ r' _ upd_same ((b2.trans b3).trans (.new hr0))⟩
                rw [ea, hx]
                dsimp only
                rw [if_neg fun c => c z, he]
              · have lp2 : p2 < TT.length := ((terms_ok R.2 l3 r).1 ys p2 hy).2.2
                have R3 := R2.mono b3
                have hq43 := b3.t _ _ hq42
                have hr13 := b3.l0 hr1
                have ha13 := b3.l0 ha1
                obtain ⟨ts3, x3, u3, d1, d2, d3, d4⟩ := R3.tok lp2
                refine ⟨_, rfl, r2, _, _, _, rfl, rfl, SqL.of hr2, rfl, rfl, _, rfl, ite2 (fun h2 => by have := of_decide_eq_true h2; cases this) (fun _ => ?_)⟩
                refine ⟨_, rfl, _, rfl, r2, _, _, _, rfl, rfl, SqL.of hr2, rfl, pt, ts3, _, _, rfl, rfl, SqL.of d1, d2, .inr (.inl ⟨x3, _, _, _, rfl, rfl, SqT.of d3, rfl, rfl, _, rfl, ite2 (fun h2 => ?_) (fun h2 => ?_)⟩)⟩
                · have z2 : kd TT p2 ≠ ")" := fun e => of_nd h2 (congrArg V.str e)
                  refine ⟨_, rfl, r2, _, _, _, rfl, rfl, SqL.of hr2, rfl, by show 2 ≤ sizeLine; decide, fun r' hr0 => qe p2 ?_ r' _ upd_same ((b2.trans b3).trans (.new hr0))⟩
                  rw [ea, hx]
                  dsimp only
                  rw [if_neg fun c => c z, hy]
                  dsimp only
                  rw [if_pos z2]
                · have z2 : kd TT p2 = ")" := V.str.inj (of_nnd h2)
                  have hok : atomM TT sc = .ok (n, xs ++ ys, p2 + 1) := by
                    rw [ea, hx]
                    dsimp only
                    rw [if_neg fun c => c z, hy]
                    dsimp only
                    rw [if_neg fun c => c z2, hnm]
                  have len1 : us.length ≤ 8 := by
                    have := ((terms_ok R.2 l2 k).1 xs p hx).1
                    rw [hall1.len]
                    omega
                  have len2 : us2.length ≤ 8 := by
                    have := ((terms_ok R.2 l3 r).1 ys p2 hy).1
                    rw [hall2.len]
                    omega
                  refine ⟨_, rfl, q4, _, _, _, rfl, rfl, SqT.of hq43, rfl, _, rfl, r1, _, _, _, rfl, rfl, SqL.of hr13, rfl, _, rfl, r2, _, _, _, rfl, rfl, SqL.of hr2, rfl, a1, a2, us, us2, rfl, rfl, ha13, ha2, sz_of (by omega), fun pc hpc => ?_⟩
                  refine ⟨pc, us ++ us2, rfl, .inl ⟨SqL.of upd_same, fun t ht => ?_⟩⟩
                  refine ⟨by show 2 ≤ sizeLine; decide, fun y hy0 => ?_⟩
                  have c1 : Bx [] H3 (upd H3 pc (.lst (us ++ us2))) := .new hpc
                  have c2 := c1.trans (Bx.new (o := .tup (us ++ us2)) ht)
                  have c3 := c2.trans (Bx.new (o := .tup [.str n, .ref t]) hy0)
                  refine ⟨_, rfl, r2, _, _, _, rfl, rfl, SqL.of (c3.l0 hr2), rfl, _, _, rfl, rfl, by show 2 ≤ sizeLine; decide, fun r' hr0 => ?_⟩
                  have c4 := c3.trans (Bx.new (o := .lst [.ref y, .int ((p2 : Int) + 1)]) hr0)
                  have ce : ((p2 : Int) + 1) = ((p2 + 1 : Nat) : Int) := rfl
                  refine q n (xs ++ ys) (p2 + 1) hok r' y t _ (us ++ us2) upd_same ((Bx.new (D := []) hr0).t _ _ upd_same) (((Bx.new (D := []) hy0).trans (.new hr0)).t _ _ upd_same) (All2.app (hall1.mono fun v t h => (h.mono b3).mono c4) (hall2.mono fun v t h => h.mono c4)) ((b2.trans b3).trans c4)
end
end Ev
namespace Ev
open PySem PySem.Spec PyProof.Rows L2
theorem numM_lt {T : List Tk} {p m e : Nat} (h : numM T p m = .error e) : e = p := numM_err h
theorem numM_val {T : List Tk} {p m n : Nat} (hT : TokL T) (hk : kd T p = "number") (h : numM T p m = .ok n) : wo T p = .int (n : Nat) := by
  obtain ⟨v, hv⟩ := kd_number hT hk
  unfold numM at h
  rw [hv] at h ⊢
  split at h
  · injection h
  · next c =>
    injection h with h
    have h1 : ¬ v < 0 := fun z => c (.inr (.inl z))
    have h2 : v.toNat = n := h
    rw [← h2]
    congr 1
    omega
theorem numM_num {T : List Tk} {p m n : Nat} (h : numM T p m = .ok n) : kd T p = "number" := by
  unfold numM at h
  split at h
  · injection h
  · next c =>
    by_cases z : kd T p = "number"
    · exact z
    · exact absurd (.inl z) c
theorem not2 {a b : Prop} (h : ¬ (a ∨ b)) : ¬ a ∧ ¬ b := ⟨fun z => h (.inl z), fun z => h (.inr z)⟩
theorem tabM_lt {T : List Tk} {sc : SC} {e : Nat} (hT : TokL T) (h0 : kd T 0 = "word") (h : tabM T sc = .error e) : e < T.length := by
  have l1 : 1 < T.length := kd_ne hT h0 (by decide +kernel)
  unfold tabM at h
  split at h
  · injection h with h
    omega
  · next hc =>
    have h1 : kd T 1 = "word" := Decidable.not_not.mp (not2 hc).1
    have l2 : 2 < T.length := kd_ne hT h1 (by decide +kernel)
    rcases hq : numM T 2 8 with x | a
    · rw [hq] at h
      injection h with h
      rw [← h, numM_lt hq]
      exact l2
    · rw [hq] at h
      dsimp only at h
      have l3 : 3 < T.length := kd_ne hT (numM_num hq) (by decide +kernel)
      rcases hr : numM T 3 (8 - a) with x | b
      · rw [hr] at h
        injection h with h
        rw [← h, numM_lt hr]
        exact l3
      · rw [hr] at h
        dsimp only at h
        have l4 : 4 < T.length := kd_ne hT (numM_num hr) (by decide +kernel)
        split at h
        · injection h with h
          omega
        · injection h
theorem atomM_lt {T : List Tk} {sc : SC} {e : Nat} (hT : TokL T) (h0 : 0 < T.length) (h : atomM T sc = .error e) : e < T.length := by
  unfold atomM at h
  cases hn : nameM T sc with
  | none =>
    rw [hn] at h
    injection h with h
    omega
  | some kr =>
    obtain ⟨k, r⟩ := kr
    rw [hn] at h
    dsimp only at h
    have hw : kd T 0 = "word" := by
      unfold nameM at hn
      split at hn
      · next c => exact c
      · cases hn
    have l1 : 1 < T.length := kd_ne hT hw (by decide +kernel)
    split at h
    · injection h with h
      omega
    · next c1 =>
      have l2 : 2 < T.length := kd_ne hT (Decidable.not_not.mp c1) (by decide +kernel)
      rcases ex_or (termsN T 2 k) with ⟨x, ht⟩ | ⟨xs, q, ht⟩
      · rw [ht] at h
        injection h with h
        rw [← h]
        exact (terms_ok hT l2 k).2 x ht
      · rw [ht] at h
        dsimp only at h
        have lq := ((terms_ok hT l2 k).1 xs q ht).2.2
        split at h
        · injection h with h
          omega
        · next c2 =>
          have l3 : q + 1 < T.length := kd_ne hT (Decidable.not_not.mp c2) (by decide +kernel)
          rcases ex_or (termsN T (q + 1) r) with ⟨x, ht2⟩ | ⟨ys, q2, ht2⟩
          · rw [ht2] at h
            injection h with h
            rw [← h]
            exact (terms_ok hT l3 r).2 x ht2
          · rw [ht2] at h
            dsimp only at h
            have lq2 := ((terms_ok hT l3 r).1 ys q2 ht2).2.2
            split at h
            · injection h with h
              omega
            · injection h
theorem line_lt {T : List Tk} {sc : SC} {e : Nat} (hT : TokL T) (h0 : 0 < T.length) (h : lineM T sc = .at e) : e < T.length := by
  unfold lineM at h
  split at h
  · cases h
  · split at h
    · next c =>
      rcases ht : tabM T sc with x | ⟨n, k, r⟩
      · rw [ht] at h
        injection h with h
        rw [← h]
        exact tabM_lt hT c.1.1 ht
      · rw [ht] at h
        cases h
    · rcases ht : factM T sc with x | ⟨n, vs⟩
      · rw [ht] at h
        injection h with h
        rw [← h]
        unfold factM at ht
        rcases ha : atomM T sc with y | ⟨n', vs', p⟩
        · rw [ha] at ht
          injection ht with ht
          rw [← ht]
          exact atomM_lt hT h0 ha
        · rw [ha] at ht
          dsimp only at ht
          split at ht
          · injection ht with ht
            rw [← ht]
            exact (atomM_ok hT ha).2.2.2
          · injection ht
      · rw [ht] at h
        cases h
/-- what the law has read of a line stands at r -/
def LRes1 (H : Hp) (r : Addr) : Res → Prop
  | .blank => H r = some (.lst [.str "blank", .non])
  | .tab n k m => ∃ q, H r = some (.lst [.str "table", .ref q]) ∧ H q = some (.tup [.str n, .int (k : Nat), .int (m : Nat)])
  | .fact n vs => ∃ q, H r = some (.lst [.str "fact", .ref q]) ∧ FaAt H q (n, vs)
  | .at p => H r = some (.lst [.str "at", .int (p : Nat)])
section
variable {P : Program} {w : World} {K : PySem.W.Frag} {mg : Str → Option Value} {base : Heap}
/-! ### _law_read_line -/
def sp_l_read_line : Sp := fun vs H Q _ => ∃ pt ps T sc, vs = [.ref pt, .ref ps] ∧ LT H pt T ∧ LS H ps sc ∧ (∀ t ∈ sc, t.2.1 + t.2.2 ≤ 8) ∧ ∀ r H', LRes1 H' r (lineM T sc) → Bx [] H H' → Q (.ref r) H'
theorem ok_l_read_line (T : Tx K mg) : Cal P w K mg base CX0 3 "_law_read_line" ["_law_tokens_here", "_law_schema"] sp_l_read_line := by
  have H_l_table := ok_l_table (P := P) (w := w) (base := base) T
  have H_l_take_atom := ok_l_take_atom (P := P) (w := w) (base := base) T
  refine Cal.of T.d_l_read_line sc_l_read_line (fun vs H Q E h => ?len) (fun _ _ _ _ _ _ _ us hl => match us, hl with | [_, _], _ => rfl) (fun f cdv A outer s H vs Q E hr h => ?body)
  case len =>
    obtain ⟨pt, ps, T, sc, rfl, _⟩ := h
    rfl
  case body =>
    obtain ⟨pt, ps, TT, sc, rfl, R, S, h8, q⟩ := h
    refine ⟨_, PSs.nox (pss_cons (ps_if (pt_cmpR op_eq (pe_ix ix_tup (pe_ix ix_list (pv 0) pe_int (fun _ _ => rfl)) pe_int (fun _ _ => rfl)) pe_str (nomark _)) (pss_one (ps_ret (pe_lst (pa_cons pe_str (pa_cons pe_non pa_nil)))))
  pss_nil)
  (Evl.pss_cut (ps_set (i := 2) sc_l_read_line.nd rfl (Or.inl rfl) (pe_and (pe_cmpR op_eq (pe_ix ix_tup (pe_ix ix_list (pv 0) pe_int (fun _ _ => rfl)) pe_int (fun _ _ => rfl)) pe_str (nomark _)) (pe_one (pe_cmpR op_eq (pe_ix ix_tup (pe_ix ix_list (pv 0) pe_int (fun _ _ => rfl)) pe_int (fun _ _ => rfl)) pe_str (nomark _)))))
  (Evl.pss_cut (ps_if (PW.pt (pw_and (pt_val (pv 2)) (pw_and1 (PW.pt (pw_or (pt_cmpR op_ne (pe_ix ix_tup (pe_ix ix_list (pv 0) pe_int (fun _ _ => rfl)) pe_int (fun _ _ => rfl)) pe_str (nomark _)) (pw_or1 (pt_cmpR op_isN (pe_cal H_l_table (hr.mono (by decide)) pass0 (pa_cons (pv 1) (pa_cons pe_str pa_nil))) pe_non (nomark _)))))))) (pss_cons (ps_if (PW.pt (pw_or (pt_cmpR op_ne (pe_ix ix_tup (pe_ix ix_list (pv 0) pe_int (fun _ _ => rfl)) pe_int (fun _ _ => rfl)) pe_str (nomark _)) (pw_or1 (pt_cmpR op_notN (pe_cal H_l_table (hr.mono (by decide)) pass0 (pa_cons (pv 1) (pa_cons (pe_ix ix_tup (pe_ix ix_list (pv 0) pe_int (fun _ _ => rfl)) pe_int (fun _ _ => rfl)) pa_nil))) pe_non (nomark _))))) (pss_one (ps_ret (pe_lst (pa_cons pe_str (pa_cons pe_int pa_nil)))))
  pss_nil)
  (pss_cons (ps_set (i := 3) sc_l_read_line.nd rfl (Or.inl rfl) pe_int)
  (pss_cons (ps_for PassesOwn.never rfl (pi_list (pe_lst (pa_cons pe_int (pa_cons pe_int pa_nil)))) (pg_name (i := 4) sc_l_read_line.nd rfl (Or.inl rfl))
  (pss_cons (ps_if (PW.pt (pw_or (pt_cmpR op_ne (pe_ix ix_tup (pe_ix ix_list (pv 0) (pv 4) (fun _ _ => rfl)) pe_int (fun _ _ => rfl)) pe_str (nomark _)) (pw_or (pt_cmpR op_lt (pe_ix ix_tup (pe_ix ix_list (pv 0) (pv 4) (fun _ _ => rfl)) pe_int (fun _ _ => rfl)) pe_int (nomark _)) (pw_or1 (pt_cmpR op_gt (pe_op op_add (pv 3) (pe_ix ix_tup (pe_ix ix_list (pv 0) (pv 4) (fun _ _ => rfl)) pe_int (fun _ _ => rfl))) pe_int (nomark _)))))) (pss_one (ps_ret (pe_lst (pa_cons pe_str (pa_cons (pv 4) pa_nil)))))
  pss_nil)
  (pss_one (ps_set (i := 3) sc_l_read_line.nd rfl (Or.inl rfl) (pe_op op_add (pv 3) (pe_ix ix_tup (pe_ix ix_list (pv 0) (pv 4) (fun _ _ => rfl)) pe_int (fun _ _ => rfl)))))))
  (pss_cons (ps_if (pt_cmpR op_ne (pe_ix ix_tup (pe_ix ix_list (pv 0) pe_int (fun _ _ => rfl)) pe_int (fun _ _ => rfl)) pe_str (nomark _)) (pss_one (ps_ret (pe_lst (pa_cons pe_str (pa_cons pe_int pa_nil)))))
  pss_nil)
  (pss_one (ps_ret (pe_lst (pa_cons pe_str (pa_cons (pe_tup (pa_cons (pe_ix ix_tup (pe_ix ix_list (pv 0) pe_int (fun _ _ => rfl)) pe_int (fun _ _ => rfl)) (pa_cons (pe_ix ix_tup (pe_ix ix_list (pv 0) pe_int (fun _ _ => rfl)) pe_int (fun _ _ => rfl)) (pa_cons (pe_ix ix_tup (pe_ix ix_list (pv 0) pe_int (fun _ _ => rfl)) pe_int (fun _ _ => rfl)) pa_nil)))) pa_nil)))))))))
  pss_nil)
  (pss_cons (ps_set (i := 5) sc_l_read_line.nd rfl (Or.inl rfl) (pe_cal H_l_take_atom (hr.mono (by decide)) pass0 (pa_cons (pv 0) (pa_cons pe_int (pa_cons (pv 1) (pa_cons pe_bl pa_nil))))))
  (pss_cons (ps_if (PW.pt (pw_or (pt_cmpR op_isN (pe_ix ix_list (pv 5) pe_int (fun _ _ => rfl)) pe_non (nomark _)) (pw_or1 (pt_cmpR op_ne (pe_ix ix_seq (pe_ix ix_list (pv 0) (pe_ix ix_list (pv 5) pe_int (fun _ _ => rfl)) (fun _ _ => rfl)) pe_int (fun _ _ => rfl)) pe_str (nomark _))))) (pss_one (ps_ret (pe_lst (pa_cons pe_str (pa_cons (pe_ix ix_list (pv 5) pe_int (fun _ _ => rfl)) pa_nil)))))
  pss_nil)
  (pss_one (ps_ret (pe_lst (pa_cons pe_str (pa_cons (pe_tup (pa_cons (pe_ix ix_tup (pe_ix ix_list (pv 5) pe_int (fun _ _ => rfl)) pe_int (fun _ _ => rfl)) (pa_cons (pe_callTy call_tuple_of (by rfl) T.b_tuple boot_tuple (pa_cons (pe_lc (own := [("_law_term", 6)]) (g := gName 6) (by rfl) sc_l_read_line.nd (pi_tup (pe_ix ix_tup (pe_ix ix_list (pv 5) pe_int (fun _ _ => rfl)) pe_int (fun _ _ => rfl))) (blkOk_by (own := [("_law_term", 6)]) (N := n_l_read_line) (sc := defScope s_l_read_line) (by decide +kernel)) (fun _ _ _ _ _ => pg_name (i := 6) sc_l_read_line.nd rfl (Or.inl rfl)) (fun _ _ _ _ _ => pts_nil) (fun _ _ _ _ _ => (pe_ix (ix_tupK K) (pv 6) pe_int (fun _ _ => rfl)))) pa_nil)) pa_nil))) pa_nil)))))))))), ?_⟩
    obtain ⟨es, hps, hes, hall⟩ := S
    obtain ⟨ts, x, u, t1, t2, t3, t4⟩ := R.tok R.pos
    refine ⟨_, rfl, pt, ts, _, _, rfl, rfl, SqL.of t1, t2, x, _, _, _, rfl, rfl, SqT.of t3, rfl, rfl, _, rfl, ite2 (fun h1 => ?_) (fun h1 => ?_)⟩
    · have z : kd TT 0 = "end" := V.str.inj (of_decide_eq_true h1)
      refine ⟨by show 2 ≤ sizeLine; decide, fun r hr0 => q r _ ?_ (.new hr0)⟩
      rw [line_blank z]
      exact upd_same
    have h0 : kd TT 0 ≠ "end" := fun e => h1 (decide_eq_true (congrArg V.str e))
    have l1 : 1 < TT.length := kd_ne R.2 rfl h0
    obtain ⟨ts1, x1, u1, s1, s2, s3, s4⟩ := R.tok l1
    refine ⟨fun σ H' => σ = [some (.ref pt), some (.ref ps), some (.bl (decide (kd TT 0 = "word" ∧ wo TT 0 = .str "table"))), none, none, none, none] ∧ H' = H, ?_, ?_⟩
    · refine ⟨_, rfl, pt, ts, _, _, rfl, rfl, SqL.of t1, t2, x, _, _, _, rfl, rfl, SqT.of t3, rfl, rfl, _, rfl, ite2 (fun h2 => ?_) (fun h2 => ?_)⟩
      · have z : kd TT 0 = "word" := V.str.inj (of_decide_eq_true h2)
        obtain ⟨y, hy, wy⟩ := kd_word R.2 z
        have hu : u = .str y := (t4 (by rw [z]; decide +kernel)).trans hy
        subst hu
        refine ⟨_, rfl, pt, ts, _, _, rfl, rfl, SqL.of t1, t2, x, _, _, _, rfl, rfl, SqT.of t3, rfl, rfl, ?_⟩
        refine ⟨congrArg (fun b => [some (V.ref pt), some (.ref ps), some (.bl b), none, none, none, none]) ?_, rfl⟩
        rw [hy]
        by_cases c : V.str y = V.str "table"
        · rw [decide_eq_true c, decide_eq_true ⟨z, c⟩]
        · rw [decide_eq_false c, decide_eq_false fun w => c w.2]
      · have z : kd TT 0 ≠ "word" := fun e => h2 (decide_eq_true (congrArg V.str e))
        refine ⟨congrArg (fun b => [some (V.ref pt), some (.ref ps), some (.bl b), none, none, none, none]) ?_, rfl⟩
        rw [decide_eq_false fun w => z w.1]
    rintro σ H ⟨rfl, rfl⟩
    refine ⟨fun σ H' => ∃ y2, σ = [some (.ref pt), some (.ref ps), y2, none, none, none, none] ∧ H' = H ∧ ¬ isTab TT sc, ?_, ?_⟩
    · refine ⟨_, rfl, _, rfl, ite2 (fun hb => ?_) (fun hb => iteF ⟨_, rfl, rfl, fun z => hb (decide_eq_true z.1)⟩)⟩
      have hb0 := of_decide_eq_true hb
      by_cases hT : isTab TT sc
      · by_cases c1 : kd TT 1 = "("
        case' pos =>
          have hn : tabF sc "table" = none := hT.2.elim (fun z => absurd c1 z) id
          have hf : findT es "table" = .non := (find_of (n := "table") hes hall).elim (fun z => z.2) fun ⟨_, _, _, z, _⟩ => by rw [hn] at z; cases z
          refine ⟨_, rfl, pt, ts1, _, _, rfl, rfl, SqL.of s1, s2, x1, _, _, _, rfl, rfl, SqT.of s3, rfl, rfl, _, rfl, ite2 (fun h3 => absurd (congrArg V.str c1) (of_nd h3)) (fun h3 => ?_)⟩
          refine ⟨_, rfl, ps, "table", es, rfl, .inl hps, hes, rfl, _, rfl, ite2 (fun _ => ?_) (fun h4 => absurd (decide_eq_true hf) h4)⟩
        case' neg =>
          refine ⟨_, rfl, pt, ts1, _, _, rfl, rfl, SqL.of s1, s2, x1, _, _, _, rfl, rfl, SqT.of s3, rfl, rfl, _, rfl, ite2 (fun h3 => iteT ?_) (fun h3 => absurd (V.str.inj (of_nnd h3)) c1)⟩
        all_goals
          have tabE : ∀ e, tabM TT sc = .error e → ∀ r H', H' r = some (.lst [.str "at", .int (e : Nat)]) → Bx [] H H' → Q (.ref r) H' := fun e he r H' hr0 b => q r H' (by
            rw [line_tab hT, he]
            exact hr0) b
          refine ⟨_, rfl, pt, ts1, _, _, rfl, rfl, SqL.of s1, s2, x1, _, _, _, rfl, rfl, SqT.of s3, rfl, rfl, _, rfl, ite2 (fun h5 => iteT ?_) (fun h5 => ?_)⟩
          · have z : kd TT 1 ≠ "word" := fun e => of_nd h5 (congrArg V.str e)
            refine ⟨by show 2 ≤ sizeLine; decide, fun r hr0 => tabE 1 ?_ r _ upd_same (.new hr0)⟩
            unfold tabM
            rw [if_pos (.inl z)]
          have z1 : kd TT 1 = "word" := V.str.inj (of_nnd h5)
          obtain ⟨y, hy, wy⟩ := kd_word R.2 z1
          have hu1 : u1 = .str y := (s4 (by rw [z1]; decide +kernel)).trans hy
          subst hu1
          have l2 : 2 < TT.length := kd_ne R.2 z1 (by decide +kernel)
          have hfy := find_of (n := y) hes hall
          refine ⟨_, rfl, _, rfl, pt, ts1, _, _, rfl, rfl, SqL.of s1, s2, x1, _, _, _, rfl, rfl, SqT.of s3, rfl, ps, y, es, rfl, .inl hps, hes, rfl, _, rfl, ite2 (fun h6 => ?_) (fun h6 => ?_)⟩
          · have z : tabF sc y ≠ none := fun e => hfy.elim (fun w => of_nd h6 w.2) fun ⟨_, _, _, w, _⟩ => by rw [e] at w; cases w
            refine ⟨by show 2 ≤ sizeLine; decide, fun r hr0 => tabE 1 ?_ r _ upd_same (.new hr0)⟩
            unfold tabM
            rw [if_pos (.inr (by rw [hy]; exact z))]
          have z2 : tabF sc y = none := hfy.elim (fun w => w.1) fun ⟨_, _, _, _, w, _⟩ => by
            have := of_nnd h6
            rw [w] at this
            cases this
          have hnot : ¬ (kd TT 1 ≠ "word" ∨ tabF sc (nm (wo TT 1)) ≠ none) := fun z => z.elim (fun z => z z1) (fun z => z (by rw [hy]; exact z2))
          have em : tabM TT sc = (match numM TT 2 8 with
            | .error e => .error e
            | .ok k => match numM TT 3 (8 - k) with
              | .error e => .error e
              | .ok r => if kd TT 4 ≠ "end" then .error 4 else .ok (nm (wo TT 1), k, r)) := by
            unfold tabM
            rw [if_neg hnot]
            all_goals rfl
          refine ⟨by show 2 ≤ sizeLine; decide, fun pl hpl => ⟨pl, rfl, ⟨_, SqL.of upd_same⟩, for_list (K := K) (a := pl) (xs := [.int 2, .int 3]) (fun i σ H' => ∃ (tot : Nat) (y4 : Option V), σ = [some (.ref pt), some (.ref ps), some (.bl (decide (kd TT 0 = "word" ∧ wo TT 0 = .str "table"))), some (.int (tot : Nat)), y4, none, none] ∧ H' = upd H pl (.lst [.int 2, .int 3]) ∧ tot ≤ 8 ∧
            (i = 0 → tot = 0) ∧ (i = 1 → numM TT 2 8 = .ok tot) ∧ (i = 2 → ∃ k r, numM TT 2 8 = .ok k ∧ numM TT 3 (8 - k) = .ok r)) ⟨0, none, rfl, rfl, by omega, fun _ => rfl, (fun z => nomatch z), (fun z => nomatch z)⟩ (fun i σ H' _ ⟨_, _, _, e, _⟩ => by rw [e]; exact SqL.of upd_same) ?_ ?_⟩⟩
          · rintro i v σ H1 hv ⟨tot, y4, rfl, rfl, t8, c0, c1', c2⟩
            have hi : i < 2 := (List.getElem?_eq_some_iff.mp hv).1
            have ev : v = .int ((2 + i : Nat) : Int) := by
              rcases (by omega : i = 0 ∨ i = 1) with e | e
              · subst e
                exact (Option.some.inj hv).symm
              · subst e
                exact (Option.some.inj hv).symm
            subst ev
            have lp : 2 + i < TT.length := by
              rcases (by omega : i = 0 ∨ i = 1) with e | e
              · subst e
                exact l2
              · subst e
                exact kd_ne R.2 (numM_num (c1' rfl)) (by decide +kernel)
            have bad : ∀ e, numM TT (2 + i) (8 - tot) = .error e → tabM TT sc = .error (2 + i) := fun e he => by
              rw [em]
              rcases (by omega : i = 0 ∨ i = 1) with e1 | e1
              · subst e1
                rw [c0 rfl] at he
                have he2 : numM TT 2 8 = .error e := he
                rw [he2, numM_lt he2]
              · subst e1
                rw [c1' rfl]
                dsimp only
                have he2 : numM TT 3 (8 - tot) = .error e := he
                rw [he2, numM_lt he2]
            have bl : Bx [] H (upd H pl (.lst [.int 2, .int 3])) := .new hpl
            obtain ⟨tp, xp, up, p1, p2, p3, p4⟩ := (R.mono bl).tok lp
            have fail : (kd TT (2 + i) ≠ "number" ∨ it (wo TT (2 + i)) < 0 ∨ ((8 - tot : Nat) : Int) < it (wo TT (2 + i))) → ∀ r, upd H pl (.lst [.int 2, .int 3]) r = none → Q (.ref r) (upd (upd H pl (.lst [.int 2, .int 3])) r (.lst [.str "at", .int ((2 + i : Nat) : Int)])) := fun z r hr0 => tabE (2 + i) (bad (2 + i) (by
              unfold numM
              rw [if_pos z])) r _ upd_same (bl.trans (.new hr0))
            refine ⟨_, rfl, _, rfl, pt, tp, _, _, rfl, rfl, SqL.of p1, p2, xp, _, _, _, rfl, rfl, SqT.of p3, rfl, rfl, _, rfl, ite2 (fun h7 => iteT ?_) (fun h7 => ?_)⟩
            · exact ⟨_, rfl, by show 2 ≤ sizeLine; decide, fun r hr0 => fail (.inl fun e => of_nd h7 (congrArg V.str e)) r hr0⟩
            have zn : kd TT (2 + i) = "number" := V.str.inj (of_nnd h7)
            obtain ⟨g, hg⟩ := kd_number R.2 zn
            have hup : up = .int g := (p4 (by rw [zn]; decide +kernel)).trans hg
            subst hup
            rw [hg] at fail
            refine ⟨_, rfl, _, rfl, pt, tp, _, _, rfl, rfl, SqL.of p1, p2, xp, _, _, _, rfl, rfl, SqT.of p3, rfl, _, _, rfl, rfl, _, rfl, ite2 (fun h8 => iteT ?_) (fun h8 => ?_)⟩
            · exact ⟨_, rfl, by show 2 ≤ sizeLine; decide, fun r hr0 => fail (.inr (.inl (of_decide_eq_true h8))) r hr0⟩
            have z8 : ¬ g < 0 := fun z => h8 (decide_eq_true z)
            refine ⟨_, rfl, _, rfl, _, rfl, pt, tp, _, _, rfl, rfl, SqL.of p1, p2, xp, _, _, _, rfl, rfl, SqT.of p3, rfl, _, _, rfl, rfl, _, _, rfl, rfl, _, rfl, ite2 (fun h9 => ?_) (fun h9 => ?_)⟩
            · have z9 : (8 : Int) < (tot : Int) + g := of_decide_eq_true h9
              exact ⟨_, rfl, by show 2 ≤ sizeLine; decide, fun r hr0 => fail (.inr (.inr (by
                show ((8 - tot : Nat) : Int) < g
                omega))) r hr0⟩
            · have z9 : ¬ (8 : Int) < (tot : Int) + g := fun z => h9 (decide_eq_true z)
              have good : numM TT (2 + i) (8 - tot) = .ok g.toNat := by
                unfold numM
                rw [hg, if_neg fun z => z.elim (fun z => z zn) fun z => z.elim z8 fun z => by
                  have z' : ((8 - tot : Nat) : Int) < g := z
                  omega]
                rfl
              refine ⟨_, rfl, _, rfl, _, rfl, pt, tp, _, _, rfl, rfl, SqL.of p1, p2, xp, _, _, _, rfl, rfl, SqT.of p3, rfl, _, _, rfl, rfl, tot + g.toNat, _, congrArg (fun j => [some (V.ref pt), some (.ref ps), some (.bl (decide (kd TT 0 = "word" ∧ wo TT 0 = .str "table"))), some (.int j), some (.int ((2 + i : Nat) : Int)), none, none]) (by omega), rfl, by omega, fun z => (by omega), fun z => ?_, fun z => ?_⟩
              · have e1 : i = 0 := by omega
                subst e1
                have e2 := c0 rfl
                subst e2
                rw [Nat.zero_add]
                exact good
              · have e1 : i = 1 := by omega
                subst e1
                exact ⟨tot, g.toNat, c1' rfl, good⟩
          · rintro σ H1 ⟨tot, y4, rfl, rfl, t8, c0, c1', c2⟩
            obtain ⟨kk, rr, hk, hr2⟩ := c2 rfl
            have bl : Bx [] H (upd H pl (.lst [.int 2, .int 3])) := .new hpl
            have R1 := R.mono bl
            have n2 := numM_num hk
            have n3 := numM_num hr2
            have l3 : 3 < TT.length := kd_ne R.2 n2 (by decide +kernel)
            have l4 : 4 < TT.length := kd_ne R.2 n3 (by decide +kernel)
            obtain ⟨w1, v1, g1, p1, p2, p3, p4⟩ := R1.tok l1
            obtain ⟨w2, v2, g2, q1, q2, q3, q4⟩ := R1.tok l2
            obtain ⟨w3, v3, g3, o1, o2, o3, o4⟩ := R1.tok l3
            obtain ⟨w4, v4, g4, m1, m2, m3, m4⟩ := R1.tok l4
            refine ⟨_, rfl, pt, w4, _, _, rfl, rfl, SqL.of m1, m2, v4, _, _, _, rfl, rfl, SqT.of m3, rfl, rfl, _, rfl, ite2 (fun h7 => ?_) (fun h7 => ?_)⟩
            · have z : kd TT 4 ≠ "end" := fun e => of_nd h7 (congrArg V.str e)
              refine ⟨by show 2 ≤ sizeLine; decide, fun r hr0 => tabE 4 ?_ r _ upd_same (bl.trans (.new hr0))⟩
              rw [em, hk]
              dsimp only
              rw [hr2]
              dsimp only
              rw [if_pos z]
            · have z : kd TT 4 = "end" := V.str.inj (of_nnd h7)
              have hok : tabM TT sc = .ok (y, kk, rr) := by
                rw [em, hk]
                dsimp only
                rw [hr2]
                dsimp only
                rw [if_neg fun c => c z, hy]
                rfl
              have hg1 : g1 = .str y := (p4 (by rw [z1]; decide +kernel)).trans hy
              have hg2 : g2 = .int (kk : Nat) := (q4 (by rw [n2]; decide +kernel)).trans (numM_val R.2 n2 hk)
              have hg3 : g3 = .int (rr : Nat) := (o4 (by rw [n3]; decide +kernel)).trans (numM_val R.2 n3 hr2)
              subst hg1 hg2 hg3
              refine ⟨_, rfl, pt, w1, _, _, rfl, rfl, SqL.of p1, p2, v1, _, _, _, rfl, rfl, SqT.of p3, rfl, _, rfl, pt, w2, _, _, rfl, rfl, SqL.of q1, q2, v2, _, _, _, rfl, rfl, SqT.of q3, rfl, _, rfl, pt, w3, _, _, rfl, rfl, SqL.of o1, o2, v3, _, _, _, rfl, rfl, SqT.of o3, rfl, by show 3 ≤ sizeLine; decide, fun y0 hy0 => ?_⟩
              refine ⟨by show 2 ≤ sizeLine; decide, fun r hr0 => q r _ ?_ ((bl.trans (.new hy0)).trans (.new hr0))⟩
              rw [line_tab hT, hok]
              exact ⟨y0, upd_same, (Bx.new (D := []) hr0).t _ _ upd_same⟩
      · have c1 : kd TT 1 = "(" := Decidable.not_not.mp fun z => hT ⟨hb0, .inl z⟩
        have hn : tabF sc "table" ≠ none := fun z => hT ⟨hb0, .inr z⟩
        have hf : findT es "table" ≠ .non := (find_of (n := "table") hes hall).elim (fun z => absurd z.1 hn) fun ⟨_, _, _, _, z, _⟩ => by rw [z]; exact fun w => nomatch w
        refine ⟨_, rfl, pt, ts1, _, _, rfl, rfl, SqL.of s1, s2, x1, _, _, _, rfl, rfl, SqT.of s3, rfl, rfl, _, rfl, ite2 (fun h3 => absurd (congrArg V.str c1) (of_nd h3)) (fun h3 => ?_)⟩
        refine ⟨_, rfl, ps, "table", es, rfl, .inl hps, hes, rfl, _, rfl, ite2 (fun h4 => absurd (of_decide_eq_true h4) hf) (fun h4 => ?_)⟩
        exact ⟨_, rfl, rfl, hT⟩
    · rintro σ H ⟨y2, rfl, rfl, hT⟩
      have h8' := h8
      refine ⟨_, rfl, _, rfl, pt, ps, TT, sc, rfl, R, ⟨es, hps, hes, hall⟩, h8, fun e he r1 H1 hr1 b1 => ?_, fun n xs p hx r1 a1 t1' H1 us hr1 ha1 ht1' hall1 b1 => ?_⟩
      · have hf : lineM TT sc = .at e := by
          rw [line_fact hT h0]
          unfold factM
          rw [he]
        refine ⟨_, rfl, r1, _, _, _, rfl, rfl, SqL.of hr1, rfl, rfl, _, rfl, ite2 (fun _ => iteT ?_) (fun h2 => absurd (decide_eq_true rfl) h2)⟩
        refine ⟨_, rfl, r1, _, _, _, rfl, rfl, SqL.of hr1, rfl, by show 2 ≤ sizeLine; decide, fun r' hr0 => q r' _ ?_ (b1.trans (.new hr0))⟩
        rw [hf]
        exact upd_same
      · have lp := (atomM_ok R.2 hx).2.2.2
        have R1 := R.mono b1
        obtain ⟨ts2, x2, u2, e1, e2, e3, e4⟩ := R1.tok lp
        refine ⟨_, rfl, r1, _, _, _, rfl, rfl, SqL.of hr1, rfl, rfl, _, rfl, ite2 (fun h2 => by have := of_decide_eq_true h2; cases this) (fun _ => ?_)⟩
        refine ⟨_, rfl, _, rfl, r1, _, _, _, rfl, rfl, SqL.of hr1, rfl, pt, ts2, _, _, rfl, rfl, SqL.of e1, e2, .inr (.inl ⟨x2, _, _, _, rfl, rfl, SqT.of e3, rfl, rfl, _, rfl, ite2 (fun h2 => ?_) (fun h2 => ?_)⟩)⟩
        · have z : kd TT p ≠ "end" := fun e => of_nd h2 (congrArg V.str e)
          have hf : lineM TT sc = .at p := by
            rw [line_fact hT h0]
            unfold factM
            rw [hx]
            dsimp only
            rw [if_pos z]
          refine ⟨_, rfl, r1, _, _, _, rfl, rfl, SqL.of hr1, rfl, by show 2 ≤ sizeLine; decide, fun r' hr0 => q r' _ ?_ (b1.trans (.new hr0))⟩
          rw [hf]
          exact upd_same
        · have z : kd TT p = "end" := V.str.inj (of_nnd h2)
          have hf : lineM TT sc = .fact n xs := by
            rw [line_fact hT h0]
            unfold factM
            rw [hx]
            dsimp only
            rw [if_neg fun c => c z]
          refine ⟨_, rfl, r1, _, _, _, rfl, rfl, SqL.of hr1, rfl, a1, _, _, _, rfl, rfl, SqT.of ha1, rfl, _, rfl, r1, _, _, _, rfl, rfl, SqL.of hr1, rfl, a1, _, _, _, rfl, rfl, SqT.of ha1, rfl, t1', rfl, ⟨_, SqT.of ht1'⟩, fun D hD => ?_⟩
          have hl8 : us.length ≤ 8 := by
            obtain ⟨_, ⟨k, r, g1, g2⟩, _⟩ := atomM_ok R.2 hx
            rw [hall1.len, g2]
            exact tab_le h8 g1
          refine lc_tup (K := K) (a := t1') (xs := us) (fun j H' => H' D = some (.lst (xs.take j)) ∧ Bx [] H1 H') ⟨upd_same, .new hD⟩ (fun i H' _ p => SqT.of (p.2.t _ _ ht1')) ?_ ?_
          · rintro j v H2 hv ⟨hD2, b2⟩
            have hj : j < xs.length := by
              rw [← hall1.len]
              exact (List.getElem?_eq_some_iff.mp hv).1
            obtain ⟨v', hv', q5, e5, hq5⟩ := hall1.get (get_lt hj)
            rw [hv] at hv'
            cases hv'
            subst e5
            refine ⟨rfl, tyes ?_⟩
            refine ⟨_, rfl, q5, _, _, _, rfl, rfl, SqT.of (b2.t _ _ hq5), rfl, xs.take j, hD2, sz_lt (by rw [List.length_take]; have := hall1.len; omega), ?_, Bx.mut b2 (.inr hD) hD2⟩
            rw [upd_same, List.take_add_one, get_lt hj]
            rfl
          · rintro H2 ⟨hD2, b2⟩
            rw [hall1.len, List.take_length] at hD2
            refine ⟨D, xs, rfl, .inl ⟨SqL.of hD2, fun t ht => ?_⟩⟩
            refine ⟨by show 2 ≤ sizeLine; decide, fun y hy0 => ?_⟩
            refine ⟨by show 2 ≤ sizeLine; decide, fun r' hr0 => q r' _ ?_ ((((b1.trans b2).trans (.new ht)).trans (.new hy0)).trans (.new hr0))⟩
            rw [hf]
            exact ⟨y, upd_same, t, (Bx.new (D := []) hr0).t _ _ upd_same, ((Bx.new (D := []) hy0).trans (.new hr0)).t _ _ upd_same⟩
end
end Ev
namespace Ev
open PySem PySem.W PySem.Calls PyProof.Rows PySem.Spec L2
/-! ## sorted(schema): tables by their names -/
def encT (e : TE4) : PyData := .tuple [.str e.2.1, .int e.2.2.1, .int e.2.2.2]
theorem encT_lt {a b : TE4} (h : b.2.1.cps.toList < a.2.1.cps.toList) : dataLt (encT b) (encT a) = true := by
  unfold encT
  rw [dataLt_tuple, dataLt_cons (by simp [alike]), dataLt_str]
  have e : PyData.eqv (.str b.2.1) (.str a.2.1) = false := by
    have : b.2.1 ≠ a.2.1 := fun z => by
      rw [z] at h
      exact absurd h (List.lt_irrefl _)
    simp [PyData.eqv, this]
  rw [e, if_neg Bool.false_ne_true]
  exact decide_eq_true h
theorem sortedT_by {bs : List TE4} : (bs.mergeSort (dataLe false encT)).Perm bs ∧ (bs.mergeSort (dataLe false encT)).Pairwise fun a b => ¬ b.2.1.cps.toList < a.2.1.cps.toList := by
  have T := sortLe_total (listOrd itemOrd) false fun b : TE4 => keyToks (encT b)
  refine ⟨List.mergeSort_perm _ _, ?_⟩
  have hs : (bs.mergeSort (dataLe false encT)).Pairwise fun a b => dataLe false encT a b = true := List.pairwise_mergeSort T.trans (fun a b => Bool.or_eq_true_iff.mpr (T.total a b)) bs
  refine hs.imp fun {a b} h z => ?_
  have h2 : (!dataLt (encT b) (encT a)) = true := h
  rw [encT_lt z] at h2
  cases h2
theorem vals_eachT : ∀ {bs : List TE4} {its : List Value}, Vals (refsT bs) its → EachIs (fun (v : Value) (b : TE4) => v = .ref b.1) its bs
  | [], _, r => by cases r; exact .nil
  | b :: bs, _, r => by
    cases r with
    | cons r1 r2 =>
      cases r1
      exact .cons rfl (vals_eachT r2)
theorem each_valsT : ∀ {bs : List TE4} {its : List Value}, EachIs (fun (v : Value) (b : TE4) => v = .ref b.1) its bs → Vals (refsT bs) its
  | [], _, h => by cases h; exact .nil
  | b :: bs, _, h => by
    cases h with
    | cons h1 h2 =>
      subst h1
      exact .cons rfl (each_valsT h2)
def rST (K : PySem.W.Frag) : List V → Hp → VK → Prop := fun vs H Q => ∃ (a : Addr) (bs : List TE4), vs = [.ref a] ∧ SqL K H a (refsT bs) ∧ (∀ e ∈ bs, TabAt H e) ∧ ∀ p, H p = none → Q (.ref p) (upd H p (.lst (refsT (bs.mergeSort (dataLe false encT)))))
theorem cr_sortedT {X : Cx} (hu : X.A.units + 3 < cLine) : CallR X (.builtin "sorted") (rST X.K) := by
  intro pins s σ H vs us Q I r h
  obtain ⟨a, bs, rfl, hs, hb, q⟩ := h
  obtain ⟨its, rv, hl, hz⟩ := I.list hs
  rw [Vals.ref1 r]
  have ev := vals_eachT rv
  have er : EachIs (fun (v : Value) (b : TE4) => ∃ as, Reads s.heap v (encT b) as) its bs := (each_mem ev).mono fun v b ⟨e, hm⟩ => by
    subst e
    exact Dp.reads I _ _ _ (.tup (SqT.of (hb b hm)) (.cons (.str _) (.cons (.int _) (.cons (.int _) .nil)))) rfl
  refine sorted_data (R := fun (v : Value) (b : TE4) => v = .ref b.1) hl.isList ev er (AllAlike.of fun x y => by simp [encT, alike, alikeAll]) (Sortable.tuples fun x => ⟨_, _, rfl⟩) (by rw [← ev.length, ← rv.length]; exact hz) (fun b _ => ?_) fun out h1 h2 => ?_
  · have : (encT b).depth = 1 := by simp [encT, PyData.depth, PyData.depthAll]
    omega
  · obtain ⟨ep, he'⟩ := PyProof.Rows.sortedAll_at s.heap its out.toArray
    have hlen : (refsT (bs.mergeSort (dataLe false encT))).length ≤ sizeLine := by
      unfold refsT at hz ⊢
      rw [List.length_map] at hz
      rw [List.length_map, List.length_mergeSort]
      exact hz
    exact ⟨.ref _, upd H (s.heap.objs.size + 1) (.lst (refsT (bs.mergeSort (dataLe false encT)))), I.laid (t' := s.toks) (fun _ _ => PyProof.Rows.sortedAll_old) (Nat.le_succ _) ⟨hlen, out, ep, each_valsT h2, he'⟩, rfl, q _ (I.hok.fresh (Nat.le_succ _))⟩
/-! ### a fact as data -/
def vdat : V → PyData
  | .int i => .int i
  | .str s => .str s
  | _ => .none
def fdat (f : Fa) : PyData := .tuple [.str f.1, .tuple (f.2.map vdat)]
theorem vdat_ok {v : V} (h : Val v) : (vdat v).canLay0 = true ∧ (vdat v).depth = 0 := h.cases (fun i e => by subst e; exact ⟨rfl, rfl⟩) fun y e hy => by
  subst e
  exact ⟨strOk_of hy.low, rfl⟩
theorem vdats_ok : ∀ {xs : List V}, (∀ v ∈ xs, Val v) → PyData.canLayAll0 (xs.map vdat) = true ∧ PyData.depthAll (xs.map vdat) = 0
  | [], _ => by simp [PyData.canLayAll0, PyData.depthAll]
  | v :: xs, h => by
    obtain ⟨i1, i2⟩ := vdats_ok (xs := xs) fun y hy => h y (List.mem_cons_of_mem _ hy)
    obtain ⟨j1, j2⟩ := vdat_ok (h v List.mem_cons_self)
    rw [List.map_cons, PyData.canLayAll0, PyData.depthAll, i1, j1, j2, i2]
    exact ⟨rfl, rfl⟩
theorem fdat_ok {f : Fa} (h : FaW f) : (fdat f).canLay0 = true ∧ (fdat f).depth = 2 := by
  obtain ⟨l1, l2⟩ := vdats_ok h.2
  have l3 := strOk_of h.1.low
  exact ⟨by simp [fdat, PyData.canLay0, PyData.canLayAll0, l1, l3], by simp [fdat, PyData.depth, PyData.depthAll, l2]⟩
theorem fdats_ok : ∀ {bs : List (Fa × Addr)}, (∀ b ∈ bs, FaW b.1) → PyData.canLayAll0 (bs.map fun b => fdat b.1) = true ∧ PyData.depthAll (bs.map fun b => fdat b.1) ≤ 2
  | [], _ => by simp [PyData.canLayAll0, PyData.depthAll]
  | v :: xs, h => by
    obtain ⟨i1, i2⟩ := fdats_ok (bs := xs) fun y hy => h y (List.mem_cons_of_mem _ hy)
    obtain ⟨j1, j2⟩ := fdat_ok (h v List.mem_cons_self)
    rw [List.map_cons, PyData.canLayAll0, PyData.depthAll, i1, j1, j2]
    exact ⟨rfl, by omega⟩
theorem vdat_eqv {v u : V} (hv : Val v) (hu : Val u) : PyData.eqv (vdat v) (vdat u) = decide (v = u) := by
  refine hv.cases (fun i e => ?_) (fun y e _ => ?_) <;> refine hu.cases (fun j e2 => ?_) (fun z e2 _ => ?_) <;> subst e e2 <;> rw [Bool.eq_iff_iff] <;> simp [vdat, PyData.eqv]
theorem vdats_eqv : ∀ {xs ys : List V}, (∀ v ∈ xs, Val v) → (∀ v ∈ ys, Val v) → PyData.eqvAll (xs.map vdat) (ys.map vdat) = decide (xs = ys)
  | [], [], _, _ => by simp [PyData.eqvAll]
  | [], y :: ys, _, _ => by simp [PyData.eqvAll]
  | x :: xs, [], _, _ => by simp [PyData.eqvAll]
  | x :: xs, y :: ys, hx, hy => by
    rw [List.map_cons, List.map_cons, PyData.eqvAll, vdat_eqv (hx x List.mem_cons_self) (hy y List.mem_cons_self), vdats_eqv (fun v hv => hx v (List.mem_cons_of_mem _ hv)) (fun v hv => hy v (List.mem_cons_of_mem _ hv)), Bool.eq_iff_iff]
    simp
theorem fdat_eqv {f g : Fa} (hf : FaW f) (hg : FaW g) : PyData.eqv (fdat f) (fdat g) = decide (f = g) := by
  obtain ⟨n, xs⟩ := f
  obtain ⟨m, ys⟩ := g
  rw [Bool.eq_iff_iff]
  simp [fdat, PyData.eqv, PyData.eqvAll, vdats_eqv hf.2 hg.2]
section
variable {K : PySem.W.Frag} {H : Hp}
theorem v_dp {v : V} (hv : Val v) : Dp K H v (vdat v) := by
  refine hv.cases (fun i e => ?_) (fun y e _ => ?_)
  · subst e
    exact .int _
  · subst e
    exact .str _
theorem vs_dp : ∀ {xs : List V}, (∀ v ∈ xs, Val v) → DpAll K H xs (xs.map vdat)
  | [], _ => .nil
  | v :: xs, hv => .cons (v_dp (hv v List.mem_cons_self)) (vs_dp fun y hy => hv y (List.mem_cons_of_mem _ hy))
theorem f_dp {q : Addr} {f : Fa} (hv : ∀ v ∈ f.2, Val v) (h : FaAt H q f) : Dp K H (.ref q) (fdat f) := by
  obtain ⟨r, h1, h2⟩ := h
  exact .tup (SqT.of h1) (.cons (.str _) (.cons (.tup (SqT.of h2) (vs_dp hv)) .nil))
theorem fs_dp : ∀ {bs : List (Fa × Addr)}, (∀ b ∈ bs, FaAt H b.2 b.1 ∧ FaW b.1) → DpAll K H (bs.map fun b => V.ref b.2) (bs.map fun b => fdat b.1)
  | [], _ => .nil
  | b :: bs, h => .cons (f_dp (h b List.mem_cons_self).2.2 (h b List.mem_cons_self).1) (fs_dp fun y hy => h y (List.mem_cons_of_mem _ hy))
/-- a value's key as the law makes it -/
def kb : V → Int
  | .str _ => 1
  | _ => 0
def KvL (H : Hp) (u v : V) : Prop := ∃ p, u = .ref p ∧ H p = some (.tup [.int (kb v), v])
theorem KvL.mono {D : List Addr} {H H' : Hp} {u v : V} (h : KvL H u v) (b : Bx D H H') : KvL H' u v := by
  obtain ⟨p, e, hp⟩ := h
  exact ⟨p, e, b.t _ _ hp⟩
theorem kl_dp {u v : V} (hv : Val v) (h : KvL H u v) : Dp K H u (encL2 v) := by
  obtain ⟨p, rfl, hp⟩ := h
  refine hv.cases (fun i e => ?_) (fun y e _ => ?_)
  · subst e
    exact .tup (SqT.of hp) (.cons (.int _) (.cons (.int _) .nil))
  · subst e
    exact .tup (SqT.of hp) (.cons (.int _) (.cons (.str _) .nil))
theorem kls_dp : ∀ {us xs : List V}, (∀ v ∈ xs, Val v) → All2 (KvL H) us xs → DpAll K H us (xs.map encL2)
  | [], [], _, _ => .nil
  | [], _ :: _, _, h => h.elim
  | _ :: _, [], _, h => h.elim
  | u :: us, v :: xs, hv, h => .cons (kl_dp (hv v List.mem_cons_self) h.1) (kls_dp (fun y hy => hv y (List.mem_cons_of_mem _ hy)) h.2)
end
/-! ### keys of the law's facts -/
section
variable {P : Program} {w : World} {K : PySem.W.Frag} {mg : Str → Option Value} {base : Heap}
def sp_l_key : Sp := fun vs H Q _ => ∃ v, vs = [v] ∧ Val v ∧ ∀ p H', H' p = some (.tup [.int (kb v), v]) → Bx [] H H' → Q (.ref p) H'
theorem ok_l_key (T : Tx K mg) : Cal P w K mg base CX0 1 "_law_key" ["_law_value"] sp_l_key := by
  refine Cal.of T.d_l_key sc_l_key (fun vs H Q E h => ?len) (fun _ _ _ _ _ _ _ us hl => match us, hl with | [_], _ => rfl) (fun f cdv A outer s H vs Q E hr h => ?body)
  case len =>
    obtain ⟨v, rfl, _⟩ := h
    rfl
  case body =>
    obtain ⟨v, rfl, hv, q⟩ := h
    refine ⟨_, PSs.nox (pss_one (ps_ret (pe_tup (pa_cons (pe_callTy call_int1 (by rfl) T.b_int boot_int (pa_cons (pe_callB call_isi (by rfl) T.b_isinstance boot_isinstance (pa_cons (pv 0) (pa_cons (pe_bltn (v := .ty "str") (by rfl) T.b_str boot_str rfl) pa_nil))) pa_nil)) (pa_cons (pv 0) pa_nil))))), ?_⟩
    refine hv.cases (fun i e => ?_) (fun y e hy => ?_)
    · subst e
      refine ⟨_, rfl, .int i, .ty "str", _, _, false, rfl, .ty "str", .base (.int i), kit_ty (by decide +kernel), ?_⟩
      exact .inr ⟨false, rfl, _, rfl, by show 2 ≤ sizeLine; decide, fun p hp => q _ _ upd_same (.new hp)⟩
    · subst e
      refine ⟨_, rfl, .str y, .ty "str", _, _, true, rfl, .ty "str", .base (.str y), kit_ty (by decide +kernel), ?_⟩
      exact .inr ⟨true, rfl, _, rfl, by show 2 ≤ sizeLine; decide, fun p hp => q _ _ upd_same (.new hp)⟩
def sp_l_row_key : Sp := fun vs H Q _ => ∃ r xs, vs = [.ref r] ∧ H r = some (.tup xs) ∧ (∀ v ∈ xs, Val v) ∧ xs.length ≤ 8 ∧ ∀ t H' us, H' t = some (.lst us) → All2 (KvL H') us xs → Bx [] H H' → Q (.ref t) H'
theorem ok_l_row_key (T : Tx K mg) : Cal P w K mg base CX0 2 "_law_row_key" ["_law_row"] sp_l_row_key := by
  have H_l_key := ok_l_key (P := P) (w := w) (base := base) T
  refine Cal.of T.d_l_row_key sc_l_row_key (fun vs H Q E h => ?len) (fun _ _ _ _ _ _ _ us hl => match us, hl with | [_], _ => rfl) (fun f cdv A outer s H vs Q E hr h => ?body)
  case len =>
    obtain ⟨r, xs, rfl, _⟩ := h
    rfl
  case body =>
    obtain ⟨r, xs, rfl, hr0, hv, hl, q⟩ := h
    refine ⟨_, PSs.nox (pss_one (ps_ret (pe_lc (own := [("_law_value", 1)]) (g := gName 1) (by rfl) sc_l_row_key.nd (pi_tup (pv 0)) (blkOk_by (own := [("_law_value", 1)]) (N := n_l_row_key) (sc := defScope s_l_row_key) (by decide +kernel)) (fun _ _ _ _ _ => pg_name (i := 1) sc_l_row_key.nd rfl (Or.inl rfl)) (fun _ _ _ _ _ => pts_nil) (fun _ _ _ _ _ => (pe_cal H_l_key (hr.mono (by decide)) pass0 (pa_cons (pv 1) pa_nil)))))), ?_⟩
    refine ⟨_, rfl, r, rfl, ⟨_, SqT.of hr0⟩, fun D hD => ?_⟩
    refine lc_tup (K := K) (a := r) (xs := xs) (fun j H' => ∃ us, H' D = some (.lst us) ∧ All2 (KvL H') us (xs.take j) ∧ Bx [] H H' ∧ us.length = j) ⟨[], upd_same, trivial, .new hD, rfl⟩ (fun i H' _ ⟨_, _, _, b, _⟩ => SqT.of (b.t _ _ hr0)) ?_ ?_
    · rintro j v H1 hx ⟨us, hD1, hall, b1, hlen⟩
      have hj := (List.getElem?_eq_some_iff.mp hx).1
      refine ⟨rfl, tyes ?_⟩
      refine ⟨_, rfl, v, rfl, hv v (List.mem_of_getElem? hx), fun p H2 hp b2 => ?_⟩
      have hD2 := b2.l0 hD1
      have bm : Bx [D] H2 (upd H2 D (.lst (us ++ [.ref p]))) := Bx.mut (.refl _ _) (.inl (by simp)) hD2
      refine ⟨us, hD2, sz_lt (by omega), us ++ [.ref p], upd_same, ?_, Bx.mut (b1.trans b2) (.inr hD) hD2, by rw [List.length_append, hlen]; rfl⟩
      rw [List.take_add_one, hx]
      exact All2.app1 ⟨p, rfl, bm.t _ _ hp⟩ (hall.mono fun u y h => (h.mono b2).mono bm)
    · rintro H1 ⟨us, hD1, hall, b1, hlen⟩
      rw [List.take_length] at hall
      exact q D H1 us hD1 hall b1
def sp_l_fact_key (K : PySem.W.Frag) : Sp := fun vs H Q _ => ∃ q f, vs = [.ref q] ∧ FaAt H q f ∧ (∀ v ∈ f.2, Val v) ∧ f.2.length ≤ 8 ∧ ∀ t H', Dp K H' (.ref t) (lkey f) → Bx [] H H' → Q (.ref t) H'
theorem ok_l_fact_key (T : Tx K mg) : Cal P w K mg base CX0 3 "_law_fact_key" ["_law_fact"] (sp_l_fact_key K) := by
  have H_l_row_key := ok_l_row_key (P := P) (w := w) (base := base) T
  refine Cal.of T.d_l_fact_key sc_l_fact_key (fun vs H Q E h => ?len) (fun _ _ _ _ _ _ _ us hl => match us, hl with | [_], _ => rfl) (fun f cdv A outer s H vs Q E hr h => ?body)
  case len =>
    obtain ⟨a, f, rfl, _⟩ := h
    rfl
  case body =>
    obtain ⟨a, fc, rfl, ⟨r, h1, h2⟩, hv, hl, q⟩ := h
    refine ⟨_, PSs.nox (pss_one (ps_ret (pe_tup (pa_cons (pe_ix ix_tup (pv 0) pe_int (fun _ _ => rfl)) (pa_cons (pe_cal H_l_row_key (hr.mono (by decide)) pass0 (pa_cons (pe_ix ix_tup (pv 0) pe_int (fun _ _ => rfl)) pa_nil)) pa_nil))))), ?_⟩
    refine ⟨_, rfl, a, _, 0, _, rfl, rfl, SqT.of h1, rfl, _, rfl, a, _, 1, _, rfl, rfl, SqT.of h1, rfl, r, fc.2, rfl, h2, hv, hl, fun t H1 us ht1 hall b1 => ?_⟩
    refine ⟨by show 2 ≤ sizeLine; decide, fun p hp => ?_⟩
    have b2 : Bx [] H1 (upd H1 p (.tup [.str fc.1, .ref t])) := .new hp
    exact q p _ (.tup (SqT.of upd_same) (.cons (.str _) (.cons (.lst (SqL.of (b2.l0 ht1)) (kls_dp hv (hall.mono fun u y h => h.mono b2))) .nil))) (b1.trans b2)
/-! ### _law_store -/
def sp_l_store : Sp := fun vs H Q _ => ∃ (l : Addr) (bs : List (Fa × Addr)), vs = [.ref l] ∧ H l = some (.lst (bs.map fun b => V.ref b.2)) ∧ bs.length ≤ 1000 ∧ (∀ b ∈ bs, FaAt H b.2 b.1 ∧ FaW b.1 ∧ b.1.2.length ≤ 8) ∧
  ∀ t H' (out : List (Fa × Addr)), H' t = some (.tup (out.map fun b => V.ref b.2)) → (∀ b ∈ out, FaAt H' b.2 b.1) → Store (bs.map (·.1)) (out.map (·.1)) → Bx [] H H' → Q (.ref t) H'
theorem ok_l_store (T : Tx K mg) : Cal P w K mg base CX0 6 "_law_store" ["_law_facts"] sp_l_store := by
  obtain ⟨⟨fd, F, bF⟩, gF, kpF⟩ := ok_l_fact_key (P := P) (w := w) (base := base) T
  refine Cal.of T.d_l_store sc_l_store (fun vs H Q E h => ?len) (fun _ _ _ _ _ _ _ us hl => match us, hl with | [_], _ => rfl) (fun f cdv A outer s H vs Q E hr h => ?body)
  case len =>
    obtain ⟨l, bs, rfl, _⟩ := h
    rfl
  case body =>
    obtain ⟨l, bs, rfl, hl, hbl, hbs, q⟩ := h
    have hS : ∀ (A : Around) (bs : List (Fa × Addr)), (∀ b ∈ bs, FaW b.1) → A.units + 4 < cLine → ∀ (s' : Shared) (keys : List Value), EachIs (fun (v : Value) (b : Fa × Addr) => ∃ as, Reads s'.heap v (lkey b.1) as) keys bs →
      SortsAt P w A s' (dataKind s'.heap (bs.map fun b => lkey b.1)) keys ∧ EachIs (fun (v : Value) (b : Fa × Addr) => (dataKind s'.heap (bs.map fun b => lkey b.1)).keyOf v = some (keyToks (lkey b.1))) keys bs := fun A bs hb hu s' keys e => sorts_l hb hu s' keys e
    refine ⟨_, PSs.nox (pss_cons (ps_set (i := 1) sc_l_store.nd rfl (Or.inl rfl) (pe_lst pa_nil))
  (pss_cons (ps_for PassesOwn.never rfl (pi_list (pe_callBK (cr_sortK rfl F bF (hr.mono (by decide)) hS) (by rfl) T.b_sorted boot_sorted (pa_cons (pv 0) pa_nil) (pk_cons (pe_glob (v := .ref (He.ga K "_law_fact_key")) (by rfl) gF rfl) pk_nil))) (pg_name (i := 2) sc_l_store.nd rfl (Or.inl rfl))
  (pss_one (ps_if (pt_cmpR (op_notInD (Room.units65 hr)) (pv 2) (pv 1) rfl) (pss_one (ps_expr (pe_bm PySem.F.plainAttrs_list PySem.F.slot_list_append PySem.F.type_list_append mt_append (pv 1) (pa_cons (pv 2) pa_nil))))
  pss_nil)))
  (pss_one (ps_ret (pe_callTy call_tuple_of (by rfl) T.b_tuple boot_tuple (pa_cons (pv 1) pa_nil)))))), ?_⟩
    refine ⟨by decide, fun fn hfn => ?_⟩
    have nl : l ≠ fn := ne_of_none hl hfn
    have b0 : Bx [] H (upd H fn (.lst [])) := .new hfn
    refine ⟨_, rfl, l, bs, rfl, rfl, SqL.of (b0.l0 hl), by omega, fun b hb => (hbs b hb).2.1, fun b hb H1 b1 => ?_, fun p H1 hp b1 hp1 => ?_⟩
    · obtain ⟨h1, h2, h3⟩ := hbs b hb
      exact ⟨b.2, b.1, rfl, h1.mono (b0.trans b1), h2.2, h3, fun t H2 hd b2 => ⟨b2, hd⟩⟩
    have hs := sorted_by (bs := bs) (enc := lkey) fun x hx y hy => lkey_lt (hbs x hx).2.1.2 (hbs y hy).2.1.2
    generalize hsr : bs.mergeSort (dataLe false fun b => lkey b.1) = sr at hs hp1
    have hlen : sr.length = bs.length := hs.1.length_eq
    have hsr2 : ∀ b ∈ sr, FaAt H b.2 b.1 ∧ FaW b.1 ∧ b.1.2.length ≤ 8 := fun b hb => hbs b (hs.1.mem_iff.mp hb)
    have npf : p ≠ fn := fun e => by rw [e, upd_same] at hp; cases hp
    have hp1' : H1 p = some (.lst (sr.map fun b => V.ref b.2)) := hp1
    refine ⟨p, rfl, ⟨_, SqL.of hp1'⟩, for_list (K := K) (a := p) (xs := sr.map fun b => V.ref b.2) (fun i σ H' => ∃ (out : List (Fa × Addr)) (y2 : Option V), σ = [some (.ref l), some (.ref fn), y2] ∧ H' fn = some (.lst (out.map fun b => V.ref b.2)) ∧ H' p = some (.lst (sr.map fun b => V.ref b.2)) ∧ List.Sublist out (sr.take i) ∧
      (out.map (·.1)).Nodup ∧ (∀ f, f ∈ out.map (·.1) ↔ f ∈ (sr.take i).map (·.1)) ∧ Bx [] H H') ⟨[], none, rfl, b1.l0 upd_same, hp1', .slnil, List.nodup_nil, fun f => by simp, b0.trans b1⟩ (fun i σ H' _ ⟨_, _, _, _, e, _⟩ => SqL.of e) ?_ ?_⟩
    · rintro i x σ H2 hx ⟨out, y2, rfl, ho, hp2, sub, nd, mem, b2⟩
      rw [List.getElem?_map] at hx
      obtain ⟨b, hb, rfl⟩ : ∃ b, sr[i]? = some b ∧ V.ref b.2 = x := by
        cases hq : sr[i]? with
        | none => rw [hq] at hx; cases hx
        | some b => rw [hq] at hx; exact ⟨b, rfl, Option.some.inj hx⟩
      have hi := (List.getElem?_eq_some_iff.mp hb).1
      have hbm := List.mem_of_getElem? hb
      have hout : ∀ c ∈ out, FaAt H2 c.2 c.1 ∧ FaW c.1 := fun c hc => by
        have := hsr2 c (List.mem_of_mem_take (sub.subset hc))
        exact ⟨this.1.mono b2, this.2.1⟩
      obtain ⟨f1, f2, f3⟩ := hsr2 b hbm
      have k1 := fdats_ok fun c hc => (hout c hc).2
      have k2 := fdat_ok f2
      have olen : out.length ≤ i := by
        have := sub.length_le
        rw [List.length_take] at this
        omega
      have take : sr.take (i + 1) = sr.take i ++ [b] := by
        rw [List.take_add_one, hb]
        rfl
      refine ⟨_, rfl, _, rfl, fdat b.1, out.map (fun c => fdat c.1), f_dp f2.2 (f1.mono b2), .lst (SqL.of ho) (fs_dp hout), ?_, ?_, ?_⟩
      · simp [SeqAt.shaped, k2.1, k2.2]
      · have := k1.2
        simp [SeqAt.shaped, PyData.canLay0, PyData.depth, k1.1]
        omega
      have an : ((out.map (fun c => fdat c.1)).any fun z => PyData.eqv z (fdat b.1)) = decide (b.1 ∈ out.map (·.1)) := by
        rw [Bool.eq_iff_iff, List.any_eq_true, decide_eq_true_iff]
        constructor
        · rintro ⟨z, hz, e⟩
          obtain ⟨c, hc, rfl⟩ := List.mem_map.mp hz
          rw [fdat_eqv (hout c hc).2 f2] at e
          exact List.mem_map.mpr ⟨c, hc, of_decide_eq_true e⟩
        · intro hm
          obtain ⟨c, hc, e⟩ := List.mem_map.mp hm
          refine ⟨_, List.mem_map.mpr ⟨c, hc, rfl⟩, ?_⟩
          rw [fdat_eqv (hout c hc).2 f2]
          exact decide_eq_true e
      rw [an]
      refine ⟨_, rfl, ite2 (fun h1 => ?_) (fun h1 => ?_)⟩
      · have z : b.1 ∉ out.map (·.1) := fun w => by
          rw [decide_eq_true w] at h1
          cases h1
        refine ⟨_, rfl, .inl ⟨rfl, _, SqL.of ho⟩, _, rfl, fn, _, _, rfl, rfl, ho, sz_lt (by rw [List.length_map]; omega), out ++ [b], _, rfl, ?_, ?_, ?_, ?_, fun f => ?_, Bx.mutx b2 (.inr hfn) ho fun _ w => nomatch w⟩
        · rw [upd_same, List.map_append]
          rfl
        · rw [upd_ne npf]
          exact hp2
        · rw [take]
          exact sub.append (List.Sublist.refl _)
        · rw [List.map_append]
          refine List.nodup_append.mpr ⟨nd, by simp, fun x hx y hy => ?_⟩
          rw [List.mem_singleton.mp hy]
          exact fun w => z (by
            have w2 : x = b.1 := w
            rw [← w2]
            exact hx)
        · rw [take, List.map_append, List.map_append, List.mem_append, List.mem_append, mem f]
      · have z : b.1 ∈ out.map (·.1) := by
          by_cases w : b.1 ∈ out.map (·.1)
          · exact w
          · rw [decide_eq_false w] at h1
            exact absurd rfl h1
        refine ⟨out, _, rfl, ho, hp2, ?_, nd, fun f => ?_, b2⟩
        · rw [take]
          exact sub.trans (List.sublist_append_left _ _)
        · rw [take, List.map_append, List.mem_append, ← mem f]
          refine ⟨.inl, fun w => w.elim id fun w => ?_⟩
          rw [List.mem_singleton.mp w]
          exact z
    · rintro σ H2 ⟨out, y2, rfl, ho, hp2, sub, nd, mem, b2⟩
      rw [List.length_map, List.take_length] at sub mem
      refine ⟨_, rfl, fn, _, rfl, .inl ⟨SqL.of ho, fun t ht => ?_⟩⟩
      have b3 : Bx [] H2 (upd H2 t (.tup (out.map fun b => V.ref b.2))) := .new ht
      refine q t _ out upd_same (fun c hc => ((hsr2 c (sub.subset hc)).1.mono b2).mono b3) ⟨?_, nd, fun f => ?_⟩ (b2.trans b3)
      · exact hs.2.sublist (sub.map _)
      · rw [mem f]
        exact (hs.1.map _).mem_iff
end
end Ev
namespace Ev
open PySem PySem.W PySem.Calls PyProof.Rows PySem.Spec L2
theorem units3 {k : Nat} {A : Around} (hr : Room k A) : A.units + 3 < cLine := by
  have := Room.units65 hr
  omega
section
variable {P : Program} {w : World} {K : PySem.W.Frag} {mg : Str → Option Value} {base : Heap}
/-! ### _law_reading_book -/
def sp_l_reading_book : Sp := fun vs H Q _ => ∃ (z : Str) (ls : List Str), vs = [.str z] ∧ z.length ≤ 90000 ∧ Txt.split z "\n" = ls ∧ LsOk ls ∧
  (∀ k at_, bookN ls ls.length = .error (k, at_) → ∀ p H', H' p = some (.tup [.str "at", .int (k : Nat), .int (at_ : Nat)]) → Bx [] H H' → Q (.ref p) H') ∧
  ∀ sc fs, bookN ls ls.length = .ok (sc, fs) → ∀ p t1 t2 H' (es : List TE4) (l : SC) (out : List (Fa × Addr)), H' p = some (.tup [.str "book", .ref t1, .ref t2]) → H' t1 = some (.tup (refsT es)) → (∀ e ∈ es, TabAt H' e) → All2 te es l → SchemaOf sc l →
    H' t2 = some (.tup (out.map fun b => V.ref b.2)) → (∀ b ∈ out, FaAt H' b.2 b.1) → Store fs (out.map (·.1)) → Bx [] H H' → Q (.ref p) H'
theorem ok_l_reading_book (T : Tx K mg) : Cal P w K mg base CX0 8 "_law_reading_book" ["_law_text"] sp_l_reading_book := by
  have H_l_tokens := ok_l_tokens (P := P) (w := w) (base := base) T
  have H_l_read_line := ok_l_read_line (P := P) (w := w) (base := base) T
  have H_l_store := ok_l_store (P := P) (w := w) (base := base) T
  refine Cal.of T.d_l_reading_book sc_l_reading_book (fun vs H Q E h => ?len) (fun _ _ _ _ _ _ _ us hl => match us, hl with | [_], _ => rfl) (fun f cdv A outer s H vs Q E hr h => ?body)
  case len =>
    obtain ⟨z, ls, rfl, _⟩ := h
    rfl
  case body =>
    obtain ⟨z, ls, rfl, hz, hsp, hls, qe, q⟩ := h
    refine ⟨_, PSs.nox (pss_cons (ps_set (i := 1) sc_l_reading_book.nd rfl (Or.inl rfl) (pe_lst pa_nil))
  (pss_cons (ps_set (i := 2) sc_l_reading_book.nd rfl (Or.inl rfl) (pe_lst pa_nil))
  (pss_cons (ps_set (i := 3) sc_l_reading_book.nd rfl (Or.inl rfl) (pe_split (pv 0) pe_str))
  (pss_cons (ps_for PassesOwn.never rfl (pi_range1 (by rfl) T.b_range (pa_cons (pe_callB call_len_seq (by rfl) T.b_len PySem.boot_len (pa_cons (pv 3) pa_nil)) pa_nil)) (pg_name (i := 4) sc_l_reading_book.nd rfl (Or.inl rfl))
  (pss_cons (ps_set (i := 5) sc_l_reading_book.nd rfl (Or.inl rfl) (pe_cal H_l_tokens (hr.mono (by decide)) pass0 (pa_cons (pe_ix ix_list (pv 3) (pv 4) (fun _ _ => rfl)) pa_nil)))
  (pss_cons (ps_set (i := 6) sc_l_reading_book.nd rfl (Or.inl rfl) (pe_cal H_l_read_line (hr.mono (by decide)) pass0 (pa_cons (pv 5) (pa_cons (pv 1) pa_nil))))
  (pss_cons (ps_if (pt_cmpR op_eq (pe_ix ix_list (pv 6) pe_int (fun _ _ => rfl)) pe_str (nomark _)) (pss_one (ps_ret (pe_tup (pa_cons pe_str (pa_cons (pv 4) (pa_cons (pe_ix ix_seq (pe_ix ix_list (pv 5) (pe_ix ix_list (pv 6) pe_int (fun _ _ => rfl)) (fun _ _ => rfl)) pe_int (fun _ _ => rfl)) pa_nil))))))
  pss_nil)
  (pss_one (ps_if (pt_cmpR op_eq (pe_ix ix_list (pv 6) pe_int (fun _ _ => rfl)) pe_str (nomark _)) (pss_one (ps_expr (pe_bm PySem.F.plainAttrs_list PySem.F.slot_list_append PySem.F.type_list_append mt_append (pv 1) (pa_cons (pe_ix ix_list (pv 6) pe_int (fun _ _ => rfl)) pa_nil))))
  (pss_one (ps_if (pt_cmpR op_eq (pe_ix ix_list (pv 6) pe_int (fun _ _ => rfl)) pe_str (nomark _)) (pss_one (ps_expr (pe_bm PySem.F.plainAttrs_list PySem.F.slot_list_append PySem.F.type_list_append mt_append (pv 2) (pa_cons (pe_ix ix_list (pv 6) pe_int (fun _ _ => rfl)) pa_nil))))
  pss_nil))))))))
  (pss_one (ps_ret (pe_tup (pa_cons pe_str (pa_cons (pe_callTy call_tuple_of (by rfl) T.b_tuple boot_tuple (pa_cons (pe_callB (cr_sortedT (units3 hr)) (by rfl) T.b_sorted boot_sorted (pa_cons (pv 1) pa_nil)) pa_nil)) (pa_cons (pe_cal H_l_store (hr.mono (by decide)) pass0 (pa_cons (pv 2) pa_nil)) pa_nil)))))))))), ?_⟩
    refine ⟨by decide, fun ps hps => ?_⟩
    refine ⟨by decide, fun pf hpf => ?_⟩
    have nsf : ps ≠ pf := ne_of_none upd_same hpf
    refine ⟨_, rfl, ⟨_, rfl⟩, z, "\n", rfl, rfl, by decide, sz_of (by omega), fun pl hpl => ?_⟩
    rw [hsp]
    have hHd : ∀ {p : Addr}, upd H ps (.lst []) p = none → H p = none := fun {p} h => by
      by_cases e : p = ps
      · rw [e]
        exact hps
      · rw [upd_ne e] at h
        exact h
    have hpf0 : H pf = none := hHd hpf
    have hpl1 : upd H ps (.lst []) pl = none := by
      by_cases e : pl = pf
      · rw [e, upd_same] at hpl
        cases hpl
      · rw [upd_ne e] at hpl
        exact hpl
    have nlf : pl ≠ pf := fun e => by rw [e, upd_same] at hpl; cases hpl
    have nls : pl ≠ ps := fun e => by rw [e, upd_same] at hpl1; cases hpl1
    have b0 : Bx [] H (upd (upd (upd H ps (.lst [])) pf (.lst [])) pl (.lst (ls.map V.str))) := ((Bx.new hps).trans (.new hpf)).trans (.new hpl)
    let Pv : Nat → L2.St → Hp → Prop := fun i σ H' => ∃ (sc : SC) (fs : FS) (bs : List (Fa × Addr)) (y4 y5 y6 : Option V), σ = [some (.str z), some (.ref ps), some (.ref pf), some (.ref pl), y4, y5, y6] ∧ bookN ls i = .ok (sc, fs) ∧
      LS H' ps sc ∧ H' pf = some (.lst (bs.map fun b => V.ref b.2)) ∧ bs.map (·.1) = fs ∧ (∀ b ∈ bs, FaAt H' b.2 b.1) ∧ H' pl = some (.lst (ls.map V.str)) ∧ Bx [] H H'
    refine ⟨_, rfl, pl, _, rfl, .inl (SqL.of upd_same), _, rfl, by omega, by rw [List.length_map]; have := hls.1; omega, for_range (lo := 0) (n := (((ls.map V.str).length : Nat) : Int).toNat) Pv ⟨[], [], [], _, _, _, rfl, rfl, ⟨[], ?_, (fun e he => nomatch he), trivial⟩, ?_, rfl, (fun b hb => nomatch hb), upd_same, b0⟩ ?_ ?_⟩
    · rw [upd_ne nls.symm, upd_ne nsf, upd_same]
      rfl
    · rw [upd_ne nlf.symm, upd_same]
      rfl
    · rintro i σ H1 hi ⟨sc, fs, bs, y4, y5, y6, rfl, hbk, hsc, hf1, hbf, hba, hl1, b1⟩
      rw [List.length_map] at hi
      have hi' : i < ls.length := by omega
      have ez := get_lt hi'
      generalize ls[i] = x at ez
      have hstep := bookN_s hbk ez
      obtain ⟨ok1, ok2, len1, len2⟩ := bookN_ok hls (Nat.le_of_lt hi') hbk
      have hT := hls.tok ez
      have h60 := hls.1
      have blen : bs.length ≤ i := by
        have := congrArg List.length hbf
        rw [List.length_map] at this
        omega
      have hat : atI (ls.map V.str) (0 + (i : Int)) = some (.str x) := by
        rw [Int.zero_add]
        refine atI_nat ?_
        rw [List.getElem?_map, ez]
        rfl
      refine ⟨_, rfl, _, rfl, pl, _, _, _, rfl, rfl, SqL.of hl1, hat, x, rfl, hls.2 x (List.mem_of_getElem? ez), fun pt H2 us hpt0 hpt hall b2 => ?_⟩
      have LT2 : LT H2 pt (toks x.cps.toList) := ⟨⟨us, hpt, hall⟩, hT⟩
      have LS2 := hsc.mono b2
      refine ⟨_, rfl, _, rfl, pt, ps, toks x.cps.toList, sc, rfl, LT2, LS2, fun t ht => (ok1.ok t ht).2, fun r H3 hr3 b3 => ?_⟩
      have hf3 := b3.l0 (b2.l0 hf1)
      have hl3 := b3.l0 (b2.l0 hl1)
      have hba3 : ∀ b ∈ bs, FaAt H3 b.2 b.1 := fun b hb => ((hba b hb).mono b2).mono b3
      have b13 := (b1.trans b2).trans b3
      have LS3 := LS2.mono b3
      have LT3 := LT2.mono b3
      have nsl : ps ≠ pl := nls.symm
      cases hl : lineM (toks x.cps.toList) sc with
      | blank =>
        rw [hl] at hr3
        have hr : H3 r = some (.lst [.str "blank", .non]) := hr3
        refine ⟨_, rfl, r, _, _, _, rfl, rfl, SqL.of hr, rfl, rfl, _, rfl, ite2 (fun h => absurd (of_decide_eq_true h) (by decide +kernel)) (fun _ => ?_)⟩
        refine ⟨_, rfl, r, _, _, _, rfl, rfl, SqL.of hr, rfl, rfl, _, rfl, ite2 (fun h => absurd (of_decide_eq_true h) (by decide +kernel)) (fun _ => ?_)⟩
        refine ⟨_, rfl, r, _, _, _, rfl, rfl, SqL.of hr, rfl, rfl, _, rfl, ite2 (fun h => absurd (of_decide_eq_true h) (by decide +kernel)) (fun _ => ?_)⟩
        refine ⟨sc, fs, bs, _, _, _, rfl, ?_, LS3, hf3, hbf, hba3, hl3, b13⟩
        rw [hstep]
        unfold stepB
        rw [hl]
      | tab n k m =>
        rw [hl] at hr3
        obtain ⟨q', hr, hq'⟩ := hr3
        obtain ⟨es, hs3, hes, hall3⟩ := LS3
        refine ⟨_, rfl, r, _, _, _, rfl, rfl, SqL.of hr, rfl, rfl, _, rfl, ite2 (fun h => absurd (of_decide_eq_true h) (by decide +kernel)) (fun _ => ?_)⟩
        refine ⟨_, rfl, r, _, _, _, rfl, rfl, SqL.of hr, rfl, rfl, _, rfl, ite2 (fun _ => ?_) (fun h => absurd (decide_eq_true rfl) h)⟩
        have bm : Bx [ps] H3 (upd H3 ps (.lst (refsT es ++ [.ref q']))) := Bx.mut (.refl _ _) (.inl (by simp)) hs3
        have elen : es.length ≤ i := by
          rw [hall3.len]
          exact len1
        refine ⟨_, rfl, .inl ⟨rfl, _, SqL.of hs3⟩, _, rfl, r, _, _, _, rfl, rfl, SqL.of hr, rfl, ps, _, _, rfl, rfl, hs3, by unfold refsT; rw [List.length_map]; exact sz_lt (by omega), sc ++ [(n, k, m)], fs, bs, _, _, _, rfl, ?_, ⟨es ++ [(q', n, ((k : Nat) : Int), ((m : Nat) : Int))], ?_, fun e he => ?_, All2.app1 ⟨rfl, rfl, rfl⟩ hall3⟩, bm.l1 nsf.symm hf3, hbf, fun b hb => (hba3 b hb).mono bm, bm.l1 nls hl3, Bx.mutx b13 (.inr hps) hs3 fun _ w => nomatch w⟩
        · rw [hstep]
          unfold stepB
          rw [hl]
        · rw [upd_same]
          unfold refsT
          rw [List.map_append]
          rfl
        · rcases List.mem_append.mp he with he | he
          · exact bm.t _ _ (hes e he)
          · rw [List.mem_singleton.mp he]
            exact bm.t _ _ hq'
      | fact n xs =>
        rw [hl] at hr3
        obtain ⟨q', hr, hq'⟩ := hr3
        refine ⟨_, rfl, r, _, _, _, rfl, rfl, SqL.of hr, rfl, rfl, _, rfl, ite2 (fun h => absurd (of_decide_eq_true h) (by decide +kernel)) (fun _ => ?_)⟩
        refine ⟨_, rfl, r, _, _, _, rfl, rfl, SqL.of hr, rfl, rfl, _, rfl, ite2 (fun h => absurd (of_decide_eq_true h) (by decide +kernel)) (fun _ => ?_)⟩
        refine ⟨_, rfl, r, _, _, _, rfl, rfl, SqL.of hr, rfl, rfl, _, rfl, ite2 (fun _ => ?_) (fun h => absurd (decide_eq_true rfl) h)⟩
        have bm : Bx [pf] H3 (upd H3 pf (.lst ((bs.map fun b => V.ref b.2) ++ [.ref q']))) := Bx.mut (.refl _ _) (.inl (by simp)) hf3
        obtain ⟨es, hs3, hes, hall3⟩ := LS3
        refine ⟨_, rfl, .inl ⟨rfl, _, SqL.of hf3⟩, _, rfl, r, _, _, _, rfl, rfl, SqL.of hr, rfl, pf, _, _, rfl, rfl, hf3, by rw [List.length_map]; exact sz_lt (by omega), sc, fs ++ [(n, xs)], bs ++ [((n, xs), q')], _, _, _, rfl, ?_, ⟨es, bm.l1 nsf hs3, fun e he => bm.t _ _ (hes e he), hall3⟩, ?_, ?_, fun b hb => ?_, bm.l1 nlf hl3, Bx.mutx b13 (.inr hpf0) hf3 fun _ w => nomatch w⟩
        · rw [hstep]
          unfold stepB
          rw [hl]
        · rw [upd_same, List.map_append]
          rfl
        · rw [List.map_append, hbf]
          rfl
        · rcases List.mem_append.mp hb with hb | hb
          · exact (hba3 b hb).mono bm
          · rw [List.mem_singleton.mp hb]
            exact hq'.mono bm
      | «at» p =>
        rw [hl] at hr3
        have hr : H3 r = some (.lst [.str "at", .int (p : Nat)]) := hr3
        have lp := line_lt hT LT3.pos hl
        obtain ⟨ts, xp, u, t1, t2, t3, t4⟩ := LT3.tok lp
        refine ⟨_, rfl, r, _, _, _, rfl, rfl, SqL.of hr, rfl, rfl, _, rfl, ite2 (fun _ => ?_) (fun h => absurd (decide_eq_true rfl) h)⟩
        refine ⟨_, rfl, _, rfl, _, rfl, r, _, _, _, rfl, rfl, SqL.of hr, rfl, pt, ts, _, _, rfl, rfl, SqL.of t1, t2, .inr (.inl ⟨xp, _, _, _, rfl, rfl, SqT.of t3, rfl, ?_⟩)⟩
        refine ⟨by show 3 ≤ sizeLine; decide, fun y hy => ?_⟩
        refine qe i (po (toks x.cps.toList) p) ?_ y _ ?_ (b13.trans (.new hy))
        · refine bookN_stuck (i := i + 1) ?_ (by omega)
          rw [hstep]
          unfold stepB
          rw [hl]
        · rw [upd_same, Int.zero_add]
    · rintro σ H1 ⟨sc, fs, bs, y4, y5, y6, rfl, hbk, ⟨es, hs1, hes, hall⟩, hf1, hbf, hba, hl1, b1⟩
      rw [List.length_map] at hbk
      have hbk' : bookN ls ls.length = .ok (sc, fs) := hbk
      obtain ⟨ok1, ok2, len1, len2⟩ := bookN_ok hls (Nat.le_refl _) hbk'
      have h60 := hls.1
      have blen : bs.length ≤ ls.length := by
        have := congrArg List.length hbf
        rw [List.length_map] at this
        omega
      refine ⟨_, rfl, ps, es, rfl, SqL.of hs1, hes, fun p hp => ?_⟩
      have hperm : (es.mergeSort (dataLe false encT)).Perm es := sortedT_by.1
      have hsrt : (es.mergeSort (dataLe false encT)).Pairwise fun a b => ¬ b.2.1.cps.toList < a.2.1.cps.toList := sortedT_by.2
      generalize es.mergeSort (dataLe false encT) = es2 at hperm hsrt
      have c1 : Bx [] H1 (upd H1 p (.lst (refsT es2))) := .new hp
      refine ⟨p, _, rfl, .inl ⟨SqL.of upd_same, fun t1 ht1 => ?_⟩⟩
      have c2 := c1.trans (Bx.new (o := .tup (refsT es2)) ht1)
      refine ⟨_, rfl, pf, bs, rfl, c2.l0 hf1, by omega, fun b hb => ?_, fun t2 H4 out ht2 hout sto b4 => ?_⟩
      · have hbm : b.1 ∈ fs := by
          rw [← hbf]
          exact List.mem_map.mpr ⟨b, hb, rfl⟩
        obtain ⟨fw, k, r, g1, g2⟩ := ok2 b.1 hbm
        have le8 := (ok1.ok _ (tabF_mem g1)).2
        exact ⟨(hba b hb).mono c2, fw, by rw [g2]; exact le8⟩
      · refine ⟨by show 3 ≤ sizeLine; decide, fun y hy => ?_⟩
        have c5 : Bx [] H4 (upd H4 y (.tup [.str "book", .ref t1, .ref t2])) := .new hy
        rw [hbf] at sto
        have hes2 : ∀ e ∈ es2, TabAt H1 e := fun e he => hes e (hperm.mem_iff.mp he)
        let dec : TE4 → Str × Nat × Nat := fun e => (e.2.1, e.2.2.1.toNat, e.2.2.2.toNat)
        have hdec : ∀ {es : List TE4} {sc : SC}, All2 te es sc → es.map dec = sc := fun {es} => by
          induction es with
          | nil =>
            intro sc h
            cases sc with
            | nil => rfl
            | cons => exact h.elim
          | cons e es ih =>
            intro sc h
            cases sc with
            | nil => exact h.elim
            | cons t sc =>
              obtain ⟨⟨h1, h2, h3⟩, hr⟩ := h
              rw [List.map_cons, ih hr]
              obtain ⟨tn, tk, tr⟩ := t
              show (e.2.1, e.2.2.1.toNat, e.2.2.2.toNat) :: sc = _
              rw [h1, h2, h3]
              rfl
        have hback : ∀ {es3 : List TE4}, (∀ e ∈ es3, e ∈ es) → All2 te es3 (es3.map dec) := fun {es3} => by
          induction es3 with
          | nil => exact fun _ => trivial
          | cons e es3 ih =>
            intro h
            obtain ⟨t, ht, g1, g2, g3⟩ := All2.back hall (h e List.mem_cons_self)
            refine ⟨⟨rfl, ?_, ?_⟩, ih fun x hx => h x (List.mem_cons_of_mem _ hx)⟩
            · show e.2.2.1 = ((e.2.2.1.toNat : Nat) : Int)
              rw [g2]
              rfl
            · show e.2.2.2 = ((e.2.2.2.toNat : Nat) : Int)
              rw [g3]
              rfl
        have so : SchemaOf sc (es2.map dec) := by
          refine ⟨?_, List.pairwise_map.mpr hsrt⟩
          have := hperm.map dec
          rw [hdec hall] at this
          exact this
        exact q sc fs hbk' y t1 t2 _ es2 (es2.map dec) out upd_same ((b4.trans c5).t _ _ upd_same) (fun e he => (c2.trans (b4.trans c5)).t _ _ (hes2 e he)) (hback fun e he => hperm.mem_iff.mp he) so (c5.t _ _ ht2) (fun b hb => (hout b hb).mono c5) sto (((b1.trans c2).trans b4).trans c5)
end
end Ev
namespace Ev
open PySem PySem.Spec PyProof.Rows L2
/-! ## _law_same: the same data -/
def DOk : Nat → PyData → Prop
  | _, .int _ => True
  | _, .str _ => True
  | n + 1, .tuple ds => ds.length ≤ 1000 ∧ ∀ d ∈ ds, DOk n d
  | _, _ => False
theorem dpa_len {K : PySem.W.Frag} {H : Hp} {vs : List V} {ds : List PyData} (h : DpAll K H vs ds) : vs.length = ds.length := dpAll_len h
theorem dpa_get {K : PySem.W.Frag} {H : Hp} : ∀ {vs : List V} {ds : List PyData} {i : Nat} {d : PyData}, DpAll K H vs ds → ds[i]? = some d → ∃ v, vs[i]? = some v ∧ Dp K H v d
  | _, _, 0, _, .cons h1 _, e => ⟨_, rfl, by cases e; exact h1⟩
  | _, _, i + 1, _, .cons _ h2, e => dpa_get (i := i) h2 e
  | _, _, 0, _, .nil, e => nomatch e
  | _, _, _ + 1, _, .nil, e => nomatch e
section
variable {P : Program} {w : World} {K : PySem.W.Frag} {mg : Str → Option Value} {base : Heap}
theorem any_int : PySem.W.kitAny K (.type "int") [.type "tuple", .type "list"] = some false := kitAny_cons (b := false) (kit_ty (by decide +kernel)) (fun _ => kitAny_cons (b := false) (kit_ty (by decide +kernel)) (fun _ => kitAny_nil) fun z => nomatch z) fun z => nomatch z
theorem any_str : PySem.W.kitAny K (.type "str") [.type "tuple", .type "list"] = some false := kitAny_cons (b := false) (kit_ty (by decide +kernel)) (fun _ => kitAny_cons (b := false) (kit_ty (by decide +kernel)) (fun _ => kitAny_nil) fun z => nomatch z) fun z => nomatch z
theorem any_tup : PySem.W.kitAny K (.type "tuple") [.type "tuple", .type "list"] = some true := kitAny_cons (b := true) (kit_ty (by decide +kernel)) (fun z => nomatch z) fun _ => rfl
theorem ty_tup {H : Hp} {a : Addr} {xs : List V} (h : SqT K H a xs) : TyX K H (.ref a) (.type "tuple") := by
  rcases h with (h | ⟨o, h⟩) | ⟨o, its, n, h1, h2, _⟩
  · exact .base (.tup h)
  · exact .fTuple h
  · exact .kTuple h1 h2
def sp_no : Sp := fun _ _ _ _ => False
def sp_l_same (K : PySem.W.Frag) (n : Nat) : Sp := fun vs H Q _ => ∃ x y d, vs = [x, y] ∧ Dp K H x d ∧ Dp K H y d ∧ DOk n d ∧ ∀ H', Bx [] H H' → Q (.bl true) H'
theorem same_no (T : Tx K mg) : Cal P w K mg base CX0 1 "_law_same" ["_law_actual", "_law_due"] sp_no := by
  refine Cal.of T.d_l_same sc_l_same (fun vs H Q E h => h.elim) (fun _ _ _ _ _ _ _ us hl => match us, hl with | [_, _], _ => rfl) (fun f cdv A outer s H vs Q E hr h => h.elim)
theorem same_step (T : Tx K mg) {k : Nat} {sp : Sp} (n : Nat) (IH : Cal P w K mg base CX0 k "_law_same" ["_law_actual", "_law_due"] sp) (hi : ∀ m, n = m + 1 → sp = sp_l_same K m) : Cal P w K mg base CX0 (k + 1) "_law_same" ["_law_actual", "_law_due"] (sp_l_same K n) := by
  refine Cal.of T.d_l_same sc_l_same (fun vs H Q E h => ?len) (fun _ _ _ _ _ _ _ us hl => match us, hl with | [_, _], _ => rfl) (fun f cdv A outer s H vs Q E hr h => ?body)
  case len =>
    obtain ⟨x, y, d, rfl, _⟩ := h
    rfl
  case body =>
    obtain ⟨x, y, d, rfl, hx, hy, hd, q⟩ := h
    refine ⟨_, PSs.nox (pss_cons (ps_if (pt_val (pe_callB call_isiT (by rfl) T.b_isinstance boot_isinstance (pa_cons (pv 1) (pa_cons (pe_tup (pa_cons (pe_bltn (v := .ty "tuple") (by rfl) T.b_tuple boot_tuple rfl) (pa_cons (pe_bltn (v := .ty "list") (by rfl) T.b_list boot_list rfl) pa_nil))) pa_nil)))) (pss_cons (ps_if (PW.pt (pw_or (pt_cmpR op_ne (pe_callB call_isi (by rfl) T.b_isinstance boot_isinstance (pa_cons (pv 0) (pa_cons (pe_bltn (v := .ty "tuple") (by rfl) T.b_tuple boot_tuple rfl) pa_nil))) (pe_callB call_isi (by rfl) T.b_isinstance boot_isinstance (pa_cons (pv 1) (pa_cons (pe_bltn (v := .ty "tuple") (by rfl) T.b_tuple boot_tuple rfl) pa_nil))) (nomark _)) (pw_or1 (pt_cmpR op_ne (pe_callB call_isi (by rfl) T.b_isinstance boot_isinstance (pa_cons (pv 0) (pa_cons (pe_bltn (v := .ty "list") (by rfl) T.b_list boot_list rfl) pa_nil))) (pe_callB call_isi (by rfl) T.b_isinstance boot_isinstance (pa_cons (pv 1) (pa_cons (pe_bltn (v := .ty "list") (by rfl) T.b_list boot_list rfl) pa_nil))) (nomark _))))) (pss_one (ps_ret pe_bl))
  pss_nil)
  (pss_cons (ps_if (pt_cmpR op_ne (pe_callB call_len_seq (by rfl) T.b_len PySem.boot_len (pa_cons (pv 0) pa_nil)) (pe_callB call_len_seq (by rfl) T.b_len PySem.boot_len (pa_cons (pv 1) pa_nil)) (nomark _)) (pss_one (ps_ret pe_bl))
  pss_nil)
  (pss_one (ps_ret (pe_cmpR op_notIn_seq pe_bl (pe_lc (own := [("_law_k", 2)]) (g := gName 2) (by rfl) sc_l_same.nd (pi_range1 (by rfl) T.b_range (pa_cons (pe_callB call_len_seq (by rfl) T.b_len PySem.boot_len (pa_cons (pv 1) pa_nil)) pa_nil)) (blkOk_by (own := [("_law_k", 2)]) (N := n_l_same) (sc := defScope s_l_same) (by decide +kernel)) (fun _ _ _ _ _ => pg_name (i := 2) sc_l_same.nd rfl (Or.inl rfl)) (fun _ _ _ _ _ => pts_nil) (fun _ _ _ _ _ => (pe_cal IH (hr.mono (Nat.le_refl _)) pass0 (pa_cons (pe_ix (ix_seqK K) (pv 0) (pv 2) (fun _ _ => rfl)) (pa_cons (pe_ix (ix_seqK K) (pv 1) (pv 2) (fun _ _ => rfl)) pa_nil))))) rfl)))))
  pss_nil)
  (pss_cons (ps_if (PW.pt (pw_or (pt_cmpR op_ne (pe_callB call_isi (by rfl) T.b_isinstance boot_isinstance (pa_cons (pv 0) (pa_cons (pe_bltn (v := .ty "bool") (by rfl) T.b_bool boot_bool rfl) pa_nil))) (pe_callB call_isi (by rfl) T.b_isinstance boot_isinstance (pa_cons (pv 1) (pa_cons (pe_bltn (v := .ty "bool") (by rfl) T.b_bool boot_bool rfl) pa_nil))) (nomark _)) (pw_or1 (pt_cmpR op_ne (pe_callB call_isi (by rfl) T.b_isinstance boot_isinstance (pa_cons (pv 0) (pa_cons (pe_bltn (v := .ty "int") (by rfl) T.b_int boot_int rfl) pa_nil))) (pe_callB call_isi (by rfl) T.b_isinstance boot_isinstance (pa_cons (pv 1) (pa_cons (pe_bltn (v := .ty "int") (by rfl) T.b_int boot_int rfl) pa_nil))) (nomark _))))) (pss_one (ps_ret pe_bl))
  pss_nil)
  (pss_cons (ps_if (PW.pt (pw_or (pt_cmpR op_ne (pe_callB call_isi (by rfl) T.b_isinstance boot_isinstance (pa_cons (pv 0) (pa_cons (pe_bltn (v := .ty "str") (by rfl) T.b_str boot_str rfl) pa_nil))) (pe_callB call_isi (by rfl) T.b_isinstance boot_isinstance (pa_cons (pv 1) (pa_cons (pe_bltn (v := .ty "str") (by rfl) T.b_str boot_str rfl) pa_nil))) (nomark _)) (pw_or1 (pt_cmpR op_ne (pe_cmpR op_isN (pv 0) pe_non (nomark _)) (pe_cmpR op_isN (pv 1) pe_non (nomark _)) (nomark _))))) (pss_one (ps_ret pe_bl))
  pss_nil)
  (pss_one (ps_ret (pe_cmpR op_eq (pv 0) (pv 1) (nomark _))))))), ?_⟩
    refine ⟨_, rfl, by show 2 ≤ sizeLine; decide, fun tp htp => ?_⟩
    have b1 : Bx [] H (upd H tp (.tup [.ty "tuple", .ty "list"])) := .new htp
    have leaf : ∀ (tn : String) (v : V), TyX K (upd H tp (.tup [.ty "tuple", .ty "list"])) v (.type tn) → True := fun _ _ _ => trivial
    cases hx with
    | int i =>
      cases hy
      refine ⟨.int i, tp, _, .type "int", [.type "tuple", .type "list"], false, rfl, upd_same, .cons (.ty _) (.cons (.ty _) .nil), .base (.int i), any_int, false, rfl, iteF ?_⟩
      refine ⟨_, rfl, .int i, .ty "bool", _, _, false, rfl, .ty "bool", .base (.int i), kit_ty (by decide +kernel), _, rfl, .int i, .ty "bool", _, _, false, rfl, .ty "bool", .base (.int i), kit_ty (by decide +kernel), rfl, _, rfl, iteF ?_⟩
      refine ⟨_, rfl, .int i, .ty "int", _, _, true, rfl, .ty "int", .base (.int i), kit_ty (by decide +kernel), _, rfl, .int i, .ty "int", _, _, true, rfl, .ty "int", .base (.int i), kit_ty (by decide +kernel), rfl, _, rfl, iteF ?_⟩
      refine ⟨_, rfl, .int i, .ty "str", _, _, false, rfl, .ty "str", .base (.int i), kit_ty (by decide +kernel), _, rfl, .int i, .ty "str", _, _, false, rfl, .ty "str", .base (.int i), kit_ty (by decide +kernel), rfl, _, rfl, iteF ?_⟩
      refine ⟨_, rfl, rfl, _, rfl, rfl, rfl, _, rfl, iteF ?_⟩
      refine ⟨_, rfl, _, rfl, rfl, ?_⟩
      rw [decide_eq_true rfl]
      exact q _ b1
    | str z =>
      cases hy
      refine ⟨.str z, tp, _, .type "str", [.type "tuple", .type "list"], false, rfl, upd_same, .cons (.ty _) (.cons (.ty _) .nil), .base (.str z), any_str, false, rfl, iteF ?_⟩
      refine ⟨_, rfl, .str z, .ty "bool", _, _, false, rfl, .ty "bool", .base (.str z), kit_ty (by decide +kernel), _, rfl, .str z, .ty "bool", _, _, false, rfl, .ty "bool", .base (.str z), kit_ty (by decide +kernel), rfl, _, rfl, iteF ?_⟩
      refine ⟨_, rfl, .str z, .ty "int", _, _, false, rfl, .ty "int", .base (.str z), kit_ty (by decide +kernel), _, rfl, .str z, .ty "int", _, _, false, rfl, .ty "int", .base (.str z), kit_ty (by decide +kernel), rfl, _, rfl, iteF ?_⟩
      refine ⟨_, rfl, .str z, .ty "str", _, _, true, rfl, .ty "str", .base (.str z), kit_ty (by decide +kernel), _, rfl, .str z, .ty "str", _, _, true, rfl, .ty "str", .base (.str z), kit_ty (by decide +kernel), rfl, _, rfl, iteF ?_⟩
      refine ⟨_, rfl, rfl, _, rfl, rfl, rfl, _, rfl, iteF ?_⟩
      refine ⟨_, rfl, _, rfl, rfl, ?_⟩
      rw [decide_eq_true rfl]
      exact q _ b1
    | @tup a xs ds h1 h2 =>
      cases hy with
      | @tup a2 ys _ g1 g2 =>
        cases n with
        | zero => exact hd.elim
        | succ m =>
          have hd' : ds.length ≤ 1000 ∧ ∀ d ∈ ds, DOk m d := hd
          obtain ⟨dl, dd⟩ := hd'
          have hsp := hi m rfl
          subst hsp
          have hx1 : SqT K (upd H tp (.tup [.ty "tuple", .ty "list"])) a xs := Evl.ex_t b1.ex h1
          have hy1 : SqT K (upd H tp (.tup [.ty "tuple", .ty "list"])) a2 ys := Evl.ex_t b1.ex g1
          have d1 := dpAll_ex b1.ex _ _ h2
          have d2 := dpAll_ex b1.ex _ _ g2
          have l1 := dpa_len d1
          have l2 := dpa_len d2
          refine ⟨.ref a2, tp, _, .type "tuple", [.type "tuple", .type "list"], true, rfl, upd_same, .cons (.ty _) (.cons (.ty _) .nil), ty_tup hy1, any_tup, true, rfl, iteT ?_⟩
          refine ⟨_, rfl, .ref a, .ty "tuple", _, _, true, rfl, .ty "tuple", ty_tup hx1, kit_ty (by decide +kernel), _, rfl, .ref a2, .ty "tuple", _, _, true, rfl, .ty "tuple", ty_tup hy1, kit_ty (by decide +kernel), rfl, _, rfl, iteF ?_⟩
          refine ⟨_, rfl, .ref a, .ty "list", _, _, false, rfl, .ty "list", ty_tup hx1, kit_ty (by decide +kernel), _, rfl, .ref a2, .ty "list", _, _, false, rfl, .ty "list", ty_tup hy1, kit_ty (by decide +kernel), rfl, _, rfl, iteF ?_⟩
          refine ⟨_, rfl, a, xs, rfl, .inr hx1, _, rfl, a2, ys, rfl, .inr hy1, rfl, _, rfl, ite2 (fun h => ?_) (fun _ => ?_)⟩
          · rw [l1, l2] at h
            exact absurd rfl (of_nd h)
          refine ⟨_, rfl, a2, ys, rfl, .inr hy1, _, rfl, by omega, by omega, fun D hD => ?_⟩
          refine lc_range (lo := 0) (n := ((ys.length : Nat) : Int).toNat) (fun j H' => ∃ vs : List V, H' D = some (.lst vs) ∧ vs.length = j ∧ (∀ v ∈ vs, v = .bl true) ∧ Bx [] (upd H tp (.tup [.ty "tuple", .ty "list"])) H') ⟨[], upd_same, rfl, (fun v hv => nomatch hv), .new hD⟩ ?_ ?_
          · rintro j H2 hj ⟨vs, hD2, vl, hv, b2⟩
            have hj2 : j < ds.length := by omega
            have ed := get_lt hj2
            obtain ⟨x1, e1, p1⟩ := dpa_get d1 ed
            obtain ⟨y1, e2, p2⟩ := dpa_get d2 ed
            have i1 : atI xs (0 + (j : Int)) = some x1 := by
              rw [Int.zero_add]
              exact atI_nat e1
            have i2 : atI ys (0 + (j : Int)) = some y1 := by
              rw [Int.zero_add]
              exact atI_nat e2
            refine ⟨rfl, tyes ?_⟩
            refine ⟨_, rfl, _, rfl, .inr (.inl ⟨a, xs, _, x1, rfl, rfl, Evl.ex_t b2.ex hx1, i1, _, rfl, _, rfl, .inr (.inl ⟨a2, ys, _, y1, rfl, rfl, Evl.ex_t b2.ex hy1, i2, ?_⟩)⟩)⟩
            refine ⟨x1, y1, ds[j], rfl, dp_ex b2.ex _ _ p1, dp_ex b2.ex _ _ p2, dd _ (List.getElem_mem hj2), fun H3 b3 => ?_⟩
            have hD3 := b3.l0 hD2
            refine ⟨vs, hD3, sz_lt (by omega), vs ++ [.bl true], upd_same, by rw [List.length_append, vl]; rfl, fun v hvv => ?_, Bx.mut (b2.trans b3) (.inr hD) hD3⟩
            rcases List.mem_append.mp hvv with w | w
            · exact hv v w
            · exact List.mem_singleton.mp w
          · rintro H2 ⟨vs, hD2, vl, hv, b2⟩
            refine ⟨D, vs, rfl, .inl (SqL.of hD2), rfl, ?_, ?_⟩
            · refine List.all_eq_true.mpr fun v hvv => ?_
              rw [hv v hvv]
              rfl
            · have e : inV (.bl false) vs = false := by
                unfold inV
                refine List.any_eq_false.mpr fun v hvv => ?_
                rw [hv v hvv]
                decide
              rw [e]
              exact q _ (b1.trans b2)
    | _ => exact absurd hd (by cases n <;> exact fun z => z)
theorem ok_l_same (T : Tx K mg) : Cal P w K mg base CX0 6 "_law_same" ["_law_actual", "_law_due"] (sp_l_same K 4) :=
  same_step T 4 (same_step T 3 (same_step T 2 (same_step T 1 (same_step T 0 (same_no T) fun m e => nomatch e) fun m e => by cases e; rfl) fun m e => by cases e; rfl) fun m e => by cases e; rfl) fun m e => by cases e; rfl
end
end Ev
namespace Ev
open PySem PySem.Spec PyProof.Rows L2
/-! ## _law_told -/
/-- what the clause «except BadText as e» needs of the class -/
structure XcK (K : PySem.W.Frag) : Prop where
  xf : XfC K (aBT K)
  exm : PySem.W.exmOne K (.ref (aBT K)) (.ref (aBT K)) = some true
section
variable {P : Program} {w : World} {K : PySem.W.Frag} {mg : Str → Option Value} {base : Heap}
def t_suite (K : PySem.W.Frag) : Addr → Value → Option Addr → TS := fun a cls d => tRet (tTup (tCons (tC (.str "at")) (tCons (tXf a cls d (aBT K) "line" (tVar 2)) (tCons (tXf a cls d (aBT K) "at" (tVar 2)) tNil))))
theorem ok_l_told (T : Tx K mg) (B : BtK P K) (Xc : XcK K) (gB : mg "BadText" = some (.ref (aBT K))) : Cal P w K mg base CX0 9 "_law_told" ["_law_text"] sp_l_reading_book := by
  obtain ⟨⟨fd, F, bF⟩, gF, kpF⟩ := ok_read_book (P := P) (w := w) (base := base) T B gB
  refine Cal.of T.d_l_told sc_l_told (fun vs H Q E h => ?len) (fun _ _ _ _ _ _ _ us hl => match us, hl with | [_], _ => rfl) (fun f cdv A outer s H vs Q E hr h => ?body)
  case len =>
    obtain ⟨z, ls, rfl, _⟩ := h
    rfl
  case body =>
    obtain ⟨z, ls, rfl, hz, hsp, hls, qe, q⟩ := h
    refine ⟨_, PSs.nox (pss_cons (ps_try_as (i := 2) (tb := fun W => tAsg (tCallS (sp_read_book K) (WE W) (tCons (tVar 0) tNil)) (gName 1)) (ts := t_suite K) (Wout := fun _ _ _ _ => False) rfl rfl sc_l_told.nd rfl rfl ⟨rfl, by decide, Or.inl gB⟩ takes0
        (fun W pn xe tk _ => pss_one (ps_set (i := 1) sc_l_told.nd rfl (Or.inl rfl) (by exact (pe_callS F (hr.mono (by decide)) rfl gF kpF bF (fun σ => passAt tk σ) (by exact (pa_cons (pv 0) pa_nil))))))
        (fun a oe cls d pn hz hf => pss_one (ps_ret (by exact (pe_tup (pa_cons pe_str (pa_cons (pe_xf Xc.xf B.nl hz hf (pv 2)) (pa_cons (pe_xf Xc.xf B.na hz hf (pv 2)) pa_nil))))))))
      (pss_one (ps_ret (pe_op op_catT (pe_tup (pa_cons pe_str pa_nil)) (pv 1))))), ?_⟩
    refine ⟨_, rfl, z, ls, rfl, hz, hsp, hls, fun k at_ he d H' b hd => ?_, fun sc fs hb p t1 t2 H' es l out hp ht1 hes hall sok ht2 hout sto b => ?_⟩
    · refine ⟨true, Xc.exm, fun _ a ha => ?_, fun z => nomatch z⟩
      exact ⟨_, rfl, rfl, rfl, d, _, _, rfl, hd, rfl, _, rfl, rfl, rfl, d, _, _, rfl, hd, rfl, by show 3 ≤ sizeLine; decide, fun p hp => qe k at_ he p _ upd_same (b.trans (.new hp))⟩
    · refine ⟨by show 1 ≤ sizeLine; decide, fun y hy => ?_⟩
      have c1 : Bx [] H' (upd H' y (.tup [.str "book"])) := .new hy
      refine ⟨_, rfl, y, p, _, _, rfl, rfl, SqT.of upd_same, SqT.of (c1.t _ _ hp), (fun z => nomatch z), by show 3 ≤ sizeLine; decide, (fun z => nomatch z), fun _ p2 hp2 => ?_⟩
      have c2 := c1.trans (Bx.new (o := .tup [.str "book", .ref t1, .ref t2]) hp2)
      exact q sc fs hb p2 t1 t2 _ es l out upd_same (c2.t _ _ ht1) (fun e he => c2.t _ _ (hes e he)) hall sok (c2.t _ _ ht2) (fun b hb => (hout b hb).mono c2) sto (b.trans c2)
end
end Ev
namespace Ev
open PySem PySem.Spec PyProof.Rows L2
/-! ## The text: no line of it is long -/
/-- a run without a line feed is short -/
def Run (L : Nat) (t : List Nat) : Prop := ∀ b, b <:+: t → 10 ∉ b → b.length ≤ L
theorem run_nil (L : Nat) : Run L [] := fun b h _ => by
  rw [List.infix_nil.mp h]
  exact Nat.zero_le _
theorem run_free {L : Nat} {t : List Nat} (h : t.length ≤ L) : Run L t := fun b hb _ => Nat.le_trans hb.length_le h
theorem run_app {L : Nat} {u v : List Nat} (hu : Run L u) (hv : Run L v) : Run L (u ++ 10 :: v) := fun b hb hn => by
  rcases List.infix_append_iff.mp hb with h | h | ⟨l1, l2, e, h1, h2⟩
  · exact hu b h hn
  · rcases List.infix_cons_iff.mp h with h | h
    · rcases List.prefix_cons_iff.mp h with h | ⟨t, e, _⟩
      · rw [h]
        exact Nat.zero_le _
      · exact absurd (by rw [e]; exact List.mem_cons_self) hn
    · exact hv b h hn
  · rcases List.prefix_cons_iff.mp h2 with h | ⟨t, e2, _⟩
    · rw [e, h, List.append_nil] at hn ⊢
      exact hu l1 h1.isInfix hn
    · exact absurd (by rw [e, e2]; simp) hn
theorem run_ins {L : Nat} {a w c : List Nat} (h : Run L (a ++ c)) (hw : w.length ≤ 23) : Run (L + 23) (a ++ (w ++ c)) := fun b hb hn => by
  rcases List.infix_append_iff.mp hb with h1 | h1 | ⟨l1, l2, e, h1, h2⟩
  · have := h b (h1.trans (List.prefix_append a c).isInfix) hn
    omega
  · rcases List.infix_append_iff.mp h1 with h2 | h2 | ⟨l1, l2, e, h3, h4⟩
    · have := h2.length_le
      omega
    · have := h b (h2.trans (List.suffix_append a c).isInfix) hn
      omega
    · have q1 := h3.length_le
      have q2 := h l2 (h4.isInfix.trans (List.suffix_append a c).isInfix) (fun z => hn (by rw [e]; exact List.mem_append_right _ z))
      rw [e, List.length_append]
      omega
  · obtain ⟨r, hr⟩ := h2
    obtain ⟨r1, hr1⟩ := h1
    rcases List.append_eq_append_iff.mp hr with ⟨x, e1, e2⟩ | ⟨x, e1, e2⟩
    · have q1 : l2.length ≤ 23 := by
        have := congrArg List.length e1
        rw [List.length_append] at this
        omega
      have q2 := h l1 ((show l1 <:+: a from ⟨r1, [], by rw [List.append_nil]; exact hr1⟩).trans (List.prefix_append a c).isInfix) (fun z => hn (by rw [e]; exact List.mem_append_left _ z))
      rw [e, List.length_append]
      omega
    · have q2 := h (l1 ++ x) ⟨r1, r, by
        rw [e2, ← hr1]
        simp [List.append_assoc]⟩ (fun z => hn (by
          rw [e, e1]
          rcases List.mem_append.mp z with z | z
          · exact List.mem_append_left _ z
          · exact List.mem_append_right _ (List.mem_append_right _ z)))
      rw [List.length_append] at q2
      rw [e, e1, List.length_append, List.length_append]
      omega
/-- the cps of a join -/
def jn : List (List Nat) → List Nat
  | [] => []
  | [x] => x
  | x :: r => x ++ 10 :: jn r
theorem jn_run {L : Nat} : ∀ {xs : List (List Nat)}, (∀ x ∈ xs, x.length ≤ L) → Run L (jn xs)
  | [], _ => run_nil L
  | [x], h => run_free (h x (by simp))
  | x :: y :: r, h => run_app (run_free (h x (by simp))) (jn_run (xs := y :: r) fun z hz => h z (List.mem_cons_of_mem _ hz))
theorem cnt_app (c : Nat) : ∀ (u v : List Nat), cnt c (u ++ v) = cnt c u + cnt c v
  | [], v => by
    rw [List.nil_append, cnt_nil]
    omega
  | n :: u, v => by
    rw [List.cons_append, cnt_cons, cnt_cons, cnt_app c u v]
    omega
theorem cnt_free {c : Nat} : ∀ {u : List Nat}, c ∉ u → cnt c u = 0
  | [], _ => cnt_nil c
  | n :: u, h => by
    rw [cnt_cons, cnt_free (u := u) fun z => h (List.mem_cons_of_mem _ z), if_neg fun z => h (by rw [z]; exact List.mem_cons_self)]
    rfl
theorem jn_cnt : ∀ {xs : List (List Nat)}, (∀ x ∈ xs, 10 ∉ x) → cnt 10 (jn xs) ≤ xs.length
  | [], _ => by
    show cnt 10 [] ≤ _
    rw [cnt_nil]
    exact Int.le_refl _
  | [x], h => by
    show cnt 10 x ≤ _
    rw [cnt_free (h x (by simp))]
    exact Int.natCast_nonneg _
  | x :: y :: r, h => by
    show cnt 10 (x ++ 10 :: jn (y :: r)) ≤ _
    have ih := jn_cnt (xs := y :: r) fun z hz => h z (List.mem_cons_of_mem _ hz)
    rw [cnt_app, cnt_cons, cnt_free (h x (by simp)), if_pos rfl]
    have e : (((x :: y :: r).length : Nat) : Int) = ((y :: r).length : Nat) + 1 := by
      rw [List.length_cons]
      exact Int.natCast_succ _
    omega
theorem join_jn : ∀ (zs : List Str), (Str.join "\n" zs).cps.toList = jn (zs.map fun z => z.cps.toList)
  | [] => rfl
  | [x] => rfl
  | x :: y :: r => by
    show (x ++ "\n" ++ Str.join "\n" (y :: r) : Str).cps.toList = x.cps.toList ++ 10 :: jn ((y :: r).map fun z => z.cps.toList)
    rw [← join_jn (y :: r)]
    have e : ∀ a b : Str, (a ++ b).cps.toList = a.cps.toList ++ b.cps.toList := fun a b => Array.toList_append
    rw [e, e, List.append_assoc]
    rfl
/-- the lines of such a text can be read -/
theorem lines_ok {z : Str} (hr : Run 640 z.cps.toList) (hc : cnt 10 z.cps.toList ≤ 59) : LsOk (Txt.split z "\n") := by
  have hl := split_len z 10
  refine ⟨?_, fun p hp => ?_⟩
  · have e : Txt.split z ⟨#[10]⟩ = Txt.split z "\n" := rfl
    rw [e] at hl
    omega
  · have hf := StrLaws.split_free z 10 p hp
    have hj := StrLaws.join_split z ⟨#[10]⟩
    rw [← len_cps]
    refine hr _ ?_ hf
    have inf : ∀ {zs : List Str} {p : Str}, p ∈ zs → p.cps.toList <:+: jn (zs.map fun z => z.cps.toList) := fun {zs} => by
      induction zs with
      | nil => intro p h; cases h
      | cons x zs ih =>
        intro p h
        cases zs with
        | nil =>
          rw [List.mem_singleton.mp h]
          exact List.infix_rfl
        | cons y r =>
          show _ <:+: x.cps.toList ++ 10 :: jn ((y :: r).map fun z => z.cps.toList)
          rcases List.mem_cons.mp h with e | h
          · rw [e]
            exact (List.prefix_append _ _).isInfix
          · exact (ih h).trans (((List.suffix_cons 10 _).trans (List.suffix_append _ _)).isInfix)
    have h2 := inf hp
    have e : (Str.join ⟨#[10]⟩ (Txt.split z ⟨#[10]⟩)).cps.toList = jn ((Txt.split z ⟨#[10]⟩).map fun z => z.cps.toList) := join_jn _
    rw [hj] at e
    rw [e]
    exact h2
end Ev
namespace Ev
open PySem PySem.Spec PyProof.Rows L2
/-! ## law -/
def tdat (t : Str × Nat × Nat) : PyData := .tuple [.str t.1, .int t.2.1, .int t.2.2]
def bookD (l : SC) (o : List Fa) : PyData := .tuple [.str "book", .tuple (l.map tdat), .tuple (o.map fdat)]
def atD (k p : Nat) : PyData := .tuple [.str "at", .int k, .int p]
theorem nd_le : ∀ {xs ys : List Fa}, xs.Nodup → (∀ f ∈ xs, f ∈ ys) → xs.length ≤ ys.length
  | [], _, _, _ => Nat.zero_le _
  | x :: xs, ys, hn, h => by
    have hx := h x List.mem_cons_self
    have hn2 := List.nodup_cons.mp hn
    have ih := nd_le (xs := xs) (ys := ys.erase x) hn2.2 fun f hf => (List.mem_erase_of_ne fun z => hn2.1 (by rw [← z]; exact hf)).mpr (h f (List.mem_cons_of_mem _ hf))
    have e := List.length_erase_of_mem hx
    have pos : 0 < ys.length := List.length_pos_of_mem hx
    rw [List.length_cons]
    omega
theorem Store.le {inp out : List Fa} (h : Store inp out) : out.length ≤ inp.length := nd_le h.nd fun f hf => (h.mem f).mp hf
theorem DOk.up1 {n : Nat} {d : PyData} (h : DOk 0 d) : DOk n d := by
  cases n with
  | zero => exact h
  | succ n => cases d <;> first | exact h | exact h.elim | exact trivial
theorem vdat_dok {v : V} (h : Val v) : DOk 0 (vdat v) := h.cases (fun i e => by subst e; exact trivial) fun y e _ => by subst e; exact trivial
theorem fdat_dok {f : Fa} (h : FaW f) (h8 : f.2.length ≤ 8) : DOk 2 (fdat f) := ⟨by simp, fun d hd => by
  rcases List.mem_cons.mp hd with e | hd
  · subst e
    exact trivial
  · rw [List.mem_singleton.mp hd]
    refine ⟨by rw [List.length_map]; omega, fun d hd => ?_⟩
    obtain ⟨v, hv, rfl⟩ := List.mem_map.mp hd
    exact vdat_dok (h.2 v hv)⟩
theorem tdat_dok (t : Str × Nat × Nat) : DOk 2 (tdat t) := ⟨by simp, fun d hd => by
  rcases List.mem_cons.mp hd with e | hd
  · subst e
    exact trivial
  · rcases List.mem_cons.mp hd with e | hd
    · subst e
      exact trivial
    · rw [List.mem_singleton.mp hd]
      exact trivial⟩
theorem atD_ok (k p : Nat) : DOk 4 (atD k p) := ⟨by simp, fun d hd => by
  rcases List.mem_cons.mp hd with e | hd
  · subst e
    exact trivial
  · rcases List.mem_cons.mp hd with e | hd
    · subst e
      exact trivial
    · rw [List.mem_singleton.mp hd]
      exact trivial⟩
theorem bookD_ok {l : SC} {o : List Fa} (hl : l.length ≤ 1000) (ho : o.length ≤ 1000) (hf : ∀ f ∈ o, FaW f ∧ f.2.length ≤ 8) : DOk 4 (bookD l o) := ⟨by simp, fun d hd => by
  rcases List.mem_cons.mp hd with e | hd
  · subst e
    exact trivial
  · rcases List.mem_cons.mp hd with e | hd
    · subst e
      refine ⟨by rw [List.length_map]; exact hl, fun d hd => ?_⟩
      obtain ⟨t, _, rfl⟩ := List.mem_map.mp hd
      exact tdat_dok t
    · rw [List.mem_singleton.mp hd]
      refine ⟨by rw [List.length_map]; exact ho, fun d hd => ?_⟩
      obtain ⟨f, h, rfl⟩ := List.mem_map.mp hd
      exact fdat_dok (hf f h).1 (hf f h).2⟩
section
variable {K : PySem.W.Frag} {H : Hp}
theorem ts_dp : ∀ {es : List TE4} {l : SC}, (∀ e ∈ es, TabAt H e) → All2 te es l → DpAll K H (refsT es) (l.map tdat)
  | [], [], _, _ => .nil
  | [], _ :: _, _, h => h.elim
  | _ :: _, [], _, h => h.elim
  | e :: es, t :: l, h, h2 => by
    refine .cons ?_ (ts_dp (fun x hx => h x (List.mem_cons_of_mem _ hx)) h2.2)
    have g := h e List.mem_cons_self
    unfold TabAt at g
    rw [h2.1.1, h2.1.2.1, h2.1.2.2] at g
    exact .tup (SqT.of g) (.cons (.str _) (.cons (.int _) (.cons (.int _) .nil)))
theorem rb_data {z : Str} {ls : List Str} (hz : z.length ≤ 90000) (hsp : Txt.split z "\n" = ls) (hls : LsOk ls) : ∃ D, DOk 4 D ∧ ∀ (H : Hp) (Q : VK) (E : XK), (∀ p H', Dp K H' (.ref p) D → Bx [] H H' → Q (.ref p) H') → sp_l_reading_book [.str z] H Q E := by
  rcases hb : bookN ls ls.length with ⟨k, p⟩ | ⟨sc, fs⟩
  · refine ⟨atD k p, atD_ok k p, fun H Q E q => ⟨z, ls, rfl, hz, hsp, hls, fun k' p' e y H' hy b => ?_, fun sc fs e => ?_⟩⟩
    · rw [hb] at e
      injection e with e
      injection e with e1 e2
      subst e1 e2
      exact q y H' (.tup (SqT.of hy) (.cons (.str _) (.cons (.int _) (.cons (.int _) .nil)))) b
    · rw [hb] at e
      injection e
  · obtain ⟨ok1, ok2, len1, len2⟩ := bookN_ok hls (Nat.le_refl _) hb
    have h60 := hls.1
    by_cases ex : ∃ (l : SC) (o : List Fa), SchemaOf sc l ∧ Store fs o
    · obtain ⟨l, o, hl, ho⟩ := ex
      have ll := hl.perm.length_eq
      have lo := ho.le
      refine ⟨bookD l o, bookD_ok (by omega) (by omega) (fun f hf => ?_), fun H Q E q => ⟨z, ls, rfl, hz, hsp, hls, fun k' p' e => ?_, fun sc' fs' e p t1 t2 H' es l' out hp ht1 hes hall sok ht2 hout sto b => ?_⟩⟩
      · obtain ⟨fw, k, r, g1, g2⟩ := ok2 f ((ho.mem f).mp hf)
        have := (ok1.ok _ (tabF_mem g1)).2
        exact ⟨fw, by rw [g2]; exact this⟩
      · rw [hb] at e
        injection e
      · rw [hb] at e
        injection e with e
        injection e with e1 e2
        subst e1 e2
        have hl2 : l' = l := schema_one ok1.nd sok hl
        have ho2 : out.map (·.1) = o := store_one (fun f hf => (ok2 f hf).1.2) sto ho
        subst hl2
        refine q p H' (.tup (SqT.of hp) (.cons (.str _) (.cons (.tup (SqT.of ht1) (ts_dp hes hall)) (.cons (.tup (SqT.of ht2) ?_) .nil)))) b
        rw [← ho2, List.map_map]
        refine fs_dp fun b hb => ⟨hout b hb, (ok2 b.1 ((sto.mem b.1).mp (List.mem_map.mpr ⟨b, hb, rfl⟩))).1⟩
    · refine ⟨.int 0, trivial, fun H Q E q => ⟨z, ls, rfl, hz, hsp, hls, fun k' p' e => ?_, fun sc' fs' e p t1 t2 H' es l' out hp ht1 hes hall sok ht2 hout sto b => ?_⟩⟩
      · rw [hb] at e
        injection e
      · rw [hb] at e
        injection e with e
        injection e with e1 e2
        subst e1 e2
        exact absurd ⟨l', _, sok, sto⟩ ex
end
end Ev
namespace Ev
open PySem PySem.Spec PyProof.Rows L2
section
variable {P : Program} {w : World} {K : PySem.W.Frag} {mg : Str → Option Value} {base : Heap}
def sp_law (K : PySem.W.Frag) : Sp := fun vs H Q _ => ∃ (a : Addr) (ns : List Int), vs = [.ref a] ∧ SqL K H a (ns.map V.int) ∧ ns.length ≤ 63 ∧ ∀ H', Q (.bl true) H'
theorem ok_law (T : Tx K mg) (B : BtK P K) (Xc : XcK K) (gB : mg "BadText" = some (.ref (aBT K))) {f : Addr} {fd : FuncData} (F : FunD K "law" "law" (defArgs s_law) (defBody s_law) (defScope s_law) [] [] f fd) : FnOk P w K mg base CX0 10 f fd ["_law_script"] (sp_law K) := by
  have H_l_draws := ok_l_draws (P := P) (w := w) (base := base) T
  have H_l_some_words := ok_l_some_words (P := P) (w := w) (base := base) T
  have H_l_any_lines := ok_l_any_lines (P := P) (w := w) (base := base) T
  have H_l_any_chars := ok_l_any_chars (P := P) (w := w) (base := base) T
  have H_l_take := ok_l_take (P := P) (w := w) (base := base) T
  have H_l_reading_book := ok_l_reading_book (P := P) (w := w) (base := base) T
  have H_l_told := ok_l_told (P := P) (w := w) (base := base) T B Xc gB
  have H_l_same := ok_l_same (P := P) (w := w) (base := base) T
  refine F.ok sc_law (fun vs H Q E h => ?len) (fun cdv A outer s H vs Q E hr h => ?body)
  case len =>
    obtain ⟨a, ns, rfl, _⟩ := h
    rfl
  case body =>
    obtain ⟨a, ns, rfl, hsq, hlen, q⟩ := h
    refine ⟨_, PSs.nox (pss_cons (ps_set (i := 1) sc_law.nd rfl (Or.inl rfl) (pe_cal H_l_draws (hr.mono (by decide)) pass0 (pa_cons (pv 0) (pa_cons pe_int pa_nil))))
  (pss_cons (ps_set (i := 2) sc_law.nd rfl (Or.inl rfl) (pe_cal H_l_some_words (hr.mono (by decide)) pass0 (pa_cons (pv 1) (pa_cons pe_int pa_nil))))
  (pss_cons (ps_set (i := 3) sc_law.nd rfl (Or.inl rfl) (pe_join pe_str (pe_cal H_l_any_lines (hr.mono (by decide)) pass0 (pa_cons (pv 1) (pa_cons (pv 2) pa_nil)))))
  (Evl.pss_cut (ps_if (pt_cmpR op_eq (pe_cal H_l_take (hr.mono (by decide)) pass0 (pa_cons (pv 1) (pa_cons pe_int pa_nil))) pe_int (nomark _)) (pss_cons (ps_set (i := 4) sc_law.nd rfl (Or.inl rfl) (pe_cal H_l_take (hr.mono (by decide)) pass0 (pa_cons (pv 1) (pa_cons (pe_op op_add (pe_callB call_len_str (by rfl) T.b_len PySem.boot_len (pa_cons (pv 3) pa_nil)) pe_int) pa_nil))))
  (pss_one (ps_set (i := 3) sc_law.nd rfl (Or.inl rfl) (pe_op op_add_str (pe_op op_add_str (pe_op op_add_str (pe_op op_add_str (pe_slice sl_str (pv 3) po_none (po_some (pv 4))) pe_str) (pe_cal H_l_any_chars (hr.mono (by decide)) pass0 (pa_cons (pv 1) (pa_cons (pe_cal H_l_take (hr.mono (by decide)) pass0 (pa_cons (pv 1) (pa_cons pe_int pa_nil))) pa_nil)))) pe_str) (pe_slice sl_str (pv 3) (po_some (pv 4)) po_none)))))
  pss_nil)
  (pss_cons (ps_set (i := 5) sc_law.nd rfl (Or.inl rfl) (pe_cal H_l_reading_book (hr.mono (by decide)) pass0 (pa_cons (pv 3) pa_nil)))
  (pss_one (ps_ret (pe_and (pe_cal H_l_same (hr.mono (by decide)) pass0 (pa_cons (pe_cal H_l_told (hr.mono (by decide)) pass0 (pa_cons (pv 3) pa_nil)) (pa_cons (pv 5) pa_nil))) (pe_one (pe_cal H_l_same (hr.mono (by decide)) pass0 (pa_cons (pe_cal H_l_told (hr.mono (by decide)) pass0 (pa_cons (pv 3) pa_nil)) (pa_cons (pv 5) pa_nil)))))))))))), ?_⟩
    refine ⟨_, rfl, a, ns, rfl, hsq, hlen, fun d H1 hd b1 d1 => ?_⟩
    refine ⟨_, rfl, d, rfl, d1, fun pw H2 ws npd hpw hws wl wp b2 d2 => ?_⟩
    refine ⟨⟨_, rfl⟩, _, rfl, _, rfl, d, pw, ws, rfl, npd, hws, wl, wp, d2, fun pl H3 zs npl hzs zl zp b3 d3 => ?_⟩
    have hsum := sum_le (n := 600) (zs := zs) fun z hz => (zp z hz).1
    have hjl := join_len "\n" zs
    have h1 : ("\n" : Str).length = 1 := rfl
    rw [h1] at hjl
    refine ⟨"\n", pl, zs, rfl, rfl, .inl (SqL.of hzs), by rw [h1]; omega, ?_⟩
    have hj : (Txt.join "\n" zs).cps.toList = jn (zs.map fun z => z.cps.toList) := by
      rw [show Txt.join "\n" zs = Str.join "\n" zs from StrLaws.glued_eq_join _ _]
      exact join_jn zs
    have hrun : Run 600 (Txt.join "\n" zs).cps.toList := by
      rw [hj]
      refine jn_run fun x hx => ?_
      obtain ⟨z, hz, rfl⟩ := List.mem_map.mp hx
      rw [len_cps]
      exact (zp z hz).1
    have hcnt : cnt 10 (Txt.join "\n" zs).cps.toList ≤ 59 := by
      rw [hj]
      have := jn_cnt (xs := zs.map fun z => z.cps.toList) fun x hx => by
        obtain ⟨z, hz, rfl⟩ := List.mem_map.mp hx
        exact fun h => ((zp z hz).2 10 h).1 rfl
      rw [List.length_map] at this
      omega
    generalize Txt.join "\n" zs = z at hrun hcnt hjl
    have zl2 : z.length ≤ 40000 := by omega
    refine ⟨fun σ H' => ∃ (y4 : Option V) (z' : Str), σ = [some (.ref a), some (.ref d), some (.ref pw), some (.str z'), y4, none] ∧ LsOk (Txt.split z' "\n") ∧ z'.length ≤ 90000, ?_, ?_⟩
    · refine ⟨_, rfl, d, 2, rfl, by decide, d3, fun r H4 r0 r1 b4 d4 => ?_⟩
      refine ⟨rfl, _, rfl, ite2 (fun _ => ?_) (fun _ => ?_)⟩
      · refine ⟨_, rfl, _, rfl, z, rfl, sz_of (by omega), _, _, rfl, rfl, d, _, rfl, by omega, d4, fun k H5 k0 k1 b5 d5 => ?_⟩
        obtain ⟨kn, rfl⟩ := Int.eq_ofNat_of_zero_le k0
        have hkn : kn ≤ z.length := by omega
        have l1 : (cutS z none (some (kn : Int))).cps.toList = z.cps.toList.take kn := cutS_cps z kn
        have l2 : (cutS z (some (kn : Int)) none).cps.toList = z.cps.toList.drop kn := by
          unfold cutS
          rw [HT.sIx_nat, HT.sIx_none, show min kn z.length = kn by omega]
          show List.take (z.length - kn) (z.cps.toList.drop kn) = _
          exact List.take_of_length_le (by rw [List.length_drop, len_cps]; exact Nat.le_refl _)
        have n1 : (cutS z none (some (kn : Int))).length ≤ z.length := by
          rw [← len_cps, l1, List.length_take, len_cps]
          omega
        have n2 : (cutS z (some (kn : Int)) none).length ≤ z.length := by
          rw [← len_cps, l2, List.length_drop, len_cps]
          omega
        have ap : ∀ x y : Str, (x ++ y).length = x.length + y.length := fun x y => by
          rw [← len_cps, ← len_cps, ← len_cps, show (x ++ y).cps.toList = x.cps.toList ++ y.cps.toList from Array.toList_append, List.length_append]
        have s1 : (" " : Str).length = 1 := rfl
        refine ⟨_, rfl, _, rfl, (kn : Int), rfl, z, rfl, sz_of (by omega), _, _, rfl, rfl, sz_of (by rw [s1]; omega), ?_⟩
        refine ⟨_, rfl, _, rfl, d, 21, rfl, by omega, d5, fun m H6 m0 m1 b6 d6 => ⟨d, m, rfl, m0, by omega, d6, fun c H7 cl cg b7 d7 => ?_⟩⟩
        have cl2 : c.length ≤ 20 := by
          rw [← len_cps]
          omega
        refine ⟨_, _, rfl, rfl, sz_of (by rw [ap, s1]; omega), _, _, rfl, rfl, sz_of (by rw [ap, ap, s1]; omega), ?_⟩
        refine ⟨_, rfl, _, rfl, (kn : Int), rfl, z, rfl, sz_of (by omega), _, _, rfl, rfl, sz_of (by rw [ap, ap, ap, s1]; omega), ?_⟩
        have cps : (cutS z none (some (kn : Int)) ++ " " ++ c ++ " " ++ cutS z (some (kn : Int)) none : Str).cps.toList = z.cps.toList.take kn ++ ((32 :: (c.cps.toList ++ [32])) ++ z.cps.toList.drop kn) := by
          have e : ∀ a b : Str, (a ++ b).cps.toList = a.cps.toList ++ b.cps.toList := fun a b => Array.toList_append
          rw [e, e, e, e, l1, l2, show (" " : Str).cps.toList = [32] from rfl]
          simp [List.append_assoc]
        have hw : (32 :: (c.cps.toList ++ [32])).length ≤ 23 := by
          rw [List.length_cons, List.length_append, len_cps]
          show c.length + 1 + 1 ≤ 23
          omega
        have h10 : 10 ∉ (32 :: (c.cps.toList ++ [32])) := fun h => by
          rcases List.mem_cons.mp h with h | h
          · cases h
          · rcases List.mem_append.mp h with h | h
            · exact (cg 10 h).1 rfl
            · cases List.mem_singleton.mp h
        refine ⟨_, _, rfl, lines_ok ?_ ?_, ?_⟩
        · rw [cps]
          have hr := run_ins (L := 600) (a := z.cps.toList.take kn) (w := 32 :: (c.cps.toList ++ [32])) (c := z.cps.toList.drop kn) (by rw [List.take_append_drop]; exact hrun) hw
          exact fun b hb hn => Nat.le_trans (hr b hb hn) (by decide)
        · rw [cps, cnt_app, cnt_app, cnt_free h10]
          have := cnt_app 10 (z.cps.toList.take kn) (z.cps.toList.drop kn)
          rw [List.take_append_drop] at this
          omega
        · rw [ap, ap, ap, ap, s1]
          omega
      · exact ⟨_, z, rfl, lines_ok (fun b hb hn => Nat.le_trans (hrun b hb hn) (by decide)) hcnt, by omega⟩
    · rintro σ H4 ⟨y4, z', rfl, hls, hz⟩
      obtain ⟨D, hD, rb⟩ := rb_data (K := K) hz rfl hls
      refine ⟨_, rfl, ?_⟩
      dsimp only [tNil]
      refine rb _ _ _ fun p H5 hp b5 => ?_
      refine ⟨_, rfl, ?_⟩
      dsimp only [tNil]
      refine rb _ _ _ fun p2 H6 hp2 b6 => ⟨_, rfl, .ref p2, .ref p, D, rfl, hp2, dp_ex b6.ex _ _ hp, hD, fun H7 b7 => ⟨true, rfl, ?_⟩⟩
      rw [if_pos rfl]
      refine ⟨_, rfl, ?_⟩
      dsimp only [tNil]
      exact rb _ _ _ fun p3 H8 hp3 b8 => ⟨_, rfl, .ref p3, .ref p, D, rfl, hp3, dp_ex b8.ex _ _ (dp_ex b7.ex _ _ (dp_ex b6.ex _ _ hp)), hD, fun H9 b9 => q H9⟩
end
end Ev
namespace Ev
open PySem PySem.W PySem.Calls PyProof.Rows PySem.Spec L2
/-! ## BadText, as the top has written it: told by a Bool -/
def mroB (C : Addr) : List Value → Bool
  | .ref c :: bm => decide (c = C) && PySem.HandSPX.refsVE bm
  | _ => false
def slB : List (Option Value) → Bool
  | [_, _, _, _, k4, _] => decide (k4 = some (.builtin "ValueError.__new__"))
  | _ => false
def clsB (K : PySem.W.Frag) (C : Addr) : Bool := match K.lookup C with
  | some ⟨.type t, _, .cls cd, sl⟩ => decide (t = "type") && (cd.hasDict && (!cd.hasDel && (mroB C cd.mro && slB sl.toList)))
  | _ => false
theorem and2 {a b : Bool} (h : (a && b) = true) : a = true ∧ b = true := Bool.and_eq_true_iff.mp h
theorem mroB_ok {C : Addr} : ∀ {l : List Value}, mroB C l = true → ∃ bm, l = .ref C :: bm ∧ PySem.HandSPX.refsVE bm = true := fun {l} h => by
  unfold mroB at h
  split at h
  · next c bm =>
    obtain ⟨m1, m2⟩ := and2 h
    exact ⟨bm, by rw [show c = C from of_decide_eq_true m1], m2⟩
  · cases h
theorem slB_ok {l : List (Option Value)} (h : slB l = true) : ∃ k0 k1 k2 k3 k5, l = [k0, k1, k2, k3, some (.builtin "ValueError.__new__"), k5] := by
  unfold slB at h
  split at h
  · next k0 k1 k2 k3 k4 k5 => exact ⟨k0, k1, k2, k3, k5, by rw [show k4 = some (.builtin "ValueError.__new__") from of_decide_eq_true h]⟩
  · cases h
theorem clsB_ok {K : PySem.W.Frag} {C : Addr} (h : clsB K C = true) : ∃ nm q N bs bm sn sub ab col dd k0 k1 k2 k3 k5, K.lookup C = some (excClassObj nm q C N bs bm true sn sub ab col dd k0 k1 k2 k3 k5 "ValueError.__new__") ∧ PySem.HandSPX.refsVE bm = true := by
  unfold clsB at h
  cases q : K.lookup C with
  | none =>
    rw [q] at h
    cases h
  | some o =>
    obtain ⟨oc, od, dt, osl⟩ := o
    rw [q] at h
    cases oc with
    | type t =>
      cases dt with
      | cls cd =>
        obtain ⟨h1, h⟩ := and2 h
        obtain ⟨h2, h⟩ := and2 h
        obtain ⟨h3, h⟩ := and2 h
        obtain ⟨h4, h5⟩ := and2 h
        obtain ⟨c1, c2, c3, c4, c5, c6, c7, c8, c9, c10, c11⟩ := cd
        have h2' : c6 = true := h2
        have h3' : (!c11) = true := h3
        have e1 : t = "type" := of_decide_eq_true h1
        have e11 : c11 = false := by
          cases c11
          · rfl
          · cases h3'
        subst e1 h2' e11
        obtain ⟨bm, hm, m2⟩ := mroB_ok h4
        obtain ⟨sl⟩ := osl
        obtain ⟨k0, k1, k2, k3, k5, hs⟩ := slB_ok h5
        have hm' : c3 = .ref C :: bm := hm
        have hs' : sl = [k0, k1, k2, k3, some (.builtin "ValueError.__new__"), k5] := hs
        subst hm' hs'
        exact ⟨c1, c5, c4, c2, bm, c7, c8, c9, c10, od, k0, k1, k2, k3, k5, rfl, m2⟩
      | _ => cases h
    | _ => cases dt <;> cases h
/-- the code record of BadText.__init__ and its file -/
def fileB (P : Program) (K : PySem.W.Frag) (cdv : Value) : Bool := match cdv with
  | .ref cda => (match K.lookup cda with
    | some ⟨_, _, .fields vs, _⟩ => (match vs[2]? with
      | some (Value.str file _) => P.main.file == file
      | _ => false)
    | _ => false)
  | _ => false
def cellB (K : PySem.W.Frag) (C : Addr) (cl : List (Str × Addr)) : Bool := match cl with
  | [(n, cc)] => decide (n = "__class__") && (match K.lookup cc with
    | some ⟨_, _, .cell (some (.ref c)), _⟩ => decide (c = C)
    | _ => false)
  | _ => false
def fnB (P : Program) (K : PySem.W.Frag) : Bool := match K.lookup (fBT K) with
  | some ⟨_, _, .func fd, _⟩ => PySem.W.codeIn K fd.code "BadText.__init__" && (fileB P K fd.code && cellB K (aBT K) fd.closure)
  | _ => false
/-- the rest of the function object -/
abbrev FnU : Type := Option (Str × Str × Arguments × FuncBody × Scope × Addr × Value × Addr)
def fnU (K : PySem.W.Frag) : FnU := match K.lookup (fBT K) with
  | some ⟨_, _, .func fd, _⟩ => some (fd.name, fd.qualname, fd.params, fd.body, fd.scope, fd.globals, fd.defaults, fd.builtins)
  | _ => none
def vaU : FnU := some ("__init__", "BadText.__init__", defArgs s_BadText_init, .stmts (defBody s_BadText_init), defScope s_BadText_init, mainGlobals, .none, builtinsNs)
def btB (P : Program) (K : PySem.W.Frag) : Bool := clsB K (aBT K) && (He.eqO (PySem.W.findIn K (.ref (aBT K)) "__setattr__") (some (some (.builtin "object.__setattr__"))) && (decide (PySem.W.subIn K (.ref (aBT K)) (.type "BaseException") = some true) &&
  (decide (PySem.W.typeIn K (.ref (aBT K)) = some (.type "type")) && (PySem.W.keepIn K (.ref (aBT K)) && (He.eqO (PySem.W.findIn K (.ref (aBT K)) "__init__") (some (some (.ref (fBT K)))) && (decide (PySem.W.typeIn K (.ref (fBT K)) = some (.type "function")) &&
  (fnB P K && (He.eqO (ks_superIn K (aBT K) (aBT K) "__init__") (some (some (.builtin "ValueError.__init__"))) && (decide (mroIn K (aBT K) (.ref (aBT K)) = some true) && (decide (subIn K (.ref (aBT K)) (.type "ValueError") = some true) &&
  (He.eqO (nsIn K cStatics "thirdparty.any") (some none) && (He.eqO (PySem.W.findIn K (.ref (aBT K)) "line") (some none) && (He.eqO (PySem.W.findIn K (.ref (aBT K)) "at") (some none) && (xfB K (aBT K) && decide (PySem.W.exmOne K (.ref (aBT K)) (.ref (aBT K)) = some true)))))))))))))))
theorem fnB_ok {P : Program} {K : PySem.W.Frag} (e : fnU K = vaU) (c : fnB P K = true) : ∃ (oc od kV doc pm an cda ct osl cc : _), K.lookup (fBT K) = some ⟨oc, od, .func (ksFn "__init__" "BadText.__init__" (defArgs s_BadText_init) (defBody s_BadText_init) (defScope s_BadText_init) .none kV doc pm an (.ref cda) ct cc), osl⟩ ∧ codeIn K (.ref cda) "BadText.__init__" = true ∧
    (∃ ccl cdd vs ccs file tf, K.lookup cda = some ⟨ccl, cdd, .fields vs, ccs⟩ ∧ vs[2]? = some (.str file tf) ∧ (P.main.file == file) = true) ∧ (∃ cl cld csl, K.lookup cc = some ⟨cl, cld, .cell (some (.ref (aBT K))), csl⟩) := by
  unfold fnB at c
  unfold fnU vaU at e
  cases q : K.lookup (fBT K) with
  | none =>
    rw [q] at c
    cases c
  | some o =>
    obtain ⟨oc, od, dt, osl⟩ := o
    rw [q] at c e
    cases dt with
    | func fd =>
      obtain ⟨n1, n2, n3, n4, n5, n6, n7, n8, n9, n10, n11, n12, n13, n14, n15⟩ := fd
      have e2 : (some (n1, n2, n3, n4, n5, n6, n8, n15) : FnU) = (some (("__init__" : Str), ("BadText.__init__" : Str), defArgs s_BadText_init, FuncBody.stmts (defBody s_BadText_init), defScope s_BadText_init, mainGlobals, Value.none, builtinsNs) : FnU) := e
      simp only [Option.some.injEq, Prod.mk.injEq] at e2
      obtain ⟨h1, h2, h3, h4, h5, h6, h8, h9⟩ := e2
      subst h1 h2 h3 h4 h5 h6 h8 h9
      have c' : (PySem.W.codeIn K n13 "BadText.__init__" && (fileB P K n13 && cellB K (aBT K) n7)) = true := c
      obtain ⟨k1, k2⟩ := and2 c'
      obtain ⟨k3, k4⟩ := and2 k2
      have hf : ∃ cda, n13 = .ref cda ∧ ∃ ccl cdd vs ccs file tf, K.lookup cda = some ⟨ccl, cdd, .fields vs, ccs⟩ ∧ vs[2]? = some (.str file tf) ∧ (P.main.file == file) = true := by
        unfold fileB at k3
        split at k3
        · next cda =>
          split at k3
          · next ccl cdd vs ccs hl =>
            split at k3
            · next file tf hv => exact ⟨cda, rfl, ccl, cdd, vs, ccs, file, tf, hl, hv, k3⟩
            · cases k3
          · cases k3
        · cases k3
      have hc : ∃ cc, n7 = [(("__class__" : Str), cc)] ∧ ∃ cl cld csl, K.lookup cc = some ⟨cl, cld, .cell (some (.ref (aBT K))), csl⟩ := by
        unfold cellB at k4
        split at k4
        · next n cc =>
          obtain ⟨m1, m2⟩ := and2 k4
          refine ⟨cc, by rw [show n = "__class__" from of_decide_eq_true m1], ?_⟩
          split at m2
          · next cl cld c0 csl hl => exact ⟨cl, cld, csl, by rw [hl, show c0 = aBT K from of_decide_eq_true m2]⟩
          · cases m2
        · cases k4
      obtain ⟨cda, rfl, hf⟩ := hf
      obtain ⟨cc, rfl, hc⟩ := hc
      exact ⟨oc, od, n9, n10, n11, n12, cda, n14, osl, cc, rfl, k1, hf, hc⟩
    | _ => cases c
theorem btB_ok {P : Program} {K : PySem.W.Frag} (e : fnU K = vaU) (c : btB P K = true) (hs : (P.main.scope.names.lookup ("super" : Str)).isSome = false) : BtK P K ∧ XfC K (aBT K) ∧ PySem.W.exmOne K (.ref (aBT K)) (.ref (aBT K)) = some true := by
  obtain ⟨c1, c⟩ := and2 c
  obtain ⟨c2, c⟩ := and2 c
  obtain ⟨c3, c⟩ := and2 c
  obtain ⟨c4, c⟩ := and2 c
  obtain ⟨c5, c⟩ := and2 c
  obtain ⟨c6, c⟩ := and2 c
  obtain ⟨c7, c⟩ := and2 c
  obtain ⟨c8, c⟩ := and2 c
  obtain ⟨c9, c⟩ := and2 c
  obtain ⟨c10, c⟩ := and2 c
  obtain ⟨c11, c⟩ := and2 c
  obtain ⟨c12, c⟩ := and2 c
  obtain ⟨c13, c⟩ := and2 c
  obtain ⟨c14, c⟩ := and2 c
  obtain ⟨c15, c16⟩ := and2 c
  exact ⟨⟨⟨clsB_ok c1, He.eqO_ok c2, of_decide_eq_true c3, of_decide_eq_true c4, c5⟩, He.eqO_ok c6, of_decide_eq_true c7, fnB_ok e c8, He.eqO_ok c9, of_decide_eq_true c10, of_decide_eq_true c11, He.eqO_ok c12, He.eqO_ok c13, He.eqO_ok c14, hs⟩, xfB_ok c15, of_decide_eq_true c16⟩
end Ev
namespace Ev
open PySem PySem.Spec PyProof.Rows L2
/-! ## The head: what the top has written -/
def fn : List He.DefD := [⟨("is_word", none), "is_word", "is_word", defArgs s_is_word, defBody s_is_word, defScope s_is_word, [], []⟩,
  ⟨("is_value", none), "is_value", "is_value", defArgs s_is_value, defBody s_is_value, defScope s_is_value, [], []⟩,
  ⟨("is_row", none), "is_row", "is_row", defArgs s_is_row, defBody s_is_row, defScope s_is_row, [], []⟩,
  ⟨("value_key", none), "value_key", "value_key", defArgs s_value_key, defBody s_value_key, defScope s_value_key, [], []⟩,
  ⟨("row_key", none), "row_key", "row_key", defArgs s_row_key, defBody s_row_key, defScope s_row_key, [], []⟩,
  ⟨("table_of", none), "table_of", "table_of", defArgs s_table_of, defBody s_table_of, defScope s_table_of, [], []⟩,
  ⟨("is_fact", none), "is_fact", "is_fact", defArgs s_is_fact, defBody s_is_fact, defScope s_is_fact, [], []⟩,
  ⟨("fact_key", none), "fact_key", "fact_key", defArgs s_fact_key, defBody s_fact_key, defScope s_fact_key, [], []⟩,
  ⟨("make_store", none), "make_store", "make_store", defArgs s_make_store, defBody s_make_store, defScope s_make_store, [], []⟩,
  ⟨("read_book", none), "read_book", "read_book", defArgs s_read_book, defBody s_read_book, defScope s_read_book, [], []⟩,
  ⟨("tokens_of", none), "tokens_of", "tokens_of", defArgs s_tokens_of, defBody s_tokens_of, defScope s_tokens_of, [], []⟩,
  ⟨("token_at", none), "token_at", "token_at", defArgs s_token_at, defBody s_token_at, defScope s_token_at, [], []⟩,
  ⟨("run_end", none), "run_end", "run_end", defArgs s_run_end, defBody s_run_end, defScope s_run_end, [], []⟩,
  ⟨("Reader", some "sees"), "sees", "Reader.sees", defArgs s_Reader_sees, defBody s_Reader_sees, defScope s_Reader_sees, [], []⟩,
  ⟨("Reader", some "sees_word"), "sees_word", "Reader.sees_word", defArgs s_Reader_sees_word, defBody s_Reader_sees_word, defScope s_Reader_sees_word, [], []⟩,
  ⟨("Reader", some "sees_table"), "sees_table", "Reader.sees_table", defArgs s_Reader_sees_table, defBody s_Reader_sees_table, defScope s_Reader_sees_table, [], []⟩,
  ⟨("Reader", some "refuse"), "refuse", "Reader.refuse", defArgs s_Reader_refuse, defBody s_Reader_refuse, defScope s_Reader_refuse, [], []⟩,
  ⟨("Reader", some "take"), "take", "Reader.take", defArgs s_Reader_take, defBody s_Reader_take, defScope s_Reader_take, [], []⟩,
  ⟨("Reader", some "take_number"), "take_number", "Reader.take_number", defArgs s_Reader_take_number, defBody s_Reader_take_number, defScope s_Reader_take_number, [], []⟩,
  ⟨("Reader", some "take_name"), "take_name", "Reader.take_name", defArgs s_Reader_take_name, defBody s_Reader_take_name, defScope s_Reader_take_name, [], []⟩,
  ⟨("Reader", some "read_table"), "read_table", "Reader.read_table", defArgs s_Reader_read_table, defBody s_Reader_read_table, defScope s_Reader_read_table, [], []⟩,
  ⟨("Reader", some "read_fact"), "read_fact", "Reader.read_fact", defArgs s_Reader_read_fact, defBody s_Reader_read_fact, defScope s_Reader_read_fact, [], []⟩,
  ⟨("Reader", some "read_atom"), "read_atom", "Reader.read_atom", defArgs s_Reader_read_atom, defBody s_Reader_read_atom, defScope s_Reader_read_atom, [], []⟩,
  ⟨("Reader", some "read_terms"), "read_terms", "Reader.read_terms", defArgs s_Reader_read_terms, defBody s_Reader_read_terms, defScope s_Reader_read_terms, [], []⟩,
  ⟨("Reader", some "read_term"), "read_term", "Reader.read_term", defArgs s_Reader_read_term, defBody s_Reader_read_term, defScope s_Reader_read_term, [], []⟩,
  ⟨("_law_draws", none), "_law_draws", "_law_draws", defArgs s_l_draws, defBody s_l_draws, defScope s_l_draws, [], []⟩,
  ⟨("_law_take", none), "_law_take", "_law_take", defArgs s_l_take, defBody s_l_take, defScope s_l_take, [], []⟩,
  ⟨("_law_pick", none), "_law_pick", "_law_pick", defArgs s_l_pick, defBody s_l_pick, defScope s_l_pick, [], []⟩,
  ⟨("_law_size", none), "_law_size", "_law_size", defArgs s_l_size, defBody s_l_size, defScope s_l_size, [], []⟩,
  ⟨("_law_same", none), "_law_same", "_law_same", defArgs s_l_same, defBody s_l_same, defScope s_l_same, [], []⟩,
  ⟨("_law_key", none), "_law_key", "_law_key", defArgs s_l_key, defBody s_l_key, defScope s_l_key, [], []⟩,
  ⟨("_law_row_key", none), "_law_row_key", "_law_row_key", defArgs s_l_row_key, defBody s_l_row_key, defScope s_l_row_key, [], []⟩,
  ⟨("_law_table", none), "_law_table", "_law_table", defArgs s_l_table, defBody s_l_table, defScope s_l_table, [], []⟩,
  ⟨("_law_fact_key", none), "_law_fact_key", "_law_fact_key", defArgs s_l_fact_key, defBody s_l_fact_key, defScope s_l_fact_key, [], []⟩,
  ⟨("_law_store", none), "_law_store", "_law_store", defArgs s_l_store, defBody s_l_store, defScope s_l_store, [], []⟩,
  ⟨("_law_words", none), "_law_words", "_law_words", defArgs s_l_words, defBody s_l_words, defScope s_l_words, [], []⟩,
  ⟨("_law_some_words", none), "_law_some_words", "_law_some_words", defArgs s_l_some_words, defBody s_l_some_words, defScope s_l_some_words, [], []⟩,
  ⟨("_law_number", none), "_law_number", "_law_number", defArgs s_l_number, defBody s_l_number, defScope s_l_number, [], []⟩,
  ⟨("_law_any_value", none), "_law_any_value", "_law_any_value", defArgs s_l_any_value, defBody s_l_any_value, defScope s_l_any_value, [], []⟩,
  ⟨("_law_any_schema", none), "_law_any_schema", "_law_any_schema", defArgs s_l_any_schema, defBody s_l_any_schema, defScope s_l_any_schema, [], []⟩,
  ⟨("_law_any_facts", none), "_law_any_facts", "_law_any_facts", defArgs s_l_any_facts, defBody s_l_any_facts, defScope s_l_any_facts, [], []⟩,
  ⟨("_law_piece", none), "_law_piece", "_law_piece", defArgs s_l_piece, defBody s_l_piece, defScope s_l_piece, [], []⟩,
  ⟨("_law_listed", none), "_law_listed", "_law_listed", defArgs s_l_listed, defBody s_l_listed, defScope s_l_listed, [], []⟩,
  ⟨("_law_atom_pieces", none), "_law_atom_pieces", "_law_atom_pieces", defArgs s_l_atom_pieces, defBody s_l_atom_pieces, defScope s_l_atom_pieces, [], []⟩,
  ⟨("_law_table_pieces", none), "_law_table_pieces", "_law_table_pieces", defArgs s_l_table_pieces, defBody s_l_table_pieces, defScope s_l_table_pieces, [], []⟩,
  ⟨("_law_fact_pieces", none), "_law_fact_pieces", "_law_fact_pieces", defArgs s_l_fact_pieces, defBody s_l_fact_pieces, defScope s_l_fact_pieces, [], []⟩,
  ⟨("_law_glue", none), "_law_glue", "_law_glue", defArgs s_l_glue, defBody s_l_glue, defScope s_l_glue, [], []⟩,
  ⟨("_law_spaced", none), "_law_spaced", "_law_spaced", defArgs s_l_spaced, defBody s_l_spaced, defScope s_l_spaced, [], []⟩,
  ⟨("_law_run", none), "_law_run", "_law_run", defArgs s_l_run, defBody s_l_run, defScope s_l_run, [], []⟩,
  ⟨("_law_tokens", none), "_law_tokens", "_law_tokens", defArgs s_l_tokens, defBody s_l_tokens, defScope s_l_tokens, [], []⟩,
  ⟨("_law_tokens_of", none), "_law_tokens_of", "_law_tokens_of", defArgs s_l_tokens_of, defBody s_l_tokens_of, defScope s_l_tokens_of, [], []⟩,
  ⟨("_law_take_terms", none), "_law_take_terms", "_law_take_terms", defArgs s_l_take_terms, defBody s_l_take_terms, defScope s_l_take_terms, [], []⟩,
  ⟨("_law_take_atom", none), "_law_take_atom", "_law_take_atom", defArgs s_l_take_atom, defBody s_l_take_atom, defScope s_l_take_atom, [], []⟩,
  ⟨("_law_read_line", none), "_law_read_line", "_law_read_line", defArgs s_l_read_line, defBody s_l_read_line, defScope s_l_read_line, [], []⟩,
  ⟨("_law_reading_book", none), "_law_reading_book", "_law_reading_book", defArgs s_l_reading_book, defBody s_l_reading_book, defScope s_l_reading_book, [], []⟩,
  ⟨("_law_some_piece", none), "_law_some_piece", "_law_some_piece", defArgs s_l_some_piece, defBody s_l_some_piece, defScope s_l_some_piece, [], []⟩,
  ⟨("_law_mutated", none), "_law_mutated", "_law_mutated", defArgs s_l_mutated, defBody s_l_mutated, defScope s_l_mutated, [], []⟩,
  ⟨("_law_any_chars", none), "_law_any_chars", "_law_any_chars", defArgs s_l_any_chars, defBody s_l_any_chars, defScope s_l_any_chars, [], []⟩,
  ⟨("_law_short", none), "_law_short", "_law_short", defArgs s_l_short, defBody s_l_short, defScope s_l_short, [], []⟩,
  ⟨("_law_book_lines", none), "_law_book_lines", "_law_book_lines", defArgs s_l_book_lines, defBody s_l_book_lines, defScope s_l_book_lines, [], []⟩,
  ⟨("_law_told", none), "_law_told", "_law_told", defArgs s_l_told, defBody s_l_told, defScope s_l_told, [], []⟩,
  ⟨("_law_changed", none), "_law_changed", "_law_changed", defArgs s_l_changed, defBody s_l_changed, defScope s_l_changed, [], []⟩,
  ⟨("_law_any_lines", none), "_law_any_lines", "_law_any_lines", defArgs s_l_any_lines, defBody s_l_any_lines, defScope s_l_any_lines, [], []⟩,
  ⟨("law", none), "law", "law", defArgs s_law, defBody s_law, defScope s_law, [], []⟩,
  ⟨("Reader", some "__init__"), "__init__", "Reader.__init__", defArgs s_Reader_init, defBody s_Reader_init, defScope s_Reader_init, [], []⟩]
def fa : List He.Fa := [.glo "is_word", .glo "is_value", .glo "is_row", .glo "value_key", .glo "row_key", .glo "table_of", .glo "is_fact", .glo "fact_key", .glo "make_store", .glo "read_book", .glo "tokens_of", .glo "token_at", .glo "run_end", .meth "Reader" "sees", .meth "Reader" "sees_word", .meth "Reader" "sees_table", .meth "Reader" "refuse", .meth "Reader" "take", .meth "Reader" "take_number", .meth "Reader" "take_name", .meth "Reader" "read_table", .meth "Reader" "read_fact", .meth "Reader" "read_atom", .meth "Reader" "read_terms", .meth "Reader" "read_term", .glo "_law_draws", .glo "_law_take", .glo "_law_pick", .glo "_law_size", .glo "_law_same", .glo "_law_key", .glo "_law_row_key", .glo "_law_table", .glo "_law_fact_key", .glo "_law_store", .glo "_law_words", .glo "_law_some_words", .glo "_law_number", .glo "_law_any_value", .glo "_law_any_schema", .glo "_law_any_facts", .glo "_law_piece", .glo "_law_listed", .glo "_law_atom_pieces", .glo "_law_table_pieces", .glo "_law_fact_pieces", .glo "_law_glue", .glo "_law_spaced", .glo "_law_run", .glo "_law_tokens", .glo "_law_tokens_of", .glo "_law_take_terms", .glo "_law_take_atom", .glo "_law_read_line", .glo "_law_reading_book", .glo "_law_some_piece", .glo "_law_mutated", .glo "_law_any_chars", .glo "_law_short", .glo "_law_book_lines", .glo "_law_told", .glo "_law_changed", .glo "_law_any_lines", .glo "law", .free "len", .free "int", .free "str", .free "list", .free "tuple", .free "bool", .free "range", .free "sorted", .free "isinstance", .free "all", .free "abs", .free "super", .str "LETTERS" "abcdefghijklmnopqrstuvwxyz", .str "DIGITS" "0123456789", .str "SIGNS" "()[],;|", .int "MOST_COLUMNS" 8, .cls "Reader", .glo "Reader", .mkr "Reader", .noat "Reader" "tokens", .noat "Reader" "line", .noat "Reader" "tables", .noat "Reader" "place", .glo "BadText"]
theorem tx_of {K : PySem.W.Frag} {h : Heap} {mg : Str → Option Value} (X : K.In h) (G : h.Ns mainGlobals mg) (c : He.SaysD fa fn K) : Tx K mg ∧ mg "BadText" = some (.ref (aBT K)) :=
  ⟨⟨⟨c.def_ 0 rfl, He.glo_ok X G (c.fact 0 rfl)⟩,
    ⟨c.def_ 1 rfl, He.glo_ok X G (c.fact 1 rfl)⟩,
    ⟨c.def_ 2 rfl, He.glo_ok X G (c.fact 2 rfl)⟩,
    ⟨c.def_ 3 rfl, He.glo_ok X G (c.fact 3 rfl)⟩,
    ⟨c.def_ 4 rfl, He.glo_ok X G (c.fact 4 rfl)⟩,
    ⟨c.def_ 5 rfl, He.glo_ok X G (c.fact 5 rfl)⟩,
    ⟨c.def_ 6 rfl, He.glo_ok X G (c.fact 6 rfl)⟩,
    ⟨c.def_ 7 rfl, He.glo_ok X G (c.fact 7 rfl)⟩,
    ⟨c.def_ 8 rfl, He.glo_ok X G (c.fact 8 rfl)⟩,
    ⟨c.def_ 9 rfl, He.glo_ok X G (c.fact 9 rfl)⟩,
    ⟨c.def_ 10 rfl, He.glo_ok X G (c.fact 10 rfl)⟩,
    ⟨c.def_ 11 rfl, He.glo_ok X G (c.fact 11 rfl)⟩,
    ⟨c.def_ 12 rfl, He.glo_ok X G (c.fact 12 rfl)⟩,
    ⟨c.def_ 13 rfl, He.meth_ok (c.fact 13 rfl)⟩,
    ⟨c.def_ 14 rfl, He.meth_ok (c.fact 14 rfl)⟩,
    ⟨c.def_ 15 rfl, He.meth_ok (c.fact 15 rfl)⟩,
    ⟨c.def_ 16 rfl, He.meth_ok (c.fact 16 rfl)⟩,
    ⟨c.def_ 17 rfl, He.meth_ok (c.fact 17 rfl)⟩,
    ⟨c.def_ 18 rfl, He.meth_ok (c.fact 18 rfl)⟩,
    ⟨c.def_ 19 rfl, He.meth_ok (c.fact 19 rfl)⟩,
    ⟨c.def_ 20 rfl, He.meth_ok (c.fact 20 rfl)⟩,
    ⟨c.def_ 21 rfl, He.meth_ok (c.fact 21 rfl)⟩,
    ⟨c.def_ 22 rfl, He.meth_ok (c.fact 22 rfl)⟩,
    ⟨c.def_ 23 rfl, He.meth_ok (c.fact 23 rfl)⟩,
    ⟨c.def_ 24 rfl, He.meth_ok (c.fact 24 rfl)⟩,
    ⟨c.def_ 25 rfl, He.glo_ok X G (c.fact 25 rfl)⟩,
    ⟨c.def_ 26 rfl, He.glo_ok X G (c.fact 26 rfl)⟩,
    ⟨c.def_ 27 rfl, He.glo_ok X G (c.fact 27 rfl)⟩,
    ⟨c.def_ 28 rfl, He.glo_ok X G (c.fact 28 rfl)⟩,
    ⟨c.def_ 29 rfl, He.glo_ok X G (c.fact 29 rfl)⟩,
    ⟨c.def_ 30 rfl, He.glo_ok X G (c.fact 30 rfl)⟩,
    ⟨c.def_ 31 rfl, He.glo_ok X G (c.fact 31 rfl)⟩,
    ⟨c.def_ 32 rfl, He.glo_ok X G (c.fact 32 rfl)⟩,
    ⟨c.def_ 33 rfl, He.glo_ok X G (c.fact 33 rfl)⟩,
    ⟨c.def_ 34 rfl, He.glo_ok X G (c.fact 34 rfl)⟩,
    ⟨c.def_ 35 rfl, He.glo_ok X G (c.fact 35 rfl)⟩,
    ⟨c.def_ 36 rfl, He.glo_ok X G (c.fact 36 rfl)⟩,
    ⟨c.def_ 37 rfl, He.glo_ok X G (c.fact 37 rfl)⟩,
    ⟨c.def_ 38 rfl, He.glo_ok X G (c.fact 38 rfl)⟩,
    ⟨c.def_ 39 rfl, He.glo_ok X G (c.fact 39 rfl)⟩,
    ⟨c.def_ 40 rfl, He.glo_ok X G (c.fact 40 rfl)⟩,
    ⟨c.def_ 41 rfl, He.glo_ok X G (c.fact 41 rfl)⟩,
    ⟨c.def_ 42 rfl, He.glo_ok X G (c.fact 42 rfl)⟩,
    ⟨c.def_ 43 rfl, He.glo_ok X G (c.fact 43 rfl)⟩,
    ⟨c.def_ 44 rfl, He.glo_ok X G (c.fact 44 rfl)⟩,
    ⟨c.def_ 45 rfl, He.glo_ok X G (c.fact 45 rfl)⟩,
    ⟨c.def_ 46 rfl, He.glo_ok X G (c.fact 46 rfl)⟩,
    ⟨c.def_ 47 rfl, He.glo_ok X G (c.fact 47 rfl)⟩,
    ⟨c.def_ 48 rfl, He.glo_ok X G (c.fact 48 rfl)⟩,
    ⟨c.def_ 49 rfl, He.glo_ok X G (c.fact 49 rfl)⟩,
    ⟨c.def_ 50 rfl, He.glo_ok X G (c.fact 50 rfl)⟩,
    ⟨c.def_ 51 rfl, He.glo_ok X G (c.fact 51 rfl)⟩,
    ⟨c.def_ 52 rfl, He.glo_ok X G (c.fact 52 rfl)⟩,
    ⟨c.def_ 53 rfl, He.glo_ok X G (c.fact 53 rfl)⟩,
    ⟨c.def_ 54 rfl, He.glo_ok X G (c.fact 54 rfl)⟩,
    ⟨c.def_ 55 rfl, He.glo_ok X G (c.fact 55 rfl)⟩,
    ⟨c.def_ 56 rfl, He.glo_ok X G (c.fact 56 rfl)⟩,
    ⟨c.def_ 57 rfl, He.glo_ok X G (c.fact 57 rfl)⟩,
    ⟨c.def_ 58 rfl, He.glo_ok X G (c.fact 58 rfl)⟩,
    ⟨c.def_ 59 rfl, He.glo_ok X G (c.fact 59 rfl)⟩,
    ⟨c.def_ 60 rfl, He.glo_ok X G (c.fact 60 rfl)⟩,
    ⟨c.def_ 61 rfl, He.glo_ok X G (c.fact 61 rfl)⟩,
    ⟨c.def_ 62 rfl, He.glo_ok X G (c.fact 62 rfl)⟩,
    ⟨c.def_ 63 rfl, He.glo_ok X G (c.fact 63 rfl)⟩,
    He.free_ok X G (c.fact 64 rfl),
    He.free_ok X G (c.fact 65 rfl),
    He.free_ok X G (c.fact 66 rfl),
    He.free_ok X G (c.fact 67 rfl),
    He.free_ok X G (c.fact 68 rfl),
    He.free_ok X G (c.fact 69 rfl),
    He.free_ok X G (c.fact 70 rfl),
    He.free_ok X G (c.fact 71 rfl),
    He.free_ok X G (c.fact 72 rfl),
    He.free_ok X G (c.fact 73 rfl),
    He.free_ok X G (c.fact 74 rfl),
    He.free_ok X G (c.fact 75 rfl),
    He.str_ok X G (c.fact 76 rfl),
    He.str_ok X G (c.fact 77 rfl),
    He.str_ok X G (c.fact 78 rfl),
    He.int_ok X G (c.fact 79 rfl),
    He.cls_ok (c.fact 80 rfl),
    He.glo_ok X G (c.fact 81 rfl),
    He.mkr_ok (c.fact 82 rfl),
    c.def_ 64 rfl,
    He.noat_ok (c.fact 83 rfl),
    He.noat_ok (c.fact 84 rfl),
    He.noat_ok (c.fact 85 rfl),
    He.noat_ok (c.fact 86 rfl)⟩, He.glo_ok X G (c.fact 87 rfl)⟩
end Ev
namespace Ev
open PySem PySem.Spec PyProof.Rows L2
def asW (g : Addr → Option Obj) : List Addr := cStatics :: He.asD g 4
abbrev AlW : Type := He.AlD × FnU × Bool
def obsW (P : Program) (g : Addr → Option Obj) : AlW := (He.obsD fa fn (He.frG g (asW g)), fnU (He.frG g (asW g)), btB P (He.frG g (asW g)))
def SaysW (P : Program) (K : PySem.W.Frag) : Prop := He.SaysD fa fn K ∧ fnU K = vaU ∧ btB P K = true
def hookW (P : Program) : PySem.W.Hook where
  α := AlW
  obs := fun s => obsW P s.heap.get?
  val := fun _ => (He.valD fn, vaU, true)
  says := fun _ h => ∃ K : PySem.W.Frag, K.In h ∧ SaysW P K
  of := fun _ _ e => ⟨_, He.frG_in, congrArg (fun z : AlW => z.1) e, congrArg (fun z : AlW => z.2.1) e, congrArg (fun z : AlW => z.2.2) e⟩
  keeps := fun _ _ _ ⟨K, hK, c⟩ k => ⟨K, PySem.W.Frag.In.keeps hK k, c⟩
theorem obsW_eq {P : Program} {g : Addr → Option Obj} {s : Shared} (h : ∀ a, g a = s.heap.get? a) : obsW P g = (hookW P).obs s := by
  have e : g = s.heap.get? := funext h
  rw [e] <;> rfl
abbrev R : PySem.W.OpenRow := PySem.W.OpenLaw.row PySem.Challenge.rw_everymending_k32_whole_any_book_text
abbrev hk : PySem.W.Hook := hookW R.prog
def ob (s : PySem.W.SharedT) : AlW := obsW R.prog (HandSHeadRun.getT s)
theorem ob_eq (s : PySem.W.SharedT) : ob s = hk.obs s.abs := obsW_eq (HandSHeadRun.getT_eq s)
def ls1 : List Str := [("_wall" : Str), ("__name__" : Str), ("MendError" : Str), ("NoRow" : Str), ("BadText" : Str), ("__name__" : Str), ("LETTERS" : Str), ("is_word" : Str), ("is_value" : Str), ("is_row" : Str), ("value_key" : Str), ("row_key" : Str), ("__name__" : Str), ("table_of" : Str), ("is_fact" : Str), ("__name__" : Str), ("fact_key" : Str), ("make_store" : Str), ("__name__" : Str), ("DIGITS" : Str), ("SIGNS" : Str), ("MOST_COLUMNS" : Str), ("read_book" : Str), ("tokens_of" : Str), ("token_at" : Str), ("run_end" : Str), ("Reader" : Str), ("__name__" : Str), ("_law_draws" : Str), ("_law_take" : Str), ("_law_pick" : Str), ("_law_size" : Str), ("_law_same" : Str)]
def ls2 : List Str := [("_law_key" : Str), ("_law_row_key" : Str), ("_law_table" : Str), ("_law_fact_key" : Str), ("_law_store" : Str), ("_law_words" : Str), ("_law_some_words" : Str), ("_law_number" : Str), ("_law_any_value" : Str), ("_law_any_schema" : Str), ("_law_any_facts" : Str), ("_law_piece" : Str), ("_law_listed" : Str), ("_law_atom_pieces" : Str), ("_law_table_pieces" : Str), ("_law_fact_pieces" : Str), ("_law_glue" : Str), ("_law_spaced" : Str), ("_law_run" : Str), ("_law_tokens" : Str), ("_law_tokens_of" : Str), ("_law_take_terms" : Str), ("_law_take_atom" : Str), ("_law_read_line" : Str), ("_law_reading_book" : Str), ("_law_some_piece" : Str), ("_law_mutated" : Str), ("_law_any_chars" : Str), ("_law_short" : Str), ("_law_book_lines" : Str), ("_law_told" : Str), ("_law_changed" : Str), ("_law_any_lines" : Str)]
theorem run (w : World) : HandSHeadRun.RunEq R (PySem.W.view R.prog [66]) hk ob 6000 (ls1 ++ ls2) w := by
  intro os
  kernel_rfl
end Ev
namespace Ev
open PySem PySem.Spec PyProof.Rows L2
theorem facts {w : World} {K : PySem.W.Frag} {h : Heap} {mg : Str → Option Value} {f : Addr} (X : K.In h) (G : h.Ns mainGlobals mg) (hfa : mg ("law" : Str) = some (.ref f)) (c : SaysW R.prog K) :
    ∃ fd : FuncData, (∀ (s : Shared) (v : Value), BindsTo s fd ⟨[v], []⟩ [("_law_script", v)]) ∧ ∀ base : Heap, K.In base → base.Ns mainGlobals mg → FnOk R.prog w K mg base CX0 10 f fd ["_law_script"] (sp_law K) := by
  obtain ⟨c1, c2, c3⟩ := c
  obtain ⟨T, gB⟩ := tx_of X G c1
  obtain ⟨B, xf, ex⟩ := btB_ok c2 c3 (by decide +kernel)
  obtain ⟨fd, F⟩ := T.d_law.d
  have e := hfa.symm.trans T.d_law.g
  cases e
  have b := FunD.bindsA (ps := ["_law_script"]) F fun _ _ _ _ _ _ us hl => match us, hl with | [_], _ => rfl
  exact ⟨fd, fun s v => b s [v] rfl, fun base _ _ => ok_law T B ⟨xf, ex⟩ gB F⟩
end Ev
open PySem PySem.W PySem.Calls PyProof.Rows
theorem PySem.Challenge.cw_everymending_k32_whole_any_book_text_holds : PySem.Challenge.rw_everymending_k32_whole_any_book_text.Holds := by
  w_on; o_law
  refine HandSHeadRun.head_any (r := OpenLaw.row PySem.Challenge.rw_everymending_k32_whole_any_book_text) (q := view (OpenLaw.row PySem.Challenge.rw_everymending_k32_whole_any_book_text).prog [66]) (H := Ev.hk) (ob := Ev.ob) (M := 6000) (loose := Ev.ls1 ++ Ev.ls2) (d := HandSHeadRun.topDef (OpenLaw.row PySem.Challenge.rw_everymending_k32_whole_any_book_text).prog 66) (kwd := []) Ev.ob_eq
    (by kernel_rfl) (fun s => by kernel_rfl) Ev.run (by kernel_rfl) (by kernel_rfl) (by kernel_rfl) (by rfl) (by first | assumption | decide +kernel) (by decide +kernel) ⟨rfl, rfl, rfl, rfl, rfl, by decide +kernel⟩ ?hw ?hc
  case hw => w_witness2
  case hc =>
    refine L2.walk_ofE (l := PySem.Challenge.rw_everymending_k32_whole_any_book_text) (n := 63) (k := 10) (x := "_law_script") (CX := L2.CX0) rfl (by decide) (by kernel_rfl) ⟨rfl, by decide, by decide⟩ ?F (fun _ _ _ _ z => z)
    intro w mg fa h Y G hmg0
    obtain ⟨K, KX, c⟩ := Y
    have hmg : mg ("law" : PySem.Str) = some (.ref fa) := by
      have e : (HandSHeadRun.topDef (OpenLaw.row PySem.Challenge.rw_everymending_k32_whole_any_book_text).prog 66).name = ("law" : PySem.Str) := by kernel_rfl
      rw [← e]
      exact hmg0
    obtain ⟨fd, hb, hF⟩ := Ev.facts (w := w) KX G hmg c
    exact ⟨K, fd, Ev.sp_law K, KX, hb, fun H a ns hl _ hS => ⟨a, ns, rfl, hS, hl, fun _ => rfl⟩, hF⟩

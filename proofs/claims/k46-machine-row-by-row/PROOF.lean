import PyProof.Rows.All
import Wide.All
import OpenK.AllK
import Wide.FinOn
import HandS.ForMost
import HandS.Defaults
import HandS.Codes
import HandS.Style
import HandS.Flow
import HandS.HeadHook1
import HandS.HeadHook2
import HandS.HeadHook3
import HandS.HeadHook4
import HandS.Walk
import PyProof.NeData
import KE.KUnpackStar
import HandS.TupAny
import HandS.DictComp
import HandS.Exc
import HandS.ExcInit
import HandS.ExcIs
import HandS.ExcField
import HandS.IsInst
import HandS.ExcOwn
import HandS.MakeKwOnly
import HandS.CallSlots
import HandS.ForExc
import KE.KRevSl
import KE.KDictOf
import HandS.Dict
import KE.GoesEnum
import KE.GoesZip
import HandS.Zip
import HandS.Conv
import HandS.Text
import PyProof.ReprRoads
import HandS.HeadEnd
import HandS.Small
import PyProof.EqAt
import PyProof.EqKinds
import KE.KSortTup
import KE.KSortTupAny
import HandS.Sort
import HandS.SortOrd
import HandS.SortRule
import HandS.Set
import HandS.Strs
import HandS.Iter
import KE.KStateDown
import Lean
import HandS.Head0
import HandS.Head1
import HandS.Head2
import PyProof.StrLawsRepr
import PyProof.ReprLen
import HandS.NoneIn
import PySem.Challenge.RW_kindsbyworth_k46_the_machine_row_by_row
set_option Elab.async false
set_option linter.all false
set_option maxRecDepth 100000
/-! K46T -/
set_option maxHeartbeats 4000000
namespace K46
open PySem PySem.Spec PyProof.Rows L2 C8
/-! the text by places -/
def top (i : Nat) : Stmt := PySem.Challenge.pw_kindsbyworth_k46_the_machine_row_by_row.main.body.getD i (.Pass ⟨0, 0, 0, 0⟩)
abbrev s_TooLong_init : Stmt := inClass (top 3) 0
abbrev s_TooGreat_init : Stmt := inClass (top 4) 0
abbrev s_Frame_init : Stmt := inClass (top 10) 0
abbrev s_Frame_next_row : Stmt := inClass (top 10) 1
abbrev s_Frame_take_off : Stmt := inClass (top 10) 2
abbrev s_Frame_ask : Stmt := inClass (top 10) 3
abbrev s_Machine_init : Stmt := inClass (top 11) 0
abbrev s_Machine_begin_frame : Stmt := inClass (top 11) 1
abbrev s_Machine_enter : Stmt := inClass (top 11) 2
abbrev s_Machine_row_done : Stmt := inClass (top 11) 3
abbrev s_Machine_end_frame : Stmt := inClass (top 11) 4
abbrev s_run_made : Stmt := top 12
abbrev s_bare_parts : Stmt := top 14
abbrev s_asks_in : Stmt := top 25
abbrev s_own_row : Stmt := top 26
abbrev s_Maker_init : Stmt := inClass (top 27) 0
abbrev s_Maker_new_name : Stmt := inClass (top 27) 1
abbrev s_Maker_add_block : Stmt := inClass (top 27) 2
abbrev s_Maker_code_of : Stmt := inClass (top 27) 3
abbrev s_Maker_closed_code : Stmt := inClass (top 27) 4
abbrev s_Maker_add_due : Stmt := inClass (top 27) 5
abbrev s_Maker_rows_code : Stmt := inClass (top 27) 6
abbrev s_Maker_further_code : Stmt := inClass (top 27) 7
abbrev s_made : Stmt := top 28
abbrev s_deck : Stmt := top 30
abbrev s_draw : Stmt := top 31
abbrev s_pick : Stmt := top 32
abbrev s_names : Stmt := top 33
abbrev s_pattern : Stmt := top 34
abbrev s_takes : Stmt := top 35
abbrev s_name_of : Stmt := top 36
abbrev s_of : Stmt := top 37
abbrev s_own_call : Stmt := top 38
abbrev s_data : Stmt := top 39
abbrev s_row : Stmt := top 40
abbrev s_closed : Stmt := top 41
abbrev s_program : Stmt := top 42
abbrev s_taken : Stmt := top 43
abbrev s_step : Stmt := top 44
abbrev s_runs : Stmt := top 45
abbrev s_call : Stmt := top 46
abbrev s_run : Stmt := top 47
abbrev s_is_row : Stmt := top 48
abbrev s_are_blocks : Stmt := top 49
abbrev s_asked : Stmt := top 50
abbrev s_off : Stmt := top 51
abbrev s_gone : Stmt := top 52
abbrev s_machine : Stmt := top 53
abbrev s_heard : Stmt := top 54
abbrev s_is_small : Stmt := top 55
abbrev s_right : Stmt := top 56
abbrev s_counted : Stmt := top 57
abbrev s_deep_right : Stmt := top 58
abbrev s_law : Stmt := top 59
/-! the scopes: names by slots -/
theorem sc_TooLong_init : L2.FnScope ["self", "most"] ["self", "most"] (defScope s_TooLong_init) := ⟨rfl, rfl, rfl, by decide +kernel, rfl, by decide +kernel, by decide +kernel⟩
theorem sc_TooGreat_init : L2.FnScope ["self", "size"] ["self", "size"] (defScope s_TooGreat_init) := ⟨rfl, rfl, rfl, by decide +kernel, rfl, by decide +kernel, by decide +kernel⟩
theorem sc_Frame_init : L2.FnScope ["self", "code", "given"] ["self", "code", "given"] (defScope s_Frame_init) := ⟨rfl, rfl, rfl, by decide +kernel, rfl, by decide +kernel, by decide +kernel⟩
theorem sc_Frame_next_row : L2.FnScope ["self", "row"] ["self"] (defScope s_Frame_next_row) := ⟨rfl, rfl, rfl, by decide +kernel, rfl, by decide +kernel, by decide +kernel⟩
theorem sc_Frame_take_off : L2.FnScope ["self", "many", "at", "found"] ["self", "many"] (defScope s_Frame_take_off) := ⟨rfl, rfl, rfl, by decide +kernel, rfl, by decide +kernel, by decide +kernel⟩
theorem sc_Frame_ask : L2.FnScope ["self", "k", "choices", "line", "value", "name", "further"] ["self", "k", "choices", "line"] (defScope s_Frame_ask) := ⟨rfl, rfl, rfl, by decide +kernel, rfl, by decide +kernel, by decide +kernel⟩
theorem sc_Machine_init : L2.FnScope ["self", "blocks", "name", "many", "code"] ["self", "blocks"] (defScope s_Machine_init) := ⟨rfl, rfl, rfl, by decide +kernel, rfl, by decide +kernel, by decide +kernel⟩
theorem sc_Machine_begin_frame : L2.FnScope ["self", "name", "given"] ["self", "name", "given"] (defScope s_Machine_begin_frame) := ⟨rfl, rfl, rfl, by decide +kernel, rfl, by decide +kernel, by decide +kernel⟩
theorem sc_Machine_enter : L2.FnScope ["self", "closure", "given", "word", "name", "values"] ["self", "closure", "given"] (defScope s_Machine_enter) := ⟨rfl, rfl, rfl, by decide +kernel, rfl, by decide +kernel, by decide +kernel⟩
theorem sc_Machine_row_done : L2.FnScope ["self", "row", "frame", "word", "rest", "closure", "given"] ["self", "row"] (defScope s_Machine_row_done) := ⟨rfl, rfl, rfl, by decide +kernel, rfl, by decide +kernel, by decide +kernel⟩
theorem sc_Machine_end_frame : L2.FnScope ["self", "frame"] ["self"] (defScope s_Machine_end_frame) := ⟨rfl, rfl, rfl, by decide +kernel, rfl, by decide +kernel, by decide +kernel⟩
theorem sc_run_made : L2.FnScope ["blocks", "most", "machine", "gone"] ["blocks", "most"] (defScope s_run_made) := ⟨rfl, rfl, rfl, by decide +kernel, rfl, by decide +kernel, by decide +kernel⟩
theorem sc_bare_parts : L2.FnScope ["term"] ["term"] (defScope s_bare_parts) := ⟨rfl, rfl, rfl, by decide +kernel, rfl, by decide +kernel, by decide +kernel⟩
theorem sc_asks_in : L2.FnScope ["pattern", "place", "known", "rows", "word", "name", "patterns", "first", "taken", "k", "part", "more"] ["pattern", "place", "known", "rows"] (defScope s_asks_in) := ⟨rfl, rfl, rfl, by decide +kernel, rfl, by decide +kernel, by decide +kernel⟩
theorem sc_own_row : L2.FnScope ["term"] ["term"] (defScope s_own_row) := ⟨rfl, rfl, rfl, by decide +kernel, rfl, by decide +kernel, by decide +kernel⟩
theorem sc_Maker_init : L2.FnScope ["self"] ["self"] (defScope s_Maker_init) := ⟨rfl, rfl, rfl, by decide +kernel, rfl, by decide +kernel, by decide +kernel⟩
theorem sc_Maker_new_name : L2.FnScope ["self"] ["self"] (defScope s_Maker_new_name) := ⟨rfl, rfl, rfl, by decide +kernel, rfl, by decide +kernel, by decide +kernel⟩
theorem sc_Maker_add_block : L2.FnScope ["self", "name", "many", "code"] ["self", "name", "many", "code"] (defScope s_Maker_add_block) := ⟨rfl, rfl, rfl, by decide +kernel, rfl, by decide +kernel, by decide +kernel⟩
theorem sc_Maker_code_of : L2.FnScope ["self", "term", "around", "rows", "left", "here", "is_behind", "part"] ["self", "term", "around"] (defScope s_Maker_code_of) := ⟨rfl, rfl, rfl, by decide +kernel, rfl, by decide +kernel, by decide +kernel⟩
theorem sc_Maker_closed_code : L2.FnScope ["self", "term", "around", "many", "name", "k"] ["self", "term", "around"] (defScope s_Maker_closed_code) := ⟨rfl, rfl, rfl, by decide +kernel, rfl, by decide +kernel, by decide +kernel⟩
theorem sc_Maker_add_due : L2.FnScope ["self", "name", "many", "body"] ["self"] (defScope s_Maker_add_due) := ⟨rfl, rfl, rfl, by decide +kernel, rfl, by decide +kernel, by decide +kernel⟩
theorem sc_Maker_rows_code : L2.FnScope ["self", "many", "rows", "patterns", "body", "others", "asked", "taken", "known", "place", "pattern", "more", "own", "further", "found", "line", "name"] ["self", "many", "rows"] (defScope s_Maker_rows_code) := ⟨rfl, rfl, rfl, by decide +kernel, rfl, by decide +kernel, by decide +kernel⟩
theorem sc_Maker_further_code : L2.FnScope ["self", "many", "others", "name", "k"] ["self", "many", "others"] (defScope s_Maker_further_code) := ⟨rfl, rfl, rfl, by decide +kernel, rfl, by decide +kernel, by decide +kernel⟩
theorem sc_made : L2.FnScope ["program", "term", "maker", "name", "many", "rows"] ["program", "term"] (defScope s_made) := ⟨rfl, rfl, rfl, by decide +kernel, rfl, by decide +kernel, by decide +kernel⟩
theorem sc_deck : L2.FnScope ["_law_script", "_law_cells", "_law_cell"] ["_law_script"] (defScope s_deck) := ⟨rfl, rfl, rfl, by decide +kernel, rfl, by decide +kernel, by decide +kernel⟩
theorem sc_draw : L2.FnScope ["_law_deck_here", "_law_ways", "_law_cell", "_law_mixed"] ["_law_deck_here", "_law_ways"] (defScope s_draw) := ⟨rfl, rfl, rfl, by decide +kernel, rfl, by decide +kernel, by decide +kernel⟩
theorem sc_pick : L2.FnScope ["_law_deck_here", "_law_some"] ["_law_deck_here", "_law_some"] (defScope s_pick) := ⟨rfl, rfl, rfl, by decide +kernel, rfl, by decide +kernel, by decide +kernel⟩
theorem sc_names : L2.FnScope ["_law_deck_here", "_law_many", "_law_letters", "_law_way", "_law_first", "_law_word", "_law_k", "_law_found", "_law_letter"] ["_law_deck_here", "_law_many"] (defScope s_names) := ⟨rfl, rfl, rfl, by decide +kernel, rfl, by decide +kernel, by decide +kernel⟩
theorem sc_pattern : L2.FnScope ["_law_deck_here", "_law_shapes", "_law_deep", "_law_way", "_law_name", "_law_many", "_law_k"] ["_law_deck_here", "_law_shapes", "_law_deep"] (defScope s_pattern) := ⟨rfl, rfl, rfl, by decide +kernel, rfl, by decide +kernel, by decide +kernel⟩
theorem sc_takes : L2.FnScope ["_law_pattern_here", "_law_within", "_law_found", "_law_one"] ["_law_pattern_here", "_law_within"] (defScope s_takes) := ⟨rfl, rfl, rfl, by decide +kernel, rfl, by decide +kernel, by decide +kernel⟩
theorem sc_name_of : L2.FnScope ["_law_deck_here", "_law_around", "_law_kind", "_law_some", "_law_k"] ["_law_deck_here", "_law_around", "_law_kind"] (defScope s_name_of) := ⟨rfl, rfl, rfl, by decide +kernel, rfl, by decide +kernel, by decide +kernel⟩
theorem sc_of : L2.FnScope ["_law_deck_here", "_law_kit", "_law_around", "_law_deep", "_law_kind", "_law_found"] ["_law_deck_here", "_law_kit", "_law_around", "_law_deep", "_law_kind"] (defScope s_of) := ⟨rfl, rfl, rfl, by decide +kernel, rfl, by decide +kernel, by decide +kernel⟩
theorem sc_own_call : L2.FnScope ["_law_deck_here", "_law_kit", "_law_around", "_law_deep", "_law_name", "_law_places", "_law_less", "_law_smalls", "_law_found", "_law_k", "_law_kind", "_law_one"] ["_law_deck_here", "_law_kit", "_law_around", "_law_deep"] (defScope s_own_call) := ⟨rfl, rfl, rfl, by decide +kernel, rfl, by decide +kernel, by decide +kernel⟩
theorem sc_data : L2.FnScope ["_law_deck_here", "_law_kit", "_law_around", "_law_deep", "_law_way", "_law_found", "_law_function", "_law_name", "_law_places", "_law_kind", "_law_many", "_law_k"] ["_law_deck_here", "_law_kit", "_law_around", "_law_deep"] (defScope s_data) := ⟨rfl, rfl, rfl, by decide +kernel, rfl, by decide +kernel, by decide +kernel⟩
theorem sc_row : L2.FnScope ["_law_deck_here", "_law_kit", "_law_own", "_law_last", "_law_name", "_law_places", "_law_less", "_law_patterns", "_law_around", "_law_smalls", "_law_k", "_law_kind", "_law_pattern_here", "_law_within", "_law_here"] ["_law_deck_here", "_law_kit", "_law_own", "_law_last"] (defScope s_row) := ⟨rfl, rfl, rfl, by decide +kernel, rfl, by decide +kernel, by decide +kernel⟩
theorem sc_closed : L2.FnScope ["_law_deck_here", "_law_kit"] ["_law_deck_here", "_law_kit"] (defScope s_closed) := ⟨rfl, rfl, rfl, by decide +kernel, rfl, by decide +kernel, by decide +kernel⟩
theorem sc_program : L2.FnScope ["_law_deck_here", "_law_names_here", "_law_shapes", "_law_kit", "_law_found", "_law_k", "_law_name", "_law_some", "_law_places", "_law_turn", "_law_own", "_law_rows"] ["_law_deck_here"] (defScope s_program) := ⟨rfl, rfl, rfl, by decide +kernel, rfl, by decide +kernel, by decide +kernel⟩
theorem sc_taken : L2.FnScope ["_law_pattern_here", "_law_worth", "_law_found", "_law_one", "_law_other", "_law_more"] ["_law_pattern_here", "_law_worth"] (defScope s_taken) := ⟨rfl, rfl, rfl, by decide +kernel, rfl, by decide +kernel, by decide +kernel⟩
theorem sc_step : L2.FnScope ["_law_program_here", "_law_body", "_law_around", "_law_count"] ["_law_program_here", "_law_body", "_law_around", "_law_count"] (defScope s_step) := ⟨rfl, rfl, rfl, by decide +kernel, rfl, by decide +kernel, by decide +kernel⟩
theorem sc_runs : L2.FnScope ["_law_program_here", "_law_terms", "_law_around", "_law_count", "_law_found", "_law_one", "_law_worth"] ["_law_program_here", "_law_terms", "_law_around", "_law_count"] (defScope s_runs) := ⟨rfl, rfl, rfl, by decide +kernel, rfl, by decide +kernel, by decide +kernel⟩
theorem sc_call : L2.FnScope ["_law_program_here", "_law_name", "_law_worths", "_law_count", "_law_rows", "_law_row_here", "_law_patterns", "_law_body", "_law_taken_here", "_law_pattern_here", "_law_worth", "_law_more"] ["_law_program_here", "_law_name", "_law_worths", "_law_count"] (defScope s_call) := ⟨rfl, rfl, rfl, by decide +kernel, rfl, by decide +kernel, by decide +kernel⟩
theorem sc_run : L2.FnScope ["_law_program_here", "_law_term", "_law_around", "_law_count", "_law_word", "_law_worths"] ["_law_program_here", "_law_term", "_law_around", "_law_count"] (defScope s_run) := ⟨rfl, rfl, rfl, by decide +kernel, rfl, by decide +kernel, by decide +kernel⟩
theorem sc_is_row : L2.FnScope ["_law_row_here", "_law_word", "_law_whole", "_law_one"] ["_law_row_here"] (defScope s_is_row) := ⟨rfl, rfl, rfl, by decide +kernel, rfl, by decide +kernel, by decide +kernel⟩
theorem sc_are_blocks : L2.FnScope ["_law_program_here", "_law_blocks", "_law_block", "_law_known", "_law_heads", "_law_name", "_law_many", "_law_rows", "_law_others", "_law_head", "_law_code", "_law_row_here"] ["_law_program_here", "_law_blocks"] (defScope s_are_blocks) := ⟨rfl, rfl, rfl, by decide +kernel, rfl, by decide +kernel, by decide +kernel⟩
theorem sc_asked : L2.FnScope ["_law_frame", "_law_row_here", "_law_worth", "_law_lines", "_law_name", "_law_line"] ["_law_frame", "_law_row_here"] (defScope s_asked) := ⟨rfl, rfl, rfl, by decide +kernel, rfl, by decide +kernel, by decide +kernel⟩
theorem sc_off : L2.FnScope ["_law_stack", "_law_many", "_law_found", "_law_k"] ["_law_stack", "_law_many"] (defScope s_off) := ⟨rfl, rfl, rfl, by decide +kernel, rfl, by decide +kernel, by decide +kernel⟩
theorem sc_gone : L2.FnScope ["_law_known", "_law_frames", "_law_frame", "_law_row_here", "_law_stack", "_law_word", "_law_some", "_law_held"] ["_law_known", "_law_frames"] (defScope s_gone) := ⟨rfl, rfl, rfl, by decide +kernel, rfl, by decide +kernel, by decide +kernel⟩
theorem sc_machine : L2.FnScope ["_law_blocks", "_law_known", "_law_block", "_law_frames", "_law_many", "_law_told"] ["_law_blocks"] (defScope s_machine) := ⟨rfl, rfl, rfl, by decide +kernel, rfl, by decide +kernel, by decide +kernel⟩
theorem sc_heard : L2.FnScope ["_law_blocks", "_law_limit", "_law_found", "e", "_law_good"] ["_law_blocks", "_law_limit"] (defScope s_heard) := ⟨rfl, rfl, rfl, by decide +kernel, rfl, by decide +kernel, by decide +kernel⟩
theorem sc_is_small : L2.FnScope ["_law_worth", "_law_left", "_law_many", "_law_one"] ["_law_worth"] (defScope s_is_small) := ⟨rfl, rfl, rfl, by decide +kernel, rfl, by decide +kernel, by decide +kernel⟩
theorem sc_right : L2.FnScope ["_law_program_here", "_law_term", "_law_count", "_law_due", "_law_blocks", "_law_told", "_law_many", "_law_limit", "_law_one"] ["_law_program_here", "_law_term"] (defScope s_right) := ⟨rfl, rfl, rfl, by decide +kernel, rfl, by decide +kernel, by decide +kernel⟩
theorem sc_counted : L2.FnScope ["_law_worth", "_law_more", "_law_count"] ["_law_worth", "_law_more"] (defScope s_counted) := ⟨rfl, rfl, rfl, by decide +kernel, rfl, by decide +kernel, by decide +kernel⟩
theorem sc_deep_right : L2.FnScope ["_law_deck_here", "_law_name", "_law_zero", "_law_more", "_law_again", "_law_rows", "_law_term", "_law_k", "_law_blocks", "_law_first", "_law_many", "_law_told"] ["_law_deck_here"] (defScope s_deep_right) := ⟨rfl, rfl, rfl, by decide +kernel, rfl, by decide +kernel, by decide +kernel⟩
theorem sc_law : L2.FnScope ["_law_script", "_law_deck_here", "_law_kit", "_law_program_here", "_law_turn"] ["_law_script"] (defScope s_law) := ⟨rfl, rfl, rfl, by decide +kernel, rfl, by decide +kernel, by decide +kernel⟩
/-! what stands behind the top -/
abbrev Fd (K : PySem.W.Frag) (x qual : Str) (st : Stmt) (kw : List (Str × V)) (f : Addr) (fd : FuncData) : Prop := FunD K x qual (defArgs st) (defBody st) (defScope st) [] kw f fd
structure Tx (K : PySem.W.Frag) (mg : Str → Option Value) : Prop where
  f_TooLong_init : ∃ fd, Fd K "__init__" "TooLong.__init__" s_TooLong_init [] (He.fAd K ("TooLong", some "__init__")) fd
  f_TooGreat_init : ∃ fd, Fd K "__init__" "TooGreat.__init__" s_TooGreat_init [] (He.fAd K ("TooGreat", some "__init__")) fd
  f_Frame_init : ∃ fd, Fd K "__init__" "Frame.__init__" s_Frame_init [] (He.fAd K ("Frame", some "__init__")) fd
  f_Frame_next_row : ∃ fd, Fd K "next_row" "Frame.next_row" s_Frame_next_row [] (He.fAd K ("Frame", some "next_row")) fd
  f_Frame_take_off : ∃ fd, Fd K "take_off" "Frame.take_off" s_Frame_take_off [] (He.fAd K ("Frame", some "take_off")) fd
  f_Frame_ask : ∃ fd, Fd K "ask" "Frame.ask" s_Frame_ask [] (He.fAd K ("Frame", some "ask")) fd
  f_Machine_init : ∃ fd, Fd K "__init__" "Machine.__init__" s_Machine_init [] (He.fAd K ("Machine", some "__init__")) fd
  f_Machine_begin_frame : ∃ fd, Fd K "begin_frame" "Machine.begin_frame" s_Machine_begin_frame [] (He.fAd K ("Machine", some "begin_frame")) fd
  f_Machine_enter : ∃ fd, Fd K "enter" "Machine.enter" s_Machine_enter [] (He.fAd K ("Machine", some "enter")) fd
  f_Machine_row_done : ∃ fd, Fd K "row_done" "Machine.row_done" s_Machine_row_done [] (He.fAd K ("Machine", some "row_done")) fd
  f_Machine_end_frame : ∃ fd, Fd K "end_frame" "Machine.end_frame" s_Machine_end_frame [] (He.fAd K ("Machine", some "end_frame")) fd
  f_run_made : ∃ fd, Fd K "run_made" "run_made" s_run_made [("most", .int 2000)] (He.fAd K ("run_made", none)) fd
  f_bare_parts : ∃ fd, Fd K "bare_parts" "bare_parts" s_bare_parts [] (He.fAd K ("bare_parts", none)) fd
  f_asks_in : ∃ fd, Fd K "asks_in" "asks_in" s_asks_in [] (He.fAd K ("asks_in", none)) fd
  f_own_row : ∃ fd, Fd K "own_row" "own_row" s_own_row [] (He.fAd K ("own_row", none)) fd
  f_Maker_init : ∃ fd, Fd K "__init__" "Maker.__init__" s_Maker_init [] (He.fAd K ("Maker", some "__init__")) fd
  f_Maker_new_name : ∃ fd, Fd K "new_name" "Maker.new_name" s_Maker_new_name [] (He.fAd K ("Maker", some "new_name")) fd
  f_Maker_add_block : ∃ fd, Fd K "add_block" "Maker.add_block" s_Maker_add_block [] (He.fAd K ("Maker", some "add_block")) fd
  f_Maker_code_of : ∃ fd, Fd K "code_of" "Maker.code_of" s_Maker_code_of [] (He.fAd K ("Maker", some "code_of")) fd
  f_Maker_closed_code : ∃ fd, Fd K "closed_code" "Maker.closed_code" s_Maker_closed_code [] (He.fAd K ("Maker", some "closed_code")) fd
  f_Maker_add_due : ∃ fd, Fd K "add_due" "Maker.add_due" s_Maker_add_due [] (He.fAd K ("Maker", some "add_due")) fd
  f_Maker_rows_code : ∃ fd, Fd K "rows_code" "Maker.rows_code" s_Maker_rows_code [] (He.fAd K ("Maker", some "rows_code")) fd
  f_Maker_further_code : ∃ fd, Fd K "further_code" "Maker.further_code" s_Maker_further_code [] (He.fAd K ("Maker", some "further_code")) fd
  f_made : ∃ fd, Fd K "made" "made" s_made [] (He.fAd K ("made", none)) fd
  f_deck : ∃ fd, Fd K "_law_deck" "_law_deck" s_deck [] (He.fAd K ("_law_deck", none)) fd
  f_draw : ∃ fd, Fd K "_law_draw" "_law_draw" s_draw [] (He.fAd K ("_law_draw", none)) fd
  f_pick : ∃ fd, Fd K "_law_pick" "_law_pick" s_pick [] (He.fAd K ("_law_pick", none)) fd
  f_names : ∃ fd, Fd K "_law_names" "_law_names" s_names [] (He.fAd K ("_law_names", none)) fd
  f_pattern : ∃ fd, Fd K "_law_pattern" "_law_pattern" s_pattern [] (He.fAd K ("_law_pattern", none)) fd
  f_takes : ∃ fd, Fd K "_law_takes" "_law_takes" s_takes [] (He.fAd K ("_law_takes", none)) fd
  f_name_of : ∃ fd, Fd K "_law_name_of" "_law_name_of" s_name_of [] (He.fAd K ("_law_name_of", none)) fd
  f_of : ∃ fd, Fd K "_law_of" "_law_of" s_of [] (He.fAd K ("_law_of", none)) fd
  f_own_call : ∃ fd, Fd K "_law_own_call" "_law_own_call" s_own_call [] (He.fAd K ("_law_own_call", none)) fd
  f_data : ∃ fd, Fd K "_law_data" "_law_data" s_data [] (He.fAd K ("_law_data", none)) fd
  f_row : ∃ fd, Fd K "_law_row" "_law_row" s_row [] (He.fAd K ("_law_row", none)) fd
  f_closed : ∃ fd, Fd K "_law_closed" "_law_closed" s_closed [] (He.fAd K ("_law_closed", none)) fd
  f_program : ∃ fd, Fd K "_law_program" "_law_program" s_program [] (He.fAd K ("_law_program", none)) fd
  f_taken : ∃ fd, Fd K "_law_taken" "_law_taken" s_taken [] (He.fAd K ("_law_taken", none)) fd
  f_step : ∃ fd, Fd K "_law_step" "_law_step" s_step [] (He.fAd K ("_law_step", none)) fd
  f_runs : ∃ fd, Fd K "_law_runs" "_law_runs" s_runs [] (He.fAd K ("_law_runs", none)) fd
  f_call : ∃ fd, Fd K "_law_call" "_law_call" s_call [] (He.fAd K ("_law_call", none)) fd
  f_run : ∃ fd, Fd K "_law_run" "_law_run" s_run [] (He.fAd K ("_law_run", none)) fd
  f_is_row : ∃ fd, Fd K "_law_is_row" "_law_is_row" s_is_row [] (He.fAd K ("_law_is_row", none)) fd
  f_are_blocks : ∃ fd, Fd K "_law_are_blocks" "_law_are_blocks" s_are_blocks [] (He.fAd K ("_law_are_blocks", none)) fd
  f_asked : ∃ fd, Fd K "_law_asked" "_law_asked" s_asked [] (He.fAd K ("_law_asked", none)) fd
  f_off : ∃ fd, Fd K "_law_off" "_law_off" s_off [] (He.fAd K ("_law_off", none)) fd
  f_gone : ∃ fd, Fd K "_law_gone" "_law_gone" s_gone [] (He.fAd K ("_law_gone", none)) fd
  f_machine : ∃ fd, Fd K "_law_machine" "_law_machine" s_machine [] (He.fAd K ("_law_machine", none)) fd
  f_heard : ∃ fd, Fd K "_law_heard" "_law_heard" s_heard [] (He.fAd K ("_law_heard", none)) fd
  f_is_small : ∃ fd, Fd K "_law_is_small" "_law_is_small" s_is_small [] (He.fAd K ("_law_is_small", none)) fd
  f_right : ∃ fd, Fd K "_law_right" "_law_right" s_right [] (He.fAd K ("_law_right", none)) fd
  f_counted : ∃ fd, Fd K "_law_counted" "_law_counted" s_counted [] (He.fAd K ("_law_counted", none)) fd
  f_deep_right : ∃ fd, Fd K "_law_deep_right" "_law_deep_right" s_deep_right [] (He.fAd K ("_law_deep_right", none)) fd
  f_law : ∃ fd, Fd K "law" "law" s_law [] (He.fAd K ("law", none)) fd
  g_run_made : mg "run_made" = some (.ref (He.ga K "run_made"))
  g_bare_parts : mg "bare_parts" = some (.ref (He.ga K "bare_parts"))
  g_asks_in : mg "asks_in" = some (.ref (He.ga K "asks_in"))
  g_own_row : mg "own_row" = some (.ref (He.ga K "own_row"))
  g_made : mg "made" = some (.ref (He.ga K "made"))
  g_deck : mg "_law_deck" = some (.ref (He.ga K "_law_deck"))
  g_draw : mg "_law_draw" = some (.ref (He.ga K "_law_draw"))
  g_pick : mg "_law_pick" = some (.ref (He.ga K "_law_pick"))
  g_names : mg "_law_names" = some (.ref (He.ga K "_law_names"))
  g_pattern : mg "_law_pattern" = some (.ref (He.ga K "_law_pattern"))
  g_takes : mg "_law_takes" = some (.ref (He.ga K "_law_takes"))
  g_name_of : mg "_law_name_of" = some (.ref (He.ga K "_law_name_of"))
  g_of : mg "_law_of" = some (.ref (He.ga K "_law_of"))
  g_own_call : mg "_law_own_call" = some (.ref (He.ga K "_law_own_call"))
  g_data : mg "_law_data" = some (.ref (He.ga K "_law_data"))
  g_row : mg "_law_row" = some (.ref (He.ga K "_law_row"))
  g_closed : mg "_law_closed" = some (.ref (He.ga K "_law_closed"))
  g_program : mg "_law_program" = some (.ref (He.ga K "_law_program"))
  g_taken : mg "_law_taken" = some (.ref (He.ga K "_law_taken"))
  g_step : mg "_law_step" = some (.ref (He.ga K "_law_step"))
  g_runs : mg "_law_runs" = some (.ref (He.ga K "_law_runs"))
  g_call : mg "_law_call" = some (.ref (He.ga K "_law_call"))
  g_run : mg "_law_run" = some (.ref (He.ga K "_law_run"))
  g_is_row : mg "_law_is_row" = some (.ref (He.ga K "_law_is_row"))
  g_are_blocks : mg "_law_are_blocks" = some (.ref (He.ga K "_law_are_blocks"))
  g_asked : mg "_law_asked" = some (.ref (He.ga K "_law_asked"))
  g_off : mg "_law_off" = some (.ref (He.ga K "_law_off"))
  g_gone : mg "_law_gone" = some (.ref (He.ga K "_law_gone"))
  g_machine : mg "_law_machine" = some (.ref (He.ga K "_law_machine"))
  g_heard : mg "_law_heard" = some (.ref (He.ga K "_law_heard"))
  g_is_small : mg "_law_is_small" = some (.ref (He.ga K "_law_is_small"))
  g_right : mg "_law_right" = some (.ref (He.ga K "_law_right"))
  g_counted : mg "_law_counted" = some (.ref (He.ga K "_law_counted"))
  g_deep_right : mg "_law_deep_right" = some (.ref (He.ga K "_law_deep_right"))
  g_law : mg "law" = some (.ref (He.ga K "law"))
  g_TongueError : mg "TongueError" = some (.ref (He.ga K "TongueError"))
  g_TooMuch : mg "TooMuch" = some (.ref (He.ga K "TooMuch"))
  g_TooLong : mg "TooLong" = some (.ref (He.ga K "TooLong"))
  g_TooGreat : mg "TooGreat" = some (.ref (He.ga K "TooGreat"))
  g_Absent : mg "Absent" = some (.ref (He.ga K "Absent"))
  g_Frame : mg "Frame" = some (.ref (He.ga K "Frame"))
  g_Machine : mg "Machine" = some (.ref (He.ga K "Machine"))
  g_Maker : mg "Maker" = some (.ref (He.ga K "Maker"))
  z_KeyError : mg "KeyError" = none
  z_ValueError : mg "ValueError" = none
  z_bool : mg "bool" = none
  z_dict : mg "dict" = none
  z_enumerate : mg "enumerate" = none
  z_int : mg "int" = none
  z_isinstance : mg "isinstance" = none
  z_len : mg "len" = none
  z_list : mg "list" = none
  z_range : mg "range" = none
  z_repr : mg "repr" = none
  z_set : mg "set" = none
  z_sorted : mg "sorted" = none
  z_str : mg "str" = none
  z_sum : mg "sum" = none
  z_tuple : mg "tuple" = none
  z_zip : mg "zip" = none
  k_MOST : ∃ t, mg "MOST" = some (.int 2000 t)
  k_SHAPE_machine : ∃ t, mg "SHAPE_machine" = some (.str "shape" t)
  k_OWN_machine : ∃ t, mg "OWN_machine" = some (.str "." t)
  k_AT : ∃ t, mg "AT" = some (.str "at" t)
  k_FUN : ∃ t, mg "FUN" = some (.str "fun" t)
  k_WAIT : ∃ t, mg "WAIT" = some (.str "wait" t)
  k_SHAPE_making : ∃ t, mg "SHAPE_making" = some (.str "shape" t)
  k_CALL : ∃ t, mg "CALL" = some (.str "call" t)
  k_TAKE : ∃ t, mg "TAKE" = some (.str "take" t)
  g_DULL : mg "DULL" = some (.ref (He.ga K "DULL"))
  g_TELL : mg "TELL" = some (.ref (He.ga K "TELL"))
  k_OWN_making : ∃ t, mg "OWN_making" = some (.str "." t)
  c_Frame : Cls K (He.ga K "Frame")
  mk_Frame : Mk K (He.ga K "Frame") (He.ma K (He.ga K "Frame") "__init__")
  n_Frame_code_here : NoAttr K (He.ga K "Frame") "code_here"
  n_Frame_line_now : NoAttr K (He.ga K "Frame") "line_now"
  n_Frame_values_here : NoAttr K (He.ga K "Frame") "values_here"
  n_Frame_pile : NoAttr K (He.ga K "Frame") "pile"
  m_Frame_next_row : Meth K (He.ga K "Frame") "next_row" (He.ma K (He.ga K "Frame") "next_row")
  m_Frame_take_off : Meth K (He.ga K "Frame") "take_off" (He.ma K (He.ga K "Frame") "take_off")
  m_Frame_ask : Meth K (He.ga K "Frame") "ask" (He.ma K (He.ga K "Frame") "ask")
  c_Machine : Cls K (He.ga K "Machine")
  mk_Machine : Mk K (He.ga K "Machine") (He.ma K (He.ga K "Machine") "__init__")
  n_Machine_codes : NoAttr K (He.ga K "Machine") "codes"
  n_Machine_frames : NoAttr K (He.ga K "Machine") "frames"
  n_Machine_told_last : NoAttr K (He.ga K "Machine") "told_last"
  m_Machine_begin_frame : Meth K (He.ga K "Machine") "begin_frame" (He.ma K (He.ga K "Machine") "begin_frame")
  m_Machine_enter : Meth K (He.ga K "Machine") "enter" (He.ma K (He.ga K "Machine") "enter")
  m_Machine_row_done : Meth K (He.ga K "Machine") "row_done" (He.ma K (He.ga K "Machine") "row_done")
  m_Machine_end_frame : Meth K (He.ga K "Machine") "end_frame" (He.ma K (He.ga K "Machine") "end_frame")
  c_Maker : Cls K (He.ga K "Maker")
  mk_Maker : Mk K (He.ga K "Maker") (He.ma K (He.ga K "Maker") "__init__")
  n_Maker_blocks_made : NoAttr K (He.ga K "Maker") "blocks_made"
  n_Maker_blocks_due : NoAttr K (He.ga K "Maker") "blocks_due"
  n_Maker_many_named : NoAttr K (He.ga K "Maker") "many_named"
  m_Maker_new_name : Meth K (He.ga K "Maker") "new_name" (He.ma K (He.ga K "Maker") "new_name")
  m_Maker_add_block : Meth K (He.ga K "Maker") "add_block" (He.ma K (He.ga K "Maker") "add_block")
  m_Maker_code_of : Meth K (He.ga K "Maker") "code_of" (He.ma K (He.ga K "Maker") "code_of")
  m_Maker_closed_code : Meth K (He.ga K "Maker") "closed_code" (He.ma K (He.ga K "Maker") "closed_code")
  m_Maker_add_due : Meth K (He.ga K "Maker") "add_due" (He.ma K (He.ga K "Maker") "add_due")
  m_Maker_rows_code : Meth K (He.ga K "Maker") "rows_code" (He.ma K (He.ga K "Maker") "rows_code")
  m_Maker_further_code : Meth K (He.ga K "Maker") "further_code" (He.ma K (He.ga K "Maker") "further_code")
  t_DULL : ∀ H : Hp, SqT K H (He.ga K "DULL") [.str "dull"]
  t_TELL : ∀ H : Hp, SqT K H (He.ga K "TELL") [.str "tell"]
end K46
/-! K46B -/
set_option maxHeartbeats 4000000
namespace K46
open PySem PySem.Spec PyProof.Rows L2 C8
/-! ### heaps: all but the objects at S stay; tuples stay anyway -/
structure Keep (S : List Addr) (H H' : Hp) : Prop where
  at_ : ∀ b o, b ∉ S → H b = some o → H' b = some o
  tup : ∀ b xs, H b = some (.tup xs) → H' b = some (.tup xs)
  frz : ∀ b o u, H b = some (.frz o u) → H' b = some (.frz o u)
section
variable {S S' : List Addr} {H H1 H2 : Hp} {p a b l : Addr} {o o' : HO} {xs : List V} {K : PySem.W.Frag}
theorem Keep.refl (S : List Addr) (H : Hp) : Keep S H H := ⟨fun _ _ _ h => h, fun _ _ h => h, fun _ _ _ h => h⟩
theorem Keep.trans (k : Keep S H H1) (k' : Keep S H1 H2) : Keep S H H2 := ⟨fun b o n h => k'.at_ b o n (k.at_ b o n h), fun b x h => k'.tup b x (k.tup b x h), fun b o u h => k'.frz b o u (k.frz b o u h)⟩
theorem Keep.mono (k : Keep S H H1) (h : ∀ b ∈ S, b ∈ S') : Keep S' H H1 := ⟨fun b o n e => k.at_ b o (fun m => n (h b m)) e, k.tup, k.frz⟩
/-- a new object -/
theorem Keep.new (n : H1 p = none) (k : Keep S H H1) : Keep S H (upd H1 p o) :=
  ⟨fun b o' m h => by have z := k.at_ b o' m h; rw [upd_ne (ne_of_none z n)]; exact z, fun b x h => by have z := k.tup b x h; rw [upd_ne (ne_of_none z n)]; exact z, fun b o' u h => by have z := k.frz b o' u h; rw [upd_ne (ne_of_none z n)]; exact z⟩
/-- an object that may change is changed -/
theorem Keep.put (e : H1 l = some o') (mu : Mut (some o')) (h : l ∈ S ∨ H l = none) (k : Keep S H H1) : Keep S H (upd H1 l o) := by
  refine ⟨fun b o1 m z => ?_, fun b x z => ?_, fun b o1 u z => ?_⟩
  · have n : b ≠ l := fun q => by
      subst q
      rcases h with h | h
      · exact m h
      · rw [h] at z
        cases z
    rw [upd_ne n]
    exact k.at_ b o1 m z
  · have n : b ≠ l := fun q => by
      subst q
      rw [k.tup b x z] at e
      cases e
      exact mu
    rw [upd_ne n]
    exact k.tup b x z
  · have n : b ≠ l := fun q => by
      subst q
      rw [k.frz b o1 u z] at e
      cases e
      exact mu
    rw [upd_ne n]
    exact k.frz b o1 u z
theorem Keep.lst {ys : List V} (e : H1 l = some (.lst xs)) (h : l ∈ S ∨ H l = none) (k : Keep S H H1) : Keep S H (upd H1 l (.lst ys)) := k.put e True.intro h
theorem Keep.ins {C dx : Addr} {fs gs : List (Str × V)} (e : H1 l = some (.ins C dx fs)) (h : l ∈ S ∨ H l = none) (k : Keep S H H1) : Keep S H (upd H1 l (.ins C dx gs)) := k.put e True.intro h
theorem Keep.dct {kvs qs : List (Key × V)} (e : H1 l = some (.dK kvs)) (h : l ∈ S ∨ H l = none) (k : Keep S H H1) : Keep S H (upd H1 l (.dK qs)) := k.put e True.intro h
/-- a call that keeps all but S' -/
theorem Keep.call (k' : Keep S' H1 H2) (h : ∀ b ∈ S', b ∈ S ∨ H b = none) (k : Keep S H H1) : Keep S H H2 :=
  ⟨fun b o m z => k'.at_ b o (fun q => by
    rcases h b q with y | y
    · exact m y
    · rw [y] at z
      cases z) (k.at_ b o m z), fun b x z => k'.tup b x (k.tup b x z), fun b o u z => k'.frz b o u (k.frz b o u z)⟩
theorem Keep.call0 (k' : Keep [] H1 H2) (k : Keep S H H1) : Keep S H H2 := k.trans (k'.mono fun b h => by cases h)
theorem Keep.sqT (k : Keep S H H1) (h : SqT K H a xs) : SqT K H1 a xs := by
  rcases h with (h | ⟨o, h⟩) | h
  · exact .inl (.inl (k.tup _ _ h))
  · exact .inl (.inr ⟨o, k.frz _ _ _ h⟩)
  · exact .inr h
theorem Keep.sqL (k : Keep S H H1) (n : a ∉ S) (h : SqL K H a xs) : SqL K H1 a xs := by
  rcases h with (h | ⟨o, h⟩) | h
  · exact .inl (.inl (k.at_ _ _ n h))
  · exact .inl (.inr ⟨o, k.frz _ _ _ h⟩)
  · exact .inr h
theorem Keep.free (k : Keep [] H H1) (h : H1 p = none) : H p = none := by
  cases e : H p with
  | none => rfl
  | some o =>
    have z := k.at_ p o (by simp) e
    rw [h] at z
    cases z
theorem Keep.new_ (k : Keep S H H1) (n : H1 p = none) : Keep S H (upd H1 p o) := Keep.new n k
theorem Keep.none_of (k : Keep S H H1) (n : p ∉ S) (h : H1 p = none) : H p = none := by
  cases e : H p with
  | none => rfl
  | some o =>
    have z := k.at_ p o n e
    rw [h] at z
    cases z
theorem new_old (n : upd H a o b = none) : H b = none := by
  unfold upd at n
  by_cases e : b = a
  · rw [if_pos e] at n
    cases n
  · rw [if_neg e] at n
    exact n
theorem new_ne (n : upd H a o b = none) : b ≠ a := fun e => by
  rw [e, upd_same] at n
  cases n
end
/-! ### data: texts, ints, tuples of them -/
inductive D where
  | str (x : Str) | int (i : Int) | bl (b : Bool) | non | tup (ds : List D)
mutual
def D.py : D → PyData
  | .str x => .str x
  | .int i => .int i
  | .bl b => .bool b
  | .non => .none
  | .tup ds => .tuple (D.pys ds)
def D.pys : List D → List PyData
  | [] => []
  | d :: ds => d.py :: D.pys ds
end
mutual
inductive At (K : PySem.W.Frag) (H : Hp) : V → D → Prop
  | str (x : Str) : At K H (.str x) (.str x)
  | int (i : Int) : At K H (.int i) (.int i)
  | bl (b : Bool) : At K H (.bl b) (.bl b)
  | non : At K H .non .non
  | tup {a : Addr} {xs : List V} {ds : List D} : SqT K H a xs → AtL K H xs ds → At K H (.ref a) (.tup ds)
inductive AtL (K : PySem.W.Frag) (H : Hp) : List V → List D → Prop
  | nil : AtL K H [] []
  | cons {v : V} {vs : List V} {d : D} {ds : List D} : At K H v d → AtL K H vs ds → AtL K H (v :: vs) (d :: ds)
end
section
variable {K : PySem.W.Frag} {H H1 : Hp} {S : List Addr} {v : V} {vs xs : List V} {d : D} {ds es : List D}
mutual
theorem At.keep (k : Keep S H H1) : ∀ {d : D} {v : V}, At K H v d → At K H1 v d
  | .str _, _, h => by
    cases h
    exact .str _
  | .int _, _, h => by
    cases h
    exact .int _
  | .bl _, _, h => by
    cases h
    exact .bl _
  | .non, _, h => by
    cases h
    exact .non
  | .tup ds, _, h => by
    cases h with
    | tup h1 h2 => exact .tup (k.sqT h1) (AtL.keep k h2)
theorem AtL.keep (k : Keep S H H1) : ∀ {ds : List D} {vs : List V}, AtL K H vs ds → AtL K H1 vs ds
  | [], _, h => by
    cases h
    exact .nil
  | d :: ds, _, h => by
    cases h with
    | cons h1 h2 => exact .cons (At.keep k h1) (AtL.keep k h2)
end
mutual
theorem At.dp : ∀ {d : D} {v : V}, At K H v d → Dp K H v d.py
  | .str _, _, h => by
    cases h
    exact .str _
  | .int _, _, h => by
    cases h
    exact .int _
  | .bl _, _, h => by
    cases h
    exact .bl _
  | .non, _, h => by
    cases h
    exact .non
  | .tup ds, _, h => by
    cases h with
    | tup h1 h2 => exact .tup h1 (AtL.dp h2)
theorem AtL.dp : ∀ {ds : List D} {vs : List V}, AtL K H vs ds → DpAll K H vs (D.pys ds)
  | [], _, h => by
    cases h
    exact .nil
  | d :: ds, _, h => by
    cases h with
    | cons h1 h2 => exact .cons (At.dp h1) (AtL.dp h2)
end
theorem At.s {x : Str} (h : At K H v (.str x)) : v = .str x := by
  cases h
  rfl
theorem At.b {b : Bool} (h : At K H v (.bl b)) : v = .bl b := by
  cases h
  rfl
theorem At.n (h : At K H v .non) : v = .non := by
  cases h
  rfl
theorem At.i {i : Int} (h : At K H v (.int i)) : v = .int i := by
  cases h
  rfl
theorem At.t (h : At K H v (.tup ds)) : ∃ a xs, v = .ref a ∧ SqT K H a xs ∧ AtL K H xs ds := by
  cases h with
  | tup h1 h2 => exact ⟨_, _, rfl, h1, h2⟩
theorem AtL.length : ∀ {vs : List V} {ds : List D}, AtL K H vs ds → vs.length = ds.length
  | _, _, .nil => rfl
  | _, _, .cons _ t => congrArg Nat.succ (AtL.length t)
theorem AtL.get : ∀ {vs : List V} {ds : List D} {i : Nat} {d : D}, AtL K H vs ds → ds[i]? = some d → ∃ v, vs[i]? = some v ∧ At K H v d
  | _, _, _, _, .nil, e => by simp at e
  | _, _, 0, _, .cons h _, e => by
    simp at e
    subst e
    exact ⟨_, rfl, h⟩
  | _, _, i + 1, _, .cons _ t, e => by
    obtain ⟨v, h1, h2⟩ := AtL.get t (by simpa using e)
    exact ⟨v, by simpa using h1, h2⟩
theorem AtL.get' : ∀ {vs : List V} {ds : List D} {i : Nat} {v : V}, AtL K H vs ds → vs[i]? = some v → ∃ d, ds[i]? = some d ∧ At K H v d
  | _, _, _, _, .nil, e => by simp at e
  | _, _, 0, _, .cons h _, e => by
    simp at e
    subst e
    exact ⟨_, rfl, h⟩
  | _, _, i + 1, _, .cons _ t, e => by
    obtain ⟨v, h1, h2⟩ := AtL.get' t (by simpa using e)
    exact ⟨v, by simpa using h1, h2⟩
theorem AtL.append : ∀ {vs xs : List V} {ds es : List D}, AtL K H vs ds → AtL K H xs es → AtL K H (vs ++ xs) (ds ++ es)
  | _, _, _, _, .nil, s => s
  | _, _, _, _, .cons h t, s => .cons h (AtL.append t s)
theorem AtL.take : ∀ {vs : List V} {ds : List D} (n : Nat), AtL K H vs ds → AtL K H (vs.take n) (ds.take n)
  | _, _, 0, _ => .nil
  | _, _, _ + 1, .nil => .nil
  | _, _, n + 1, .cons h t => .cons h (AtL.take n t)
theorem AtL.drop : ∀ {vs : List V} {ds : List D} (n : Nat), AtL K H vs ds → AtL K H (vs.drop n) (ds.drop n)
  | _, _, 0, r => r
  | _, _, _ + 1, .nil => .nil
  | _, _, n + 1, .cons _ t => AtL.drop n t
theorem AtL.reverse : ∀ {vs : List V} {ds : List D}, AtL K H vs ds → AtL K H vs.reverse ds.reverse
  | _, _, .nil => .nil
  | _, _, .cons h t => by
    rw [List.reverse_cons, List.reverse_cons]
    exact (AtL.reverse t).append (.cons h .nil)
theorem AtL.snoc (h : AtL K H vs ds) (h2 : At K H v d) : AtL K H (vs ++ [v]) (ds ++ [d]) := h.append (.cons h2 .nil)
theorem AtL.split : ∀ {vs : List V} {ds es : List D}, AtL K H vs (ds ++ es) → ∃ xs ys, vs = xs ++ ys ∧ AtL K H xs ds ∧ AtL K H ys es
  | vs, [], es, h => ⟨[], vs, rfl, .nil, h⟩
  | _, d :: ds, es, h => by
    cases h with
    | cons h1 h2 =>
      obtain ⟨xs, ys, e, a, b⟩ := AtL.split h2
      exact ⟨_ :: xs, ys, by rw [e]; rfl, .cons h1 a, b⟩
theorem At.t1 {d1 : D} (h : At K H v (.tup [d1])) : ∃ a x, v = .ref a ∧ SqT K H a [x] ∧ At K H x d1 := by
  obtain ⟨a, xs, e, q, r⟩ := h.t
  cases r with
  | cons r1 r => cases r; exact ⟨a, _, e, q, r1⟩
theorem At.t2 {d1 d2 : D} (h : At K H v (.tup [d1, d2])) : ∃ a x y, v = .ref a ∧ SqT K H a [x, y] ∧ At K H x d1 ∧ At K H y d2 := by
  obtain ⟨a, xs, e, q, r⟩ := h.t
  cases r with
  | cons r1 r => cases r with
    | cons r2 r => cases r; exact ⟨a, _, _, e, q, r1, r2⟩
theorem At.t3 {d1 d2 d3 : D} (h : At K H v (.tup [d1, d2, d3])) : ∃ a x y z, v = .ref a ∧ SqT K H a [x, y, z] ∧ At K H x d1 ∧ At K H y d2 ∧ At K H z d3 := by
  obtain ⟨a, xs, e, q, r⟩ := h.t
  cases r with
  | cons r1 r => cases r with
    | cons r2 r => cases r with
      | cons r3 r => cases r; exact ⟨a, _, _, _, e, q, r1, r2, r3⟩
theorem At.t4 {d1 d2 d3 d4 : D} (h : At K H v (.tup [d1, d2, d3, d4])) : ∃ a x y z u, v = .ref a ∧ SqT K H a [x, y, z, u] ∧ At K H x d1 ∧ At K H y d2 ∧ At K H z d3 ∧ At K H u d4 := by
  obtain ⟨a, xs, e, q, r⟩ := h.t
  cases r with
  | cons r1 r => cases r with
    | cons r2 r => cases r with
      | cons r3 r => cases r with
        | cons r4 r => cases r; exact ⟨a, _, _, _, _, e, q, r1, r2, r3, r4⟩
/-- a new tuple of data -/
theorem At.new {p : Addr} (h : H p = some (.tup xs)) (r : AtL K H xs ds) : At K H (.ref p) (.tup ds) := .tup (.of h) r
end
/-! ### tests -/
theorem ift {b : Bool} {A B : Prop} (h : b = true) (a : A) : if b = true then A else B := by
  rw [if_pos h]
  exact a
theorem iff' {b : Bool} {A B : Prop} (h : b = false) (a : B) : if b = true then A else B := by
  rw [if_neg (by rw [h]; exact Bool.false_ne_true)]
  exact a
theorem deq {α : Type} [DecidableEq α] (x : α) : decide (x = x) = true := decide_eq_true rfl
theorem dne {α : Type} [DecidableEq α] {x y : α} (h : x ≠ y) : decide (x = y) = false := decide_eq_false h
theorem dstr {x y : Str} (h : decide (V.str x = V.str y) = true) : x = y := V.str.inj (of_decide_eq_true h)
theorem dstrn {x y : Str} (h : ¬ decide (V.str x = V.str y) = true) : x ≠ y := fun e => h (decide_eq_true (congrArg V.str e))
theorem dint {x y : Int} (h : decide (V.int x = V.int y) = true) : x = y := V.int.inj (of_decide_eq_true h)
theorem dintn {x y : Int} (h : ¬ decide (V.int x = V.int y) = true) : x ≠ y := fun e => h (decide_eq_true (congrArg V.int e))
/-! ### a def's promise over this text -/
section
variable {P : Program} {w : World} {K : PySem.W.Frag} {mg : Str → Option Value} {base : Heap} {x qual : Str} {st : Stmt} {f C : Addr} {N ps : List Str} {k : Nat} {sp : Sp}
abbrev Body (P : Program) (w : World) (K : PySem.W.Frag) (mg : Str → Option Value) (base : Heap) (qual : Str) (st : Stmt) (f : Addr) (N : List Str) (k : Nat) (sp : Sp) : Prop :=
  ∀ (cdv : Value) (A : Around) (outer : List Env) (s : Shared) (H : Hp) (vs : List V) (Q : VK) (E : XK), Room k (A.deeper (envOfC qual (defScope st) s.heap.objs.size f cdv)) → sp vs H Q E →
    ∃ t, PSs (cxOf C8.CX0 P w K mg base N qual (defScope st) f cdv A outer s H E).nox (defBody st) t ∧ t { nx := fun _ H' => Q .non H', rt := Q } (start N vs) H
theorem fn_mk {fd : FuncData} (F : Fd K x qual st [] f fd) (S : FnScope N ps (defScope st)) (len : ∀ vs H Q E, sp vs H Q E → vs.length = ps.length) (hb : Body P w K mg base qual st f N k sp) : FnOk P w K mg base C8.CX0 (k + 1) f fd ps sp :=
  FunD.ok F S len fun cdv A outer s H vs Q E hr h => by
    obtain ⟨t, h1, h2⟩ := hb cdv A outer s H vs Q E hr h
    exact ⟨t, h1.nox, h2⟩
abbrev BindsN (qual : Str) (st : Stmt) (x : Str) (ps : List Str) : Prop :=
  ∀ (kV doc pm : Value) (an : Option Addr) (cdv ct : Value) (us : List Value), us.length = ps.length → bindArgs (PySem.W.fnOf x qual (defArgs st) (defBody st) (defScope st) .none kV doc pm an cdv ct) ⟨us, []⟩ = pure (ps.zip us)
theorem cal_mk (hf : ∃ fd, Fd K x x st [] f fd) (hg : mg x = some (.ref f)) (S : FnScope N ps (defScope st)) (hbd : BindsN x st x ps) (len : ∀ vs H Q E, sp vs H Q E → vs.length = ps.length) (hb : Body P w K mg base x st f N k sp) :
    Cal P w K mg base (k + 1) x sp [] := by
  obtain ⟨fd, F⟩ := hf
  exact ⟨f, fd, ps, [], fn_mk F S len hb, hg, F.kp, F.bindsN hbd, .nil⟩
theorem met_mk (hf : ∃ fd, Fd K x qual st [] f fd) (c : Cls K C) (me : Meth K C x f) (S : FnScope N ps (defScope st)) (hbd : BindsN qual st x ps) (len : ∀ vs H Q E, sp vs H Q E → vs.length = ps.length) (hb : Body P w K mg base qual st f N k sp) :
    Met P w K mg base (k + 1) C x sp [] := by
  obtain ⟨fd, F⟩ := hf
  exact ⟨f, fd, ps, [], c, me, fn_mk F S len hb, F.bindsN hbd, .nil⟩
theorem mak_mk {y : Str} (hf : ∃ fd, Fd K "__init__" qual st [] f fd) (M : Mk K C f) (hg : mg y = some (.ref C)) (S : FnScope N ps (defScope st)) (hbd : BindsN qual st "__init__" ps) (len : ∀ vs H Q E, sp vs H Q E → vs.length = ps.length) (hb : Body P w K mg base qual st f N k sp) :
    Mak P w K mg base (k + 1) y C sp [] := by
  obtain ⟨fd, F⟩ := hf
  exact ⟨f, fd, ps, [], M, fn_mk F S len hb, hg, F.bindsN hbd, .nil⟩
end
theorem pe_mk0 {X : Cx} {k j : Nat} {C : Addr} {x : Str} {sp : Sp} {dvs : List V} {p pos : Pos} (c : Mak X.prog X.w X.K X.mg X.base k x C sp dvs) (hr : Room j X.A) (hk : k + 1 ≤ j) (hg : Gl X x) (hdb : (x == ("__debug__" : Str)) = false := by decide) :
    PE X (.Call (.Name x p) [] [] pos) (tMake C sp dvs C8.E0 tNil) := by
  obtain ⟨f, fd, ps, ds, M, F, hm, b, d⟩ := c.ex
  exact pe_make0 M F (hr.mono hk) hg hm b d C8.pass0 hdb
end K46
/-! K46M1 -/
set_option maxHeartbeats 4000000
namespace K46
open PySem PySem.Spec PyProof.Rows L2 C8
/-! ## terms, patterns, rows of the machine, its worths: plain -/
inductive Nd where
  | shape (n : Str) | call (n : Str) | give | go | dull
inductive Tm where
  | at (i : Nat) | clo (fn : Bool) (b : Tm) | nd (k : Nd) (ts : List Tm)
inductive Pat where
  | take | pass | shape (n : Str) (ps : List Pat)
structure Rw where
  ps : List Pat
  body : Tm
structure Df where
  name : Str
  many : Nat
  rows : List Rw
inductive Ins where
  | loc (k : Nat) | ask (k : Nat) (n : Str) (l f : Nat) | own (k : Nd) (m : Nat) | close (n : Str) (m : Nat) | tell
structure Bk where
  name : Str
  many : Nat
  code : List Ins
inductive MV where
  | shape (n : Str) (vs : List MV) | clo (n : Str) (vs : List MV) | dull
/-! ### as data -/
mutual
def encT : Tm → D
  | .at i => .tup [.str "at", .int (i : Int)]
  | .clo true b => .tup [.str "fun", encT b]
  | .clo false b => .tup [.str "wait", encT b]
  | .nd (.shape n) ts => .tup [.str "shape", .str n, .tup (encTs ts)]
  | .nd (.call n) ts => .tup [.str "call", .str n, .tup (encTs ts)]
  | .nd .give ts => .tup (.str "give" :: encTs ts)
  | .nd .go ts => .tup (.str "go" :: encTs ts)
  | .nd .dull ts => .tup (.str "dull" :: encTs ts)
def encTs : List Tm → List D
  | [] => []
  | t :: ts => encT t :: encTs ts
end
mutual
def encP : Pat → D
  | .take => .tup [.str "take"]
  | .pass => .tup [.str "pass"]
  | .shape n ps => .tup [.str "shape", .str n, .tup (encPs ps)]
def encPs : List Pat → List D
  | [] => []
  | p :: ps => encP p :: encPs ps
end
def encR (r : Rw) : D := .tup [.tup (encPs r.ps), encT r.body]
def encD (d : Df) : D := .tup [.str d.name, .int (d.many : Int), .tup (d.rows.map encR)]
def encG (g : List Df) : D := .tup (g.map encD)
def encI : Ins → D
  | .loc k => .tup [.str "local", .int (k : Int)]
  | .ask k n l f => .tup [.str "ask", .int (k : Int), .tup [.tup [.str n, .int (l : Int)]], .int (f : Int)]
  | .own (.shape n) m => .tup [.str "shape", .str n, .int (m : Int)]
  | .own (.call n) m => .tup [.str "call", .str n, .int (m : Int)]
  | .own .give _ => .tup [.str "give"]
  | .own .go _ => .tup [.str "go"]
  | .own .dull _ => .tup [.str "dull"]
  | .close n m => .tup [.str "close", .str n, .int (m : Int)]
  | .tell => .tup [.str "tell"]
def encC (c : List Ins) : D := .tup (c.map encI)
def encB (b : Bk) : D := .tup [.str b.name, .int (b.many : Int), encC b.code]
def encBs (bs : List Bk) : D := .tup (bs.map encB)
mutual
def encV : MV → D
  | .shape n vs => .tup [.str "shape", .str n, .tup (encVs vs)]
  | .clo n vs => .tup [.str "close", .str n, .tup (encVs vs)]
  | .dull => .tup [.str "dull"]
def encVs : List MV → List D
  | [] => []
  | v :: vs => encV v :: encVs vs
end
theorem encTs_map : ∀ ts : List Tm, encTs ts = ts.map encT
  | [] => rfl
  | t :: ts => congrArg (encT t :: ·) (encTs_map ts)
theorem encPs_map : ∀ ts : List Pat, encPs ts = ts.map encP
  | [] => rfl
  | t :: ts => congrArg (encP t :: ·) (encPs_map ts)
theorem encVs_map : ∀ ts : List MV, encVs ts = ts.map encV
  | [] => rfl
  | t :: ts => congrArg (encV t :: ·) (encVs_map ts)
/-! ### the machine: frames, the last one first -/
structure Fr where
  code : List Ins
  line : Nat
  loc : List MV
  pile : List MV
def codeIn (bs : List Bk) (n : Str) : Option (List Ins) := (bs.find? fun b => decide (b.name = n)).map (·.code)
/-- a row is done by the last frame, whose line is the next one: the frames behind it, what is told by it -/
def mrow (bs : List Bk) (r : Ins) : List Fr → Option (List Fr × Option MV)
  | [] => none
  | f :: below => match r with
    | .loc k => f.loc[k]?.map fun v => ({ f with pile := f.pile ++ [v] } :: below, none)
    | .own .dull _ => some ({ f with pile := f.pile ++ [.dull] } :: below, none)
    | .ask k n l fu => f.loc[k]?.map fun v => match v with
      | .shape n' vs => if n = n' then ({ f with line := l, loc := f.loc ++ vs } :: below, none) else ({ f with line := fu } :: below, none)
      | _ => ({ f with line := fu } :: below, none)
    | .own (.shape n) m => if m ≤ f.pile.length then some ({ f with pile := f.pile.take (f.pile.length - m) ++ [.shape n (f.pile.drop (f.pile.length - m))] } :: below, none) else none
    | .close n m => if m ≤ f.pile.length then some ({ f with pile := f.pile.take (f.pile.length - m) ++ [.clo n (f.pile.drop (f.pile.length - m))] } :: below, none) else none
    | .own (.call n) m => if m ≤ f.pile.length then (codeIn bs n).map fun c => (⟨c, 0, f.pile.drop (f.pile.length - m), []⟩ :: { f with pile := f.pile.take (f.pile.length - m) } :: below, none) else none
    | .own .give _ => match f.pile.drop (f.pile.length - 2) with
      | [.clo n vs, x] => (codeIn bs n).map fun c => (⟨c, 0, vs ++ [x], []⟩ :: { f with pile := f.pile.take (f.pile.length - 2) } :: below, none)
      | _ => none
    | .own .go _ => match f.pile.drop (f.pile.length - 1) with
      | [.clo n vs] => (codeIn bs n).map fun c => (⟨c, 0, vs, []⟩ :: { f with pile := f.pile.take (f.pile.length - 1) } :: below, none)
      | _ => none
    | .tell => f.pile.getLast?.map fun v => match below with
      | [] => ([], some v)
      | g :: rest => ({ g with pile := g.pile ++ [v] } :: rest, some v)
def next (f : Fr) : Fr := { f with line := f.line + 1 }
/-- one row -/
def mstep (bs : List Bk) : List Fr → Option (List Fr × Option MV)
  | [] => none
  | f :: below => (f.code[f.line]?).bind fun r => mrow bs r (next f :: below)
/-- what stands in frames is no longer than a list may be -/
def Small (fs : List Fr) : Prop := fs.length ≤ sizeLine ∧ ∀ f ∈ fs, f.pile.length ≤ sizeLine ∧ f.loc.length ≤ sizeLine
/-- n rows lead from one to the other, no end between -/
inductive Rows (bs : List Bk) : Nat → List Fr → List Fr → Prop
  | done (fs) : Rows bs 0 fs fs
  | step {n fs gs hs o} : mstep bs fs = some (gs, o) → gs ≠ [] → Rows bs n gs hs → Rows bs (n + 1) fs hs
/-- n rows lead to the end, at which v is told -/
inductive Tells (bs : List Bk) : Nat → List Fr → MV → Prop
  | last {fs v} : mstep bs fs = some ([], some v) → Tells bs 1 fs v
  | step {n fs gs o v} : mstep bs fs = some (gs, o) → gs ≠ [] → Tells bs n gs v → Tells bs (n + 1) fs v
/-- .. all small -/
inductive TellsS (bs : List Bk) : Nat → List Fr → MV → Prop
  | last {fs v} : mstep bs fs = some ([], some v) → TellsS bs 1 fs v
  | step {n fs gs o v} : mstep bs fs = some (gs, o) → gs ≠ [] → Small gs → TellsS bs n gs v → TellsS bs (n + 1) fs v
end K46
/-! K46R1 -/
set_option maxHeartbeats 4000000
namespace K46
open PySem PySem.Spec PyProof.Rows L2
/-! ### == and != with an empty list, an empty tuple -/
def rEq0 (K : PySem.W.Frag) : R2 := fun x y H Q => ∃ a b xs, x = .ref a ∧ y = .ref b ∧ ((SqL K H a xs ∧ SqL K H b []) ∨ (SqT K H a xs ∧ SqT K H b [])) ∧ Q (.bl xs.isEmpty) H
def rNe0 (K : PySem.W.Frag) : R2 := fun x y H Q => ∃ a b xs, x = .ref a ∧ y = .ref b ∧ ((SqL K H a xs ∧ SqL K H b []) ∨ (SqT K H a xs ∧ SqT K H b [])) ∧ Q (.bl (!xs.isEmpty)) H
theorem size_isEmpty {xs : List V} {its : List Value} (r : Vals xs its) : xs.isEmpty = (its.toArray.size == 0) := by
  have e := r.length
  cases xs with
  | nil => cases r; rfl
  | cons x xs => cases r with | cons h t => simp
section
variable {X : Cx}
theorem op_eq0 (hu : X.A.units < cLine) : OpR X (compareOp .Eq) (rEq0 X.K) := by
  intro pins s σ H x y v u Q I rx ry h
  obtain ⟨a, b, xs, rfl, rfl, h1, q⟩ := h
  cases rx
  cases ry
  rcases h1 with ⟨h1, h2⟩ | ⟨h1, h2⟩
  · obtain ⟨its, r, ⟨o, n, e1, e2, _, e3⟩, _⟩ := I.list h1
    obtain ⟨its2, r2, ⟨o2, n2, f1, f2, _, f3⟩, _⟩ := I.list h2
    cases r2
    rw [size_isEmpty r] at q
    by_cases hz : its.toArray.size = 0
    · refine SeqAt.eq_listAt (e := fun _ => true) ⟨_, e1, e2, _, e3⟩ ⟨_, f1, f2, _, f3⟩ (by simpa using hz) hu (fun j h1 h2 => absurd h2 (by simp)) ?_
      refine ⟨.bl _, H, I, ?_, q⟩
      show Value.bool _ = Value.bool _
      rw [hz]
      rfl
    · refine SeqAt.eq_list_lengthsAt ⟨_, e1, e2, _, e3⟩ ⟨_, f1, f2, _, f3⟩ (by simpa using hz) hu ?_
      refine ⟨.bl _, H, I, ?_, q⟩
      show Value.bool _ = Value.bool _
      rw [beq_eq_false_iff_ne.mpr hz]
  · obtain ⟨its, r, ⟨o, e1, e2, n, e3⟩, _⟩ := I.tuple h1
    obtain ⟨its2, r2, ⟨o2, f1, f2, n2, f3⟩, _⟩ := I.tuple h2
    cases r2
    rw [size_isEmpty r] at q
    refine SeqAt.eq_tupleAt (e := fun _ => true) ⟨_, e1, e2, _, e3⟩ ⟨_, f1, f2, _, f3⟩ hu (fun j h1 h2 => absurd h2 (by simp)) ?_
    refine ⟨.bl _, H, I, ?_, q⟩
    show Value.bool _ = Value.bool _
    simp
theorem op_ne0 (hu : X.A.units < cLine) : OpR X (compareOp .NotEq) (rNe0 X.K) := by
  intro pins s σ H x y v u Q I rx ry h
  obtain ⟨a, b, xs, rfl, rfl, h1, q⟩ := h
  cases rx
  cases ry
  rcases h1 with ⟨h1, h2⟩ | ⟨h1, h2⟩
  · obtain ⟨its, r, ⟨o, n, e1, e2, _, e3⟩, _⟩ := I.list h1
    obtain ⟨its2, r2, ⟨o2, n2, f1, f2, _, f3⟩, _⟩ := I.list h2
    cases r2
    rw [size_isEmpty r] at q
    by_cases hz : its.toArray.size = 0
    · refine SeqAt.RcNeAt.lists (e := fun _ => true) ⟨_, e1, e2, _, e3⟩ ⟨_, f1, f2, _, f3⟩ (by simpa using hz) hu (fun j h1 h2 => absurd h2 (by simp)) _ _ _ _ ?_
      refine ⟨.bl _, H, I, ?_, q⟩
      show Value.bool _ = Value.bool _
      rw [hz]
      rfl
    · refine SeqAt.RcNeAt.lists_lengths ⟨_, e1, e2, _, e3⟩ ⟨_, f1, f2, _, f3⟩ (by simpa using hz) hu _ _ _ _ ?_
      refine ⟨.bl _, H, I, ?_, q⟩
      show Value.bool _ = Value.bool _
      rw [beq_eq_false_iff_ne.mpr hz]
      rfl
  · obtain ⟨its, r, ⟨o, e1, e2, n, e3⟩, _⟩ := I.tuple h1
    obtain ⟨its2, r2, ⟨o2, f1, f2, n2, f3⟩, _⟩ := I.tuple h2
    cases r2
    rw [size_isEmpty r] at q
    refine SeqAt.RcNeAt.tuples (e := fun _ => true) ⟨_, e1, e2, _, e3⟩ ⟨_, f1, f2, _, f3⟩ hu (fun j h1 h2 => absurd h2 (by simp)) _ _ _ _ ?_
    refine ⟨.bl _, H, I, ?_, q⟩
    show Value.bool _ = Value.bool _
    simp
end
/-! ### (a, .., *rest) = a tuple -/
theorem starT {prog : Program} {w : World} {A : Around} {E : Value → Shared → Prop} {s : Shared} {l : Addr} {items : Array Value} {n i : Nat} {Q : List Value → Shared → Prop} (hl : IsTup s.heap l items) (hh : A.handled = none) (hi : i < n) (hn : n ≤ items.size + 1) (hz : items.size ≤ 16384)
    (h : ∀ (h' : Heap) (tk : Nat), (∀ b o, s.heap.get? b = some o → h'.get? b = some o) →
      Q (items.toList.take i ++ [.ref h'.objs.size] ++ (items.toList.drop i).drop (items.size + 1 - n)) { s with heap := h'.push { cls := .type "list", data := .seq ((items.toList.drop i).take (items.size + 1 - n)).toArray }, toks := tk }) :
    wpAny (model prog w) A (unpackItems (.ref l) n (some i)) Q E s := by
  have hlt : l ≠ s.heap.objs.size := by obtain ⟨o, ho, _⟩ := hl; exact Nat.ne_of_lt (Heap.lt_size ho)
  unfold unpackItems
  refine wpAny_bind ?_
  unfold notIterableAtAll
  refine wpAny_bind (wpAny_specialOf hl.typeIs slot_tuple_iter.lookup ?_)
  refine wpAny_pure ?_
  simp only [Bool.false_eq_true, if_false]
  refine wpAny_bind (wpAny_holding (iter_tuple hl ?_))
  refine wpAny_bind (wpAny_holding (draw_tuple hlt i 0 _ _ ⟨_, Heap.get?_push_size _ rfl, rfl, rfl⟩ (hl.push _) (by omega) fun h₁ hit₁ hs₁ => ?_))
  have hl₁ : IsTup h₁ l items := (hl.push _).extBut hs₁.extBut hlt
  rw [Nat.zero_add] at hit₁
  have hit₁' := hit₁
  obtain ⟨oi, hoi, _⟩ := hit₁'
  have hl₁' := hl₁
  obtain ⟨ol, hol, _⟩ := hl₁'
  rw [List.drop_zero]
  have hfl : (items.toList.take i).length = i := by rw [List.length_take, Array.length_toList]; omega
  rw [if_neg (show ¬ ((items.toList.take i).length < i) by rw [hfl]; omega)]
  refine wpAny_bind (wpAny_holding (PySem.W.kun_collect (s := { s with heap := h₁ }) (T := "tuple_iterator") (.inr (.inr (.inr rfl))) (Walks.tuple (A := A.in1) hh s.heap.objs.size l hlt items) (fun j u st => st.1.typeIs) (k := i) (by omega) ⟨hit₁, hl₁⟩ (Heap.lt_size hoi) (Heap.lt_size hol) (fun h₂ tk hk => ?_) (by rw [sizeLine_eq]; omega)))
  have hrl : (items.toList.drop i).length = items.size - i := by rw [List.length_drop, Array.length_toList]
  have hmid : (items.toList.drop i).length - (n - 1 - i) = items.size + 1 - n := by rw [hrl]; omega
  show wpAny _ _ (if (items.toList.drop i).length < n - 1 - i then _ else _) _ _ _
  rw [if_neg (by rw [hrl]; omega)]
  show wpAny _ _ (newList ((items.toList.drop i).take ((items.toList.drop i).length - (n - 1 - i))) >>= fun d => pure (items.toList.take i ++ [d] ++ (items.toList.drop i).drop ((items.toList.drop i).length - (n - 1 - i)))) _ _ _
  rw [hmid]
  have he : ∀ b o, s.heap.get? b = some o → h₂.get? b = some o := fun b o e => hk b o (Nat.ne_of_lt (Heap.lt_size e)) (hs₁.extBut b o (Nat.ne_of_lt (Heap.lt_size e)) (Heap.get?_push_of_some _ e))
  exact wpAny_bind (wpAny_newList (wpAny_pure (h h₂ tk he)))
def gTupS (K : PySem.W.Frag) (n i : Nat) (t : TGs) : TG := fun v σ H Q => ∃ a xs, v = .ref a ∧ SqT K H a xs ∧ n ≤ xs.length + 1 ∧ xs.length ≤ 16384 ∧
  ∀ D, H D = none → t (xs.take i ++ [.ref D] ++ (xs.drop i).drop (xs.length + 1 - n)) σ (upd H D (.lst ((xs.drop i).take (xs.length + 1 - n)))) Q
theorem pgs_star {X : Cx} {e : Expr} {es : List Expr} {p : Pos} {t : TG} {u : TGs} (h1 : PG X e t) (h2 : PGs X es u)
    (hs : (assignEach (.Starred e p :: es) X.env).map (·.2) = assign e X.env :: (assignEach es X.env).map (·.2) := by rfl) : PGs X (.Starred e p :: es) (gCons t u) := by
  refine ⟨fun pins s σ H vs us Q I r h => ?_⟩
  obtain ⟨v, vr, e1, h⟩ := h
  subst e1
  cases r with
  | cons r rr =>
    rw [hs]
    refine assignInOrder_cons (thn (h1.run pins s σ H _ _ _ I r h) fun _ s1 ⟨σ1, H1, I1, q1⟩ => ?_)
    exact h2.run pins s1 σ1 H1 _ _ Q I1 rr q1
theorem pg_tupS {X : Cx} {pos : Pos} {es : List Expr} {k : Nat} {t : TGs} {n i : Nat} (hc : X.calm = true) (h : PGs X es t)
    (hn : (assignEach es X.env).length = n := by rfl) (hst : (assignEach es X.env).findIdx? (·.1) = some i := by rfl) (hi : i < n := by decide) : PG X (.Tuple es k pos) (gTupS X.K n i t) := by
  refine ⟨fun pins s σ H v u Q I r hw => ?_⟩
  obtain ⟨a, xs, e1, hq, hl, hz, hw⟩ := hw
  subst e1
  cases r
  obtain ⟨its, rv, ht, _⟩ := I.tuple hq
  have el : its.length = xs.length := rv.length.symm
  rw [assign_Tuple]
  refine wpAny_bind (wpAny_standAt ?_)
  unfold unpack
  rw [hn, hst]
  refine wpAny_bind (wpAny_holding (starT ht (I.ok.hd hc) hi (by simpa [el] using hl) (by simpa [el] using hz) fun h' tk hk => ?_))
  have I1 : Inv X pins σ H { s with heap := h', toks := tk } := I.kept (t' := tk) hk
  have hf : H h'.objs.size = none := I1.hok.fresh (Nat.le_refl _)
  have rmid : Vals ((xs.drop i).take (xs.length + 1 - n)) ((its.drop i).take (xs.length + 1 - n)) := (rv.drop i).take _
  have I2 : Inv X pins σ (upd H h'.objs.size (.lst ((xs.drop i).take (xs.length + 1 - n)))) { s with heap := h'.push { cls := .type "list", data := .seq ((its.drop i).take (xs.length + 1 - n)).toArray }, toks := tk } := by
    refine I1.laid (t' := tk) (fun b u e => Heap.get?_push_of_some _ e) (Nat.le_refl _) ⟨?_, (its.drop i).take (xs.length + 1 - n), 0, rmid, Heap.get?_push_size _ rfl⟩
    rw [List.length_take, List.length_drop, sizeLine_eq]
    omega
  have e2 : its.toArray.size = xs.length := by simp [el]
  have e3 : its.toArray.toList = its := by simp
  rw [e2, e3]
  exact h.run pins _ σ _ _ _ Q I2 (((rv.take i).append (.cons (show RelV (V.ref h'.objs.size) (Value.ref h'.objs.size) from rfl) .nil)).append ((rv.drop i).drop _)) (hw _ hf)
end K46
/-! K46R2 -/
set_option maxHeartbeats 4000000
namespace K46
open PySem PySem.Spec PyProof.Rows L2
/-! ### del xs[k:] of a list -/
theorem bounds_from {k n : Nat} (hk : k ≤ n) : sliceBounds (some (k : Int)) none none n = ((k : Int), (n : Int), 1) := by
  simp only [sliceBounds, Option.getD_none]
  have h1 : ¬ ((k : Int) < 0) := by omega
  simp only [h1, if_false, show (1 : Int) > 0 by decide, if_true]
  congr 1
  omega
section
variable {prog : Program} {w : World} {A : Around} {E : Value → Shared → Prop} {s : Shared}
theorem delItem_from {l sl : Addr} {items : Array Value} {n k : Nat} {vl : Value} {Q : Unit → Shared → Prop}
    (e : s.heap.get? l = some { cls := .type "list", data := .seq items n }) (hs : s.heap.IsSliceOf sl vl .none .none) (pl : IsPart vl (some (k : Int))) (hk : k ≤ items.size) (hsz : items.size ≤ sizeLine)
    (h : ∀ f : Array Value → Array Value, f items = (items.toList.take k).toArray → Q () { s with heap := s.heap.update l (Obj.mapSeq f) }) :
    wpAny (model prog w) A (delItem (.ref l) (.ref sl)) Q E s := by
  have hl : s.heap.IsList l items := PySem.IsL.isList e
  obtain ⟨os, hos, hcs, hds⟩ := id hs
  have hTs : s.TypeIs (.ref sl) "slice" := ⟨os, hos, hcs⟩
  have hstep : ¬ ((rawPart none == rawInt 0) = true) := Bool.false_ne_true
  refine wpAny_delItem_slot hl.typeIs (by decide) F.slot_list_delitem (wpAny_call_entry F.slot_list_delitem hl.typeIs F.entry_list_delitem ?_ (F.args_list_delitem_2 _ _))
  show wpAny _ _ (Builtin.List.listSubscript? (.ref sl) >>= _) _ _ s
  refine wpAny_bind ?_
  unfold Builtin.List.listSubscript?
  refine wpAny_bind (wpAny_specialOf hTs slice_no_index ?_)
  simp only [Option.isNone_none, if_true]
  refine wpAny_pure ?_
  show wpAny _ _ (typeOf (.ref sl) >>= _) _ _ s
  refine wpAny_bind (wpAny_typeOf hTs ?_)
  first
    | rw [if_neg (by decide)]
    | refine PySem.W.KFB.if_not (by decide) ?_
  rw [listSliceParts_eq]
  refine wpAny_bind (wpAny_bind (wpAny_field hos hds (x := .none) rfl (wpAny_bind (wpAny_listPart .none ?_))))
  rw [if_neg hstep]
  refine wpAny_bind (wpAny_field hos hds (x := vl) rfl (wpAny_bind (wpAny_listPart pl ?_)))
  refine wpAny_bind (wpAny_field hos hds (x := .none) rfl (wpAny_bind (wpAny_listPart .none (wpAny_pure ?_))))
  unfold Builtin.List.listItems
  refine wpAny_bind (wpAny_bind (wpAny_seqItems e rfl (wpAny_pure ?_)))
  refine wpAny_bind (wpAny_of_eq ((sliceIndices_raw (some (k : Int)) none none items.size (by simp)).trans (congrArg (pure : Int × Int × Int → Sem (Int × Int × Int)) (bounds_from hk))) ?_)
  refine wpAny_bind (wpAny_rule ?_)
  have sel : ∀ (f : Nat → Bool), (∀ j, f j = (decide ((k : Int) ≤ (j : Int)) && decide ((j : Int) < (items.size : Int)) && (((j : Int) - (k : Int)) % 1 == 0))) → (items.toList.zipIdx.filterMap fun p => if f p.2 = true then none else some p.1) = items.toList.take k := fun f hf => by
    have g : ∀ (xs : List Value) (i : Nat), i + xs.length = items.size → (xs.zipIdx i).filterMap (fun p => if f p.2 = true then none else some p.1) = xs.take (k - i) := by
      intro xs
      induction xs with
      | nil => intro i _; simp
      | cons x xs ih =>
        intro i hi
        have hi' : i + 1 + xs.length = items.size := by
          have h5 : (x :: xs).length = xs.length + 1 := rfl
          omega
        rw [List.zipIdx_cons, List.filterMap_cons]
        have ih := ih (i + 1) hi'
        by_cases h : k ≤ i
        · have h0 : f i = true := by
            rw [hf i]
            have a1 : decide ((k : Int) ≤ (i : Int)) = true := decide_eq_true (by omega)
            have a2 : decide ((i : Int) < (items.size : Int)) = true := decide_eq_true (by omega)
            have a3 : (((i : Int) - (k : Int)) % 1 == 0) = true := by rw [Int.emod_one]; rfl
            rw [a1, a2, a3] <;> rfl
          have e1 : k - i = 0 := by omega
          have e2 : k - (i + 1) = 0 := by omega
          rw [e2, List.take_zero] at ih
          rw [e1, List.take_zero]
          simp only [h0, if_true]
          exact ih
        · have h0 : f i = false := by
            rw [hf i]
            have a1 : decide ((k : Int) ≤ (i : Int)) = false := decide_eq_false (by omega)
            rw [a1] <;> rfl
          have e1 : k - i = (k - (i + 1)) + 1 := by omega
          rw [e1, List.take_succ_cons]
          simp only [h0, Bool.false_eq_true, if_false]
          rw [ih]
    have g0 := g items.toList 0 (by simp)
    exact g0
  refine wpAny_bind ?_
  show wpAny _ _ (updateSeq l _) _ _ _
  refine wpAny_updateSeq (hz := hsz) (_hz' := ?hz) e rfl ?go
  case hz =>
    rw [List.size_toArray]
    refine Nat.le_trans (List.length_filterMap_le _ _) ?_
    rw [List.length_zipIdx, Array.length_toList]
    omega
  refine wpAny_bind (wpAny_letGo ?_)
  refine wpAny_pure ⟨_, rfl, h _ ?fin⟩
  case fin => exact congrArg List.toArray (sel (fun j => decide ((k : Int) ≤ (j : Int)) && decide ((j : Int) < (items.size : Int)) && (((j : Int) - (k : Int)) % 1 == 0)) (fun j => rfl))
end
section
variable {X : Cx}
def tDelS (to tl : TE) : TS := fun D σ H => to σ H fun x H1 => tl σ H1 fun y H2 => ∃ (l : Addr) (xs : List V) (k : Nat), x = .ref l ∧ y = .int (k : Int) ∧ H2 l = some (.lst xs) ∧ k ≤ xs.length ∧ D.nx σ (upd H2 l (.lst (xs.take k)))
theorem ps_delS {o i : Expr} {to tl : TE} {p2 tpos pos : Pos} (ho : PE X o to) (hi : PE X i tl) : PS X (.Delete [.Subscript o (.Slice (some i) none none p2) tpos] pos) (tDelS to tl) := by
  refine ⟨fun pins s σ H D I h => ?_⟩
  refine wpAny_Delete (wpAny_deleteEach_cons (wpAny_delete_Subscript (thn (ho.run pins s σ H _ I h) fun u s1 ⟨x, H1, I1, rx, q1⟩ => ?_)))
  refine wpAny_Slice ?_
  rw [evalPart_some]
  refine thn (hi.run pins s1 σ H1 _ I1 q1) fun vl s2 ⟨y, H2, I2, ry, q2⟩ => ?_
  rw [evalPart_none]
  refine wpAny_pure (wpAny_pure ?_)
  obtain ⟨l, xs, k, ex, ey, hH, hk, q2⟩ := q2
  subst ex
  subst ey
  cases (show u = Value.ref l from rx)
  obtain ⟨t, rfl⟩ := (show ∃ t, vl = Value.int (k : Int) t from ry)
  have I3 : Inv X pins σ H2 { s2 with heap := s2.heap.push { cls := .type "slice", data := .fields #[.int (k : Int) t, .none, .none] } } := I2.kept (t' := s2.toks) fun b ob q => Heap.get?_push_of_some _ q
  obtain ⟨z, its, n, r, hl, e⟩ := I3.lstM hH
  refine delItem_from (k := k) e (Heap.IsSliceOf.new ..) (.int _ _) (by rw [List.size_toArray]; omega) (by rw [List.size_toArray]; omega) fun f hf => ?_
  refine wpAny_deleteEach_nil ⟨σ, _, ?_, q2⟩
  refine I3.lset (its' := its.take k) (t' := s2.toks) hH e ?_ (r.take k) ?_
  · rw [hf]
  · rw [List.length_take]
    omega
end
end K46
/-! K46R11 -/
set_option maxHeartbeats 4000000
namespace K46
open PySem PySem.Spec PyProof.Rows L2 C8
/-! ### xs.extend(t), t a tuple -/
theorem meets_extendT (l : Addr) (items : Array Value) (n : Nat) (b : Addr) (items2 : Array Value) (n2 : Nat) (dd : Option Addr) (sl : Array (Option Value)) (hs0 : ¬(!items.isEmpty && Builtin.List.listTooLong (items.size + items2.size)) = true) (hs1 : items.size ≤ sizeLine) (hs2 : items.size + items2.size ≤ sizeLine + 1) :
    Meets (Builtin.«list.extend» ⟨[.ref l, .ref b], []⟩) (fun _ R s => s.heap.get? l = some { cls := .type "list", dict := none, data := .seq items n, slots := #[] } ∧ s.heap.get? b = some { cls := .type "tuple", dict := dd, data := .seq items2 n2, slots := sl } ∧ R (.ok (.ret Value.none)) { s with heap := s.heap.update l (Obj.mapSeq fun x => x ++ items2), toks := s.toks }) :=
  .of_wp fun prog w A R s h => by
    obtain ⟨hp, g, d, tk, os⟩ := s
    obtain ⟨hl, hb, h⟩ := h
    have f1 := PySem.AutoSeq1.idx_int
    have f2 := PySem.AutoSeq1.sub_tuple_tuple
    have f3 := PySem.AutoSeq1.sub_list_list
    have f4 := PySem.AutoSeq1.sub_tuple_list
    have f5 := PySem.AutoSeq1.sub_list_tuple
    have hz' : (items ++ items2).size ≤ sizeLine + 1 := by rw [Array.size_append]; exact hs2
    wp_walk using (wpAny_updateSeq hl rfl (hz := hs1) (_hz' := hz')), PySem.AutoSeq1.wpAny_loadPart' hl, PySem.AutoSeq1.wpAny_loadPart' hb
    exact ⟨_, rfl, h⟩
def rExtT (K : PySem.W.Frag) : V → List V → Hp → VK → Prop := fun x vs H Q => ∃ l b xs zs, x = .ref l ∧ vs = [.ref b] ∧ H l = some (.lst xs) ∧ SqT K H b zs ∧ xs.length + zs.length ≤ sizeLine ∧ Q .non (upd H l (.lst (xs ++ zs)))
theorem mt_extT {X : Cx} : MtM X "list.extend" (rExtT X.K) := by
  intro pins s σ H x vs v us Q I rx rv h
  obtain ⟨l, b, xs, zs, rfl, rfl, hH, hB, hz, q⟩ := h
  cases rx
  obtain ⟨u, rfl, ru⟩ := rv.one
  cases ru
  obtain ⟨z, its, n, r, hl, e⟩ := I.lstM hH
  obtain ⟨its2, r2, ⟨⟨oc, od, dt, sl⟩, e2, hc, n2, hd⟩, _⟩ := I.tuple hB
  simp only at hc hd
  subst hc hd
  have hl2 := r2.length
  have hsz : its.toArray.size + its2.toArray.size ≤ sizeLine := by rw [List.size_toArray, List.size_toArray]; omega
  refine call_meets PySem.F.slot_list_extend ⟨_, e, rfl⟩ PySem.F.entry_list_extend (PySem.F.args_list_extend_2 _ _)
    (meets_extendT l its.toArray n b its2.toArray n2 od sl (by rw [notLongL hsz, Bool.and_false]; exact Bool.false_ne_true) (by rw [List.size_toArray]; omega) (by omega)) ⟨e, e2, ?_⟩
  refine ⟨.non, _, I.lset (its' := its ++ its2) hH e (by simp) (r.append r2) ?_, rfl, q⟩
  rw [List.length_append]
  omega
end K46
/-! K46F1 -/
set_option maxHeartbeats 4000000
namespace K46
open PySem PySem.Spec PyProof.Rows L2 C8
/-! ### a frame: its fields -/
abbrev frF (c : V) (l : Int) (v s : Addr) : List (Str × V) := [("code_here", c), ("line_now", .int l), ("values_here", .ref v), ("pile", .ref s)]
theorem putF_step (f g : Str) (y z : V) (fs : List (Str × V)) : putF f y ((g, z) :: fs) = if g = f then (g, y) :: fs else (g, z) :: putF f y fs := rfl
section
variable {c y : V} {l k : Int} {v s : Addr}
theorem frF_code : (frF c l v s).lookup ("code_here" : Str) = some c := by kernel_rfl
theorem frF_line : (frF c l v s).lookup ("line_now" : Str) = some (.int l) := by kernel_rfl
theorem frF_vals : (frF c l v s).lookup ("values_here" : Str) = some (.ref v) := by kernel_rfl
theorem frF_pile : (frF c l v s).lookup ("pile" : Str) = some (.ref s) := by kernel_rfl
theorem frF_put : putF "line_now" (.int k) (frF c l v s) = frF c k v s := by kernel_rfl
theorem frF_no1 : (frF c l v s).lookup ("next_row" : Str) = none := by kernel_rfl
theorem frF_no2 : (frF c l v s).lookup ("take_off" : Str) = none := by kernel_rfl
theorem frF_no3 : (frF c l v s).lookup ("ask" : Str) = none := by kernel_rfl
theorem frF_mk : putF "pile" (.ref s) (putF "values_here" (.ref v) (putF "line_now" (.int l) (putF "code_here" c []))) = frF c l v s := by kernel_rfl
end
section
variable {P : Program} {w : World} {K : PySem.W.Frag} {mg : Str → Option Value} {base : Heap}
abbrev CF (K : PySem.W.Frag) : Addr := He.ga K "Frame"
def sp_Frame_init (K : PySem.W.Frag) : Sp := fun vs H Q _ => ∃ (p dx g : Addr) (c : V) (xs : List V), vs = [.ref p, c, .ref g] ∧ H p = some (.ins (CF K) dx []) ∧ SqT K H g xs ∧
  ∀ v s H', H v = none → H s = none → v ≠ s → Keep [p] H H' → H' p = some (.ins (CF K) dx (frF c 0 v s)) → H' v = some (.lst xs) → H' s = some (.lst []) → Q .non H'
theorem ok_Frame_init (T : Tx K mg) : Mak P w K mg base 1 "Frame" (CF K) (sp_Frame_init K) [] := by
  refine mak_mk T.f_Frame_init T.mk_Frame T.g_Frame sc_Frame_init (fun _ _ _ _ _ _ us hl => match us, hl with | [_, _, _], _ => rfl) (fun vs H Q E h => ?_) (fun cdv A outer s H vs Q E hr h => ?_)
  · obtain ⟨p, dx, g, c, xs, rfl, _⟩ := h
    rfl
  · obtain ⟨p, dx, g, c, xs, rfl, hp, hg, k⟩ := h
    refine ⟨_, (pss_cons (ps_fld (pv 0) (pv 1) rfl)
      (pss_cons (ps_fld (pv 0) pe_int rfl)
      (pss_cons (ps_fld (pv 0) (pe_callTy call_list_of (by rfl) T.z_list (by decide +kernel) (pa_cons (pv 2) pa_nil)) rfl)
      (pss_one (ps_fld (pv 0) (pe_lst pa_nil) rfl))))), ?_⟩
    have k1 : Keep [p] H (upd (upd H p (.ins (CF K) dx (putF "code_here" c []))) p (.ins (CF K) dx (putF "line_now" (.int 0) (putF "code_here" c [])))) := Keep.ins upd_same (.inl (by simp)) (Keep.ins hp (.inl (by simp)) (Keep.refl _ _))
    refine ⟨_, rfl, _, rfl, p, _, dx, _, rfl, hp, T.c_Frame, T.n_Frame_code_here, (by decide), _, rfl, p, _, dx, _, rfl, upd_same, T.c_Frame, T.n_Frame_line_now, (by show 1 < 1000; decide), _, rfl, g, xs, rfl, .inr (k1.sqT hg), fun v nv => ?_⟩
    have npv : p ≠ v := ne_of_none upd_same nv
    refine ⟨_, rfl, p, _, dx, _, rfl, (by rw [upd_ne npv]; exact upd_same), T.c_Frame, T.n_Frame_values_here, (by show 2 < 1000; decide), (by decide), fun s ns => ?_⟩
    have nps : p ≠ s := ne_of_none upd_same ns
    have nvs : v ≠ s := ne_of_none (by rw [upd_ne npv.symm]; exact upd_same) ns
    refine ⟨_, rfl, p, _, dx, _, rfl, (by rw [upd_ne nps]; exact upd_same), T.c_Frame, T.n_Frame_pile, (by show 3 < 1000; decide), ?_⟩
    have hv : H v = none := new_old (new_old nv)
    have hs : H s = none := new_old (new_old (new_old (new_old ns)))
    refine k v s _ hv hs nvs ?_ ?_ ?_ ?_
    · exact Keep.ins (by rw [upd_ne nps]; exact upd_same) (.inl (by simp)) (Keep.new ns (Keep.ins (by rw [upd_ne npv]; exact upd_same) (.inl (by simp)) (Keep.new nv k1)))
    · rw [upd_same, frF_mk]
    · rw [upd_ne npv.symm, upd_ne nvs, upd_ne npv.symm]
      exact upd_same
    · rw [upd_ne nps.symm]
      exact upd_same
def sp_next_row (K : PySem.W.Frag) : Sp := fun vs H Q _ => ∃ (p dx v s a : Addr) (l : Nat) (rows : List V) (r : V), vs = [.ref p] ∧ H p = some (.ins (CF K) dx (frF (.ref a) l v s)) ∧ SqT K H a rows ∧ rows[l]? = some r ∧ Q r (upd H p (.ins (CF K) dx (frF (.ref a) (l + 1 : Nat) v s)))
theorem ok_next_row (T : Tx K mg) : Met P w K mg base 1 (CF K) "next_row" (sp_next_row K) [] := by
  refine met_mk T.f_Frame_next_row T.c_Frame T.m_Frame_next_row sc_Frame_next_row (fun _ _ _ _ _ _ us hl => match us, hl with | [_], _ => rfl) (fun vs H Q E h => ?_) (fun cdv A outer s H vs Q E hr h => ?_)
  · obtain ⟨p, dx, v, s, a, l, rows, r, rfl, _⟩ := h
    rfl
  · obtain ⟨p, dx, v, s, a, l, rows, r, rfl, hp, ha, hl, k⟩ := h
    refine ⟨_, (pss_cons (ps_set (i := 1) sc_Frame_next_row.nd rfl (Or.inl rfl) (pe_ix ix_tup (pe_fld (pv 0) rfl) (pe_fld (pv 0) rfl) (fun _ _ => rfl)))
      (pss_cons (ps_fldaug (pv 0) pe_int in_add)
      (pss_one (ps_ret (pv 1))))), ?_⟩
    refine ⟨_, rfl, p, _, dx, _, _, rfl, hp, T.c_Frame, T.n_Frame_code_here, frF_code, _, rfl, p, _, dx, _, _, rfl, hp, T.c_Frame, T.n_Frame_line_now, frF_line, a, rows, l, r, rfl, rfl, ha, atI_nat hl, ?_⟩
    refine ⟨_, rfl, p, _, dx, _, _, rfl, hp, T.c_Frame, T.n_Frame_line_now, frF_line, _, _, rfl, rfl, dx, _, hp, (by show 4 < 1000; decide), _, rfl, ?_⟩
    rw [frF_put]
    exact k
def sp_take_off (K : PySem.W.Frag) : Sp := fun vs H Q _ => ∃ (p dx v s : Addr) (c : V) (l : Int) (m : Nat) (ss : List V), vs = [.ref p, .int m] ∧ H p = some (.ins (CF K) dx (frF c l v s)) ∧ H s = some (.lst ss) ∧ m ≤ ss.length ∧
  ∀ t H', H t = none → Keep [s] H H' → H' s = some (.lst (ss.take (ss.length - m))) → H' t = some (.tup (ss.drop (ss.length - m))) → Q (.ref t) H'
theorem cut_from (xs : List V) (n : Nat) (h : n ≤ xs.length) : cutV xs (some (n : Int)) none = xs.drop n := by
  unfold cutV
  have e : HT.sIx xs.length 0 (some (n : Int)) = n := by
    unfold HT.sIx
    have h0 : ¬ ((n : Int) < 0) := by omega
    simp only [h0, if_false, Int.toNat_natCast]
    omega
  have e2 : HT.sIx xs.length xs.length none = xs.length := rfl
  rw [e, e2, List.take_of_length_le (by rw [List.length_drop]; exact Nat.le_refl _)]
theorem ok_take_off (T : Tx K mg) : Met P w K mg base 1 (CF K) "take_off" (sp_take_off K) [] := by
  refine met_mk T.f_Frame_take_off T.c_Frame T.m_Frame_take_off sc_Frame_take_off (fun _ _ _ _ _ _ us hl => match us, hl with | [_, _], _ => rfl) (fun vs H Q E h => ?_) (fun cdv A outer s0 H vs Q E hr h => ?_)
  · obtain ⟨p, dx, v, s, c, l, m, ss, rfl, _⟩ := h
    rfl
  · obtain ⟨p, dx, v, s, c, l, m, ss, rfl, hp, hs, hm, k⟩ := h
    refine ⟨_, (pss_cons (ps_set (i := 2) sc_Frame_take_off.nd rfl (Or.inl rfl) (pe_op op_sub (pe_callB call_len_seq (by rfl) T.z_len PySem.boot_len (pa_cons (pe_fld (pv 0) rfl) pa_nil)) (pv 1)))
      (pss_cons (ps_set (i := 3) sc_Frame_take_off.nd rfl (Or.inl rfl) (pe_callTy call_tuple_of (by rfl) T.z_tuple (by decide +kernel) (pa_cons (pe_slice sl_list (pe_fld (pv 0) rfl) (po_some (pv 2)) po_none) pa_nil)))
      (pss_cons (ps_delS (pe_fld (pv 0) rfl) (pv 2))
      (pss_one (ps_ret (pv 3)))))), ?_⟩
    have ei : ((ss.length : Nat) : Int) - (m : Int) = ((ss.length - m : Nat) : Int) := by omega
    have nps : p ≠ s := ne_of hp hs (by intro z; cases z)
    refine ⟨_, rfl, p, _, dx, _, _, rfl, hp, T.c_Frame, T.n_Frame_pile, frF_pile, s, ss, rfl, .inl (.of hs), _, rfl, _, _, rfl, rfl, ?_⟩
    refine ⟨_, rfl, p, _, dx, _, _, rfl, hp, T.c_Frame, T.n_Frame_pile, frF_pile, _, rfl, _, rfl, s, ss, rfl, .of hs, fun q nq => ?_⟩
    refine ⟨q, _, rfl, .inl ⟨.of upd_same, fun t nt => ?_⟩⟩
    have nsq : s ≠ q := ne_of_none hs nq
    have npq : p ≠ q := ne_of_none hp nq
    have nst : s ≠ t := ne_of_none (by rw [upd_ne nsq]; exact hs) nt
    have npt : p ≠ t := ne_of_none (by rw [upd_ne npq]; exact hp) nt
    have nqt : q ≠ t := (new_ne nt).symm
    refine ⟨_, rfl, p, _, dx, _, _, rfl, (by rw [upd_ne npt, upd_ne npq]; exact hp), T.c_Frame, T.n_Frame_pile, frF_pile, _, rfl, s, ss, ss.length - m, rfl, ?_, (by rw [upd_ne nst, upd_ne nsq]; exact hs), Nat.sub_le _ _, ?_⟩
    · show V.int _ = V.int _
      rw [ei]
    refine ⟨_, rfl, k t _ (new_old nt) ?_ ?_ ?_⟩
    · exact Keep.lst (by rw [upd_ne nst, upd_ne nsq]; exact hs) (.inl (by simp)) (Keep.new nt (Keep.new nq (Keep.refl _ _)))
    · exact upd_same
    · rw [upd_ne nst.symm, upd_same, ei, cut_from _ _ (Nat.sub_le _ _)]
def valOf : MV → List MV
  | .shape _ vs => vs
  | _ => []
/-- what an ask does: the line, the locals behind it -/
def asked (n : Str) (l f : Nat) : MV → Nat × List MV
  | .shape n' vs => if n = n' then (l, vs) else (f, [])
  | _ => (f, [])
def sp_ask (K : PySem.W.Frag) : Sp := fun vs H Q _ => ∃ (p dx v s ch : Addr) (c : V) (l0 : Int) (k l f : Nat) (n : Str) (xs : List V) (x : V) (m : MV), vs = [.ref p, .int k, .ref ch, .int f] ∧ H p = some (.ins (CF K) dx (frF c l0 v s)) ∧ H v = some (.lst xs) ∧ xs[k]? = some x ∧ At K H x (encV m) ∧
  At K H (.ref ch) (.tup [.tup [.str n, .int (l : Int)]]) ∧ xs.length + (asked n l f m).2.length ≤ sizeLine ∧
  ∀ ys H', AtL K H ys (encVs (asked n l f m).2) → Keep [p, v] H H' → H' p = some (.ins (CF K) dx (frF c ((asked n l f m).1 : Nat) v s)) → H' v = some (.lst (xs ++ ys)) → (∀ b o, b ≠ p → b ≠ v → H b = some o → H' b = some o) → Q .non H'
theorem ok_ask (T : Tx K mg) : Met P w K mg base 1 (CF K) "ask" (sp_ask K) [] := by
  refine met_mk T.f_Frame_ask T.c_Frame T.m_Frame_ask sc_Frame_ask (fun _ _ _ _ _ _ us hl => match us, hl with | [_, _, _, _], _ => rfl) (fun vs H Q E h => ?_) (fun cdv A outer s0 H vs Q E hr h => ?_)
  · obtain ⟨p, dx, v, s, ch, c, l0, k, l, f, n, xs, x, m, rfl, _⟩ := h
    rfl
  · obtain ⟨p, dx, v, s, ch, c, l0, k, l, f, n, xs, x, m, rfl, hp, hv, hk, hx, hch, hz, kk⟩ := h
    obtain ⟨tSHm, kSHm⟩ := T.k_SHAPE_machine
    refine ⟨_, (pss_cons (ps_set (i := 4) sc_Frame_ask.nd rfl (Or.inl rfl) (pe_ix ix_list (pe_fld (pv 0) rfl) (pv 1) (fun _ _ => rfl)))
      (pss_cons (ps_fld (pv 0) (pv 3) rfl)
      (pss_one (ps_if (pt_cmpR op_eq (pe_ix ix_tup (pv 4) pe_int (fun _ _ => rfl)) (pe_glob (v := .str "shape") rfl kSHm ⟨_, rfl⟩) (nomark _)) (pss_one (ps_for PassesOwn.never rfl (pi_tup (pv 2)) (pg_tup rfl (pgs_cons (pg_name (i := 5) sc_Frame_ask.nd rfl (Or.inl rfl)) (pgs_cons (pg_name (i := 6) sc_Frame_ask.nd rfl (Or.inl rfl)) pgs_nil))) (pss_one (ps_if (pt_cmpR op_eq (pv 5) (pe_ix ix_tup (pv 4) pe_int (fun _ _ => rfl)) (nomark _)) (pss_cons (ps_fld (pv 0) (pv 6) rfl)
      (pss_cons (ps_expr (pe_bm PySem.F.plainAttrs_list PySem.F.slot_list_extend PySem.F.type_list_extend mt_extT (pe_fld (pv 0) rfl) (pa_cons (pe_ix ix_tup (pv 4) pe_int (fun _ _ => rfl)) pa_nil)))
      (pss_one ps_retN))) pss_nil)))) pss_nil)))), ?_⟩
    have npv : p ≠ v := ne_of hp hv (by intro z; cases z)
    have k1 : ∀ b o, b ≠ p → H b = some o → upd H p (.ins (CF K) dx (frF c f v s)) b = some o := fun b o n e => by rw [upd_ne n]; exact e
    have kp : Keep [p] H (upd H p (.ins (CF K) dx (frF c f v s))) := Keep.ins hp (.inl (by simp)) (Keep.refl _ _)
    refine ⟨_, rfl, p, _, dx, _, _, rfl, hp, T.c_Frame, T.n_Frame_values_here, frF_vals, _, rfl, v, xs, k, x, rfl, rfl, .of hv, atI_nat hk, ?_⟩
    refine ⟨_, rfl, _, rfl, p, _, dx, _, rfl, hp, T.c_Frame, T.n_Frame_line_now, (by show 4 < 1000; decide), ?_⟩
    rw [frF_put]
    cases m with
    | dull =>
      obtain ⟨a, y, rfl, hq, hy⟩ := hx.t1
      obtain rfl := hy.s
      refine ⟨_, rfl, a, _, 0, _, rfl, rfl, kp.sqT hq, atI_nat (j := 0) rfl, rfl, _, rfl, ite2 (fun h => absurd h (by decide +kernel)) (fun _ => ?_)⟩
      exact kk [] _ .nil (kp.mono (by simp)) upd_same (by rw [List.append_nil]; exact k1 v _ npv.symm hv) (fun b o n _ e => k1 b o n e)
    | clo n' ws =>
      obtain ⟨a, y, y2, y3, rfl, hq, hy, _, _⟩ := hx.t3
      obtain rfl := hy.s
      refine ⟨_, rfl, a, _, 0, _, rfl, rfl, kp.sqT hq, atI_nat (j := 0) rfl, rfl, _, rfl, ite2 (fun h => absurd h (by decide +kernel)) (fun _ => ?_)⟩
      exact kk [] _ .nil (kp.mono (by simp)) upd_same (by rw [List.append_nil]; exact k1 v _ npv.symm hv) (fun b o n _ e => k1 b o n e)
    | shape n' ws =>
      obtain ⟨a, y, y2, y3, rfl, hq, hy, hy2, hy3⟩ := hx.t3
      obtain rfl := hy.s
      obtain rfl := hy2.s
      obtain ⟨b, ys, rfl, hb, hys⟩ := hy3.t
      obtain ⟨ch', cs, ec, hc, hcs⟩ := hch.t
      cases ec
      cases hcs with
      | cons hc1 hcs =>
        cases hcs
        obtain ⟨pr, z1, z2, rfl, hpr, hz1, hz2⟩ := hc1.t2
        obtain rfl := hz1.s
        obtain rfl := hz2.i
        refine ⟨_, rfl, a, _, 0, _, rfl, rfl, kp.sqT hq, atI_nat (j := 0) rfl, rfl, _, rfl, ift (deq _) ?_⟩
        refine ⟨_, rfl, ch, rfl, ⟨_, kp.sqT hc⟩, for_it (walk_tup (xs := [V.ref pr])) (fun i σ H' => (i = 0 ∧ σ = [some (.ref p), some (.int (k : Int)), some (.ref ch), some (.int (f : Int)), some (.ref a), none, none] ∧ H' = upd H p (.ins (CF K) dx (frF c f v s))) ∨ (i = 1 ∧ ¬ n = n' ∧ H' = upd H p (.ins (CF K) dx (frF c f v s))))
          (.inl ⟨rfl, rfl, rfl⟩) (fun i σ H' _ hh => ?_) (fun i y σ H' H2 hi hh hy => ?_) (fun σ H' hh => ?_)⟩
        · rcases hh with ⟨_, _, rfl⟩ | ⟨_, _, rfl⟩ <;> exact kp.sqT hc
        · rcases hh with ⟨rfl, rfl, rfl⟩ | ⟨rfl, _⟩
          · obtain ⟨rfl, hy⟩ := hy
            cases hy
            refine ⟨pr, _, rfl, kp.sqT hpr, rfl, _, _, rfl, _, _, rfl, rfl, ?_⟩
            refine ⟨_, rfl, _, rfl, a, _, 1, _, rfl, rfl, kp.sqT hq, atI_nat (j := 1) rfl, rfl, _, rfl, ite2 (fun e => ?_) (fun e => ?_)⟩
            · obtain rfl := dstr e
              have ea : asked n l f (.shape n ws) = (l, ws) := if_pos rfl
              rw [ea] at kk hz
              refine ⟨_, rfl, _, rfl, p, _, dx, _, rfl, upd_same, T.c_Frame, T.n_Frame_line_now, (by show 4 < 1000; decide), ?_⟩
              rw [frF_put, upd_upd]
              have kp2 : Keep [p] H (upd H p (.ins (CF K) dx (frF c l v s))) := Keep.ins hp (.inl (by simp)) (Keep.refl _ _)
              have hv2 : upd H p (.ins (CF K) dx (frF c l v s)) v = some (.lst xs) := by rw [upd_ne npv.symm]; exact hv
              refine ⟨_, rfl, p, _, dx, _, _, rfl, upd_same, T.c_Frame, T.n_Frame_values_here, frF_vals, .inl ⟨rfl, _, .of hv2⟩, _, rfl, a, _, 2, _, rfl, rfl, kp2.sqT hq, atI_nat (j := 2) rfl, v, b, xs, ys, rfl, rfl, hv2, kp2.sqT hb, ?_, ?_⟩
              · have := hys.length
                rw [encVs_map, List.length_map] at this
                rw [this]
                exact hz
              · refine kk ys _ hys ?_ ?_ upd_same (fun b o n1 n2 e => ?_)
                · exact Keep.lst hv2 (.inl (by simp)) (kp2.mono (by simp))
                · rw [upd_ne npv]
                  exact upd_same
                · rw [upd_ne n2, upd_ne n1]
                  exact e
            · exact .inr ⟨rfl, dstrn e, rfl⟩
          · exact absurd (show 1 < 1 from hi) (Nat.lt_irrefl _)
        · rcases hh with ⟨h, _⟩ | ⟨_, hn, rfl⟩
          · cases h
          · have ea : asked n l f (.shape n' ws) = (f, []) := if_neg hn
            refine kk [] _ ?_ ?_ ?_ ?_ ?_
            · rw [ea]; exact .nil
            · exact kp.mono (by simp)
            · rw [ea]; exact upd_same
            · rw [List.append_nil]; exact k1 v _ npv.symm hv
            · exact fun b o n _ e => k1 b o n e
end
end K46
/-! K46F2 -/
set_option maxHeartbeats 4000000
namespace K46
open PySem PySem.Spec PyProof.Rows L2 C8
/-! ### the machine: its fields, its frames -/
abbrev mF (cd fl : Addr) (tl : V) : List (Str × V) := [("codes", .ref cd), ("frames", .ref fl), ("told_last", tl)]
section
variable {cd fl : Addr} {tl y : V}
theorem mF_codes : (mF cd fl tl).lookup ("codes" : Str) = some (.ref cd) := by kernel_rfl
theorem mF_frames : (mF cd fl tl).lookup ("frames" : Str) = some (.ref fl) := by kernel_rfl
theorem mF_told : (mF cd fl tl).lookup ("told_last" : Str) = some tl := by kernel_rfl
theorem mF_put : putF "told_last" y (mF cd fl tl) = mF cd fl y := by kernel_rfl
theorem mF_mk : putF "told_last" tl (putF "frames" (.ref fl) (putF "codes" (.ref cd) [])) = mF cd fl tl := by kernel_rfl
theorem mF_no1 : (mF cd fl tl).lookup ("begin_frame" : Str) = none := by kernel_rfl
theorem mF_no2 : (mF cd fl tl).lookup ("enter" : Str) = none := by kernel_rfl
theorem mF_no3 : (mF cd fl tl).lookup ("row_done" : Str) = none := by kernel_rfl
theorem mF_no4 : (mF cd fl tl).lookup ("end_frame" : Str) = none := by kernel_rfl
end
abbrev CM (K : PySem.W.Frag) : Addr := He.ga K "Machine"
/-- a frame's places: the instance, its dict, its locals, its pile -/
structure FA where
  p : Addr
  dx : Addr
  v : Addr
  s : Addr
def FA.own (r : FA) : List Addr := [r.p, r.v, r.s]
def FrOk (K : PySem.W.Frag) (H : Hp) (r : FA) (f : Fr) : Prop := ∃ (c : Addr) (vs ss : List V), H r.p = some (.ins (CF K) r.dx (frF (.ref c) f.line r.v r.s)) ∧ At K H (.ref c) (encC f.code) ∧
  H r.v = some (.lst vs) ∧ AtL K H vs (encVs f.loc) ∧ H r.s = some (.lst ss) ∧ AtL K H ss (encVs f.pile)
inductive FrsOk (K : PySem.W.Frag) (H : Hp) : List FA → List Fr → Prop
  | nil : FrsOk K H [] []
  | cons {r f rs fs} : FrOk K H r f → FrsOk K H rs fs → FrsOk K H (r :: rs) (f :: fs)
def owns (rs : List FA) : List Addr := rs.flatMap FA.own
def CodesOk (K : PySem.W.Frag) (H : Hp) (cd : Addr) (bs : List Bk) : Prop := ∃ kvs : List (Key × V), H cd = some (.dK kvs) ∧ ∀ n c, codeIn bs n = some c → ∃ a, valV kvs (.inr n) = some (.ref a) ∧ At K H (.ref a) (encC c)
/-- the machine at mp, made behind the heap H0 -/
structure MSt (K : PySem.W.Frag) (H0 : Hp) (mp mdx cd fl : Addr) (bs : List Bk) (tl : V) (rs : List FA) (fs : List Fr) (H : Hp) : Prop where
  keep : Keep [] H0 H
  nd : (mp :: cd :: fl :: owns rs).Nodup
  new : ∀ a ∈ mp :: cd :: fl :: owns rs, H0 a = none
  at_ : H mp = some (.ins (CM K) mdx (mF cd fl tl))
  codes : CodesOk K H cd bs
  frames : H fl = some (.lst (rs.reverse.map fun r => .ref r.p))
  ok : FrsOk K H rs fs
section
variable {K : PySem.W.Frag} {H H1 H0 : Hp} {S : List Addr} {r : FA} {f : Fr} {rs : List FA} {fs : List Fr} {mp mdx cd fl : Addr} {bs : List Bk} {tl : V}
theorem FrOk.keep (k : Keep S H H1) (n : ∀ a ∈ r.own, a ∉ S) (h : FrOk K H r f) : FrOk K H1 r f := by
  obtain ⟨c, vs, ss, h1, h2, h3, h4, h5, h6⟩ := h
  exact ⟨c, vs, ss, k.at_ _ _ (n _ (by simp [FA.own])) h1, h2.keep k, k.at_ _ _ (n _ (by simp [FA.own])) h3, h4.keep k, k.at_ _ _ (n _ (by simp [FA.own])) h5, h6.keep k⟩
theorem FrsOk.keep (k : Keep S H H1) : ∀ {rs : List FA} {fs : List Fr}, (∀ a ∈ owns rs, a ∉ S) → FrsOk K H rs fs → FrsOk K H1 rs fs
  | _, _, _, .nil => .nil
  | _, _, n, .cons h t => .cons (h.keep k fun a m => n a (List.mem_flatMap.mpr ⟨_, List.mem_cons_self .., m⟩)) (FrsOk.keep k (fun a m => n a (by
      obtain ⟨r, h1, h2⟩ := List.mem_flatMap.mp m
      exact List.mem_flatMap.mpr ⟨r, List.mem_cons_of_mem _ h1, h2⟩)) t)
theorem FrsOk.length : ∀ {rs : List FA} {fs : List Fr}, FrsOk K H rs fs → rs.length = fs.length
  | _, _, .nil => rfl
  | _, _, .cons _ t => congrArg Nat.succ (FrsOk.length t)
theorem FrsOk.some : ∀ {rs : List FA} {fs : List Fr}, FrsOk K H rs fs → ∀ a ∈ owns rs, ∃ o, H a = some o
  | _, _, .nil, a, z => by simp [owns] at z
  | _, _, .cons (r := r) (rs := rs) h t, a, z => by
    obtain ⟨c, vs, ss, h1, h2, h3, h4, h5, h6⟩ := h
    have z' : a ∈ r.p :: r.v :: r.s :: owns rs := z
    simp only [List.mem_cons] at z'
    rcases z' with e | e | e | z
    · exact ⟨_, e ▸ h1⟩
    · exact ⟨_, e ▸ h3⟩
    · exact ⟨_, e ▸ h5⟩
    · exact FrsOk.some t a z
theorem CodesOk.keep (k : Keep S H H1) (n : cd ∉ S) (h : CodesOk K H cd bs) : CodesOk K H1 cd bs := by
  obtain ⟨kvs, h1, h2⟩ := h
  refine ⟨kvs, k.at_ _ _ n h1, fun m c e => ?_⟩
  obtain ⟨a, z1, z2⟩ := h2 m c e
  exact ⟨a, z1, z2.keep k⟩
theorem owns_cons : owns (r :: rs) = r.p :: r.v :: r.s :: owns rs := rfl
/-- nothing of the machine's own is touched -/
theorem MSt.idle (k : Keep [] H H1) (m : MSt K H0 mp mdx cd fl bs tl rs fs H) : MSt K H0 mp mdx cd fl bs tl rs fs H1 :=
  ⟨m.keep.trans k, m.nd, m.new, k.at_ _ _ (by simp) m.at_, m.codes.keep k (by simp), k.at_ _ _ (by simp) m.frames, m.ok.keep k (by simp)⟩
/-- the last frame's own lists, fields are changed -/
theorem MSt.top {r : FA} {f g : Fr} (m : MSt K H0 mp mdx cd fl bs tl (r :: rs) (f :: fs) H) (k : Keep r.own H H1) (h : FrOk K H1 r g) : MSt K H0 mp mdx cd fl bs tl (r :: rs) (g :: fs) H1 := by
  have nd := m.nd
  rw [owns_cons] at nd
  have h0 : ∀ a ∈ r.own, H0 a = none := fun a z => m.new a (by
    rw [owns_cons]
    have : a = r.p ∨ a = r.v ∨ a = r.s := by simpa [FA.own] using z
    rcases this with e | e | e <;> simp [e])
  simp only [List.nodup_cons, List.mem_cons, not_or] at nd
  obtain ⟨⟨a1, a2, a3, a4, a5, a6⟩, ⟨b1, b2, b3, b4, b5⟩, ⟨c1, c2, c3, c4⟩, ⟨d1, d2, d3⟩, ⟨e1, e2⟩, f1, f2⟩ := nd
  have ok2 := m.ok
  cases ok2 with
  | cons _ t =>
    refine ⟨k.call (fun b z => .inr (h0 b z)) m.keep, m.nd, m.new, k.at_ _ _ (by simp [FA.own, a3, a4, a5]) m.at_, m.codes.keep k (by simp [FA.own, b2, b3, b4]), k.at_ _ _ (by simp [FA.own, c1, c2, c3]) m.frames, .cons h (t.keep k fun a z => ?_)⟩
    have n1 : a ≠ r.p := fun e => d3 (e ▸ z)
    have n2 : a ≠ r.v := fun e => e2 (e ▸ z)
    have n3 : a ≠ r.s := fun e => f1 (e ▸ z)
    simp [FA.own, n1, n2, n3]
end
section
variable {P : Program} {w : World} {K : PySem.W.Frag} {mg : Str → Option Value} {base : Heap}
def sp_begin_frame (K : PySem.W.Frag) : Sp := fun vs H Q _ => ∃ (H0 : Hp) (mp mdx cd fl g : Addr) (bs : List Bk) (tl : V) (rs : List FA) (fs : List Fr) (n : Str) (c : List Ins) (xs : List V) (ws : List MV), vs = [.ref mp, .str n, .ref g] ∧ MSt K H0 mp mdx cd fl bs tl rs fs H ∧
  SqT K H g xs ∧ AtL K H xs (encVs ws) ∧ codeIn bs n = some c ∧ rs.length < sizeLine ∧ ∀ H' r, MSt K H0 mp mdx cd fl bs tl (r :: rs) (⟨c, 0, ws, []⟩ :: fs) H' → Q .non H'
theorem ok_begin_frame (T : Tx K mg) : Met P w K mg base 3 (CM K) "begin_frame" (sp_begin_frame K) [] := by
  refine met_mk T.f_Machine_begin_frame T.c_Machine T.m_Machine_begin_frame sc_Machine_begin_frame (fun _ _ _ _ _ _ us hl => match us, hl with | [_, _, _], _ => rfl) (fun vs H Q E h => ?_) (fun cdv A outer s0 H vs Q E hr h => ?_)
  · obtain ⟨H0, mp, mdx, cd, fl, g, bs, tl, rs, fs, n, c, xs, ws, rfl, _⟩ := h
    rfl
  · obtain ⟨H0, mp, mdx, cd, fl, g, bs, tl, rs, fs, n, c, xs, ws, rfl, m, hg, hxs, hc, hz, k⟩ := h
    have m_Frame := ok_Frame_init (P := P) (w := w) (base := base) T
    refine ⟨_, (pss_one (ps_expr (pe_bm PySem.F.plainAttrs_list PySem.F.slot_list_append PySem.F.type_list_append mt_append (pe_fld (pv 0) rfl) (pa_cons (pe_mk m_Frame hr (by omega) rfl (pa_cons (pe_dget (hu_of hr) (pe_fld (pv 0) rfl) (pv 1) (fun _ _ => rfl)) (pa_cons (pv 2) pa_nil))) pa_nil)))), ?_⟩
    obtain ⟨kvs, hcd, hcode⟩ := m.codes
    obtain ⟨ca, hca, hat⟩ := hcode n c hc
    refine ⟨_, rfl, mp, _, mdx, _, _, rfl, m.at_, T.c_Machine, T.n_Machine_frames, mF_frames, .inl ⟨rfl, _, .of m.frames⟩, ?_⟩
    refine ⟨_, rfl, mp, _, mdx, _, _, rfl, m.at_, T.c_Machine, T.n_Machine_codes, mF_codes, _, rfl, cd, _, rfl, hca ▸ DGet.k (k := Sum.inr n) hcd, _, rfl, fun x dx nx ndx nex => ?_⟩
    have k1 : Keep [] H (upd (upd H dx (.own x)) x (.ins (CF K) dx [])) := Keep.new (by rw [upd_ne nex.symm]; exact nx) (Keep.new ndx (Keep.refl _ _))
    refine ⟨x, dx, g, _, xs, rfl, upd_same, k1.sqT hg, fun v s H' nv ns nvs k2 hx hv hs => ⟨rfl, ?_⟩⟩
    have k3 : Keep [] H H' := k2.call (fun b z => .inr (by rw [List.mem_singleton.mp z]; exact nx)) k1
    have m3 := m.idle k3
    have hv0 : H v = none := new_old (new_old nv)
    have hs0 : H s = none := new_old (new_old ns)
    have hlen : (rs.reverse.map fun r => V.ref r.p).length = rs.length := by simp
    refine ⟨fl, _, _, rfl, rfl, m3.frames, by rw [hlen]; exact hz, k _ ⟨x, dx, v, s⟩ ?_⟩
    have k4 : Keep [fl] H' (upd H' fl (.lst (rs.reverse.map (fun r => V.ref r.p) ++ [.ref x]))) := Keep.lst m3.frames (.inl (by simp)) (Keep.refl _ _)
    have nd := m.nd
    have nxv : x ≠ v := fun e => by rw [← e, upd_same] at nv; cases nv
    have nxs : x ≠ s := fun e => by rw [← e, upd_same] at ns; cases ns
    have ne : ∀ a ∈ mp :: cd :: fl :: owns rs, a ≠ x ∧ a ≠ v ∧ a ≠ s := fun a z => by
      have : ∃ o, H a = some o := by
        rcases List.mem_cons.mp z with e | z
        · exact ⟨_, e ▸ m.at_⟩
        · rcases List.mem_cons.mp z with e | z
          · exact ⟨_, e ▸ hcd⟩
          · rcases List.mem_cons.mp z with e | z
            · exact ⟨_, e ▸ m.frames⟩
            · exact m.ok.some a z
      obtain ⟨o, e⟩ := this
      exact ⟨ne_of_none e nx, ne_of_none e hv0, ne_of_none e hs0⟩
    have nfl := ne fl (by simp)
    refine ⟨k4.call (fun b z => .inr (m.new b (by simp [List.mem_singleton.mp z]))) m3.keep, ?_, ?_, ?_, ?_, ?_, ?_⟩
    · rw [owns_cons]
      simp only [List.nodup_cons, List.mem_cons, not_or] at nd ⊢
      obtain ⟨⟨a1, a2, a3⟩, ⟨b1, b2⟩, c1, d1⟩ := nd
      have z1 := ne mp (by simp)
      have z2 := ne cd (by simp)
      refine ⟨⟨a1, a2, z1.1, z1.2.1, z1.2.2, a3⟩, ⟨b1, z2.1, z2.2.1, z2.2.2, b2⟩, ⟨nfl.1, nfl.2.1, nfl.2.2, c1⟩, ⟨nxv, nxs, fun z => (ne x (by simp [z])).1 rfl⟩, ⟨nvs, fun z => (ne v (by simp [z])).2.1 rfl⟩, fun z => (ne s (by simp [z])).2.2 rfl, d1⟩
    · intro a z
      rw [owns_cons] at z
      have : a ∈ mp :: cd :: fl :: owns rs ∨ a = x ∨ a = v ∨ a = s := by
        simp only [List.mem_cons] at z ⊢
        rcases z with z | z | z | z | z | z | z <;> simp [z]
      rcases this with z | rfl | rfl | rfl
      · exact m.new a z
      · exact m.keep.free nx
      · exact m.keep.free hv0
      · exact m.keep.free hs0
    · have : mp ≠ fl := ne_of m.at_ m.frames (by intro z; cases z)
      rw [upd_ne this]
      exact m3.at_
    · exact m3.codes.keep k4 (by have : cd ≠ fl := ne_of hcd m.frames (by intro z; cases z); simp [this])
    · rw [upd_same, List.reverse_cons, List.map_append]
      rfl
    · refine .cons ⟨ca, xs, [], ?_, ?_, ?_, ?_, ?_, .nil⟩ (m3.ok.keep k4 fun a z e => ?_)
      · rw [upd_ne nfl.1.symm]
        exact hx
      · exact (hat.keep k3).keep k4
      · rw [upd_ne nfl.2.1.symm]
        exact hv
      · exact (hxs.keep k3).keep k4
      · rw [upd_ne nfl.2.2.symm]
        exact hs
      · simp only [List.nodup_cons, List.mem_cons, not_or] at nd
        rw [List.mem_singleton.mp e] at z
        exact nd.2.2.1 z
end
end K46
/-! K46F3 -/
set_option maxHeartbeats 4000000
namespace K46
open PySem PySem.Spec PyProof.Rows L2 C8
section
variable {P : Program} {w : World} {K : PySem.W.Frag} {mg : Str → Option Value} {base : Heap}
theorem encVs_append (a b : List MV) : encVs (a ++ b) = encVs a ++ encVs b := by rw [encVs_map, encVs_map, encVs_map, List.map_append]
theorem encVs_length (a : List MV) : (encVs a).length = a.length := by rw [encVs_map, List.length_map]
theorem encVs_take (a : List MV) (n : Nat) : encVs (a.take n) = (encVs a).take n := by rw [encVs_map, encVs_map, List.map_take]
theorem encVs_drop (a : List MV) (n : Nat) : encVs (a.drop n) = (encVs a).drop n := by rw [encVs_map, encVs_map, List.map_drop]
def sp_enter (K : PySem.W.Frag) : Sp := fun vs H Q _ => ∃ (H0 : Hp) (mp mdx cd fl g : Addr) (bs : List Bk) (tl x : V) (rs : List FA) (fs : List Fr) (n : Str) (c : List Ins) (xs : List V) (ws us : List MV), vs = [.ref mp, x, .ref g] ∧ MSt K H0 mp mdx cd fl bs tl rs fs H ∧
  At K H x (encV (.clo n us)) ∧ SqT K H g xs ∧ AtL K H xs (encVs ws) ∧ codeIn bs n = some c ∧ rs.length < sizeLine ∧ us.length + ws.length ≤ sizeLine ∧ ∀ H' r, MSt K H0 mp mdx cd fl bs tl (r :: rs) (⟨c, 0, us ++ ws, []⟩ :: fs) H' → Q .non H'
theorem ok_enter (T : Tx K mg) : Met P w K mg base 4 (CM K) "enter" (sp_enter K) [] := by
  refine met_mk T.f_Machine_enter T.c_Machine T.m_Machine_enter sc_Machine_enter (fun _ _ _ _ _ _ us hl => match us, hl with | [_, _, _], _ => rfl) (fun vs H Q E h => ?_) (fun cdv A outer s0 H vs Q E hr h => ?_)
  · obtain ⟨H0, mp, mdx, cd, fl, g, bs, tl, x, rs, fs, n, c, xs, ws, us, rfl, _⟩ := h
    rfl
  · obtain ⟨H0, mp, mdx, cd, fl, g, bs, tl, x, rs, fs, n, c, xs, ws, us, rfl, m, hx, hg, hxs, hc, hz, hlen, k⟩ := h
    have c_Machine_begin_frame := ok_begin_frame (P := P) (w := w) (base := base) T
    refine ⟨_, (pss_cons (ps_asg (pv 1) (pg_tup rfl (pgs_cons (pg_name (i := 3) sc_Machine_enter.nd rfl (Or.inl rfl)) (pgs_cons (pg_name (i := 4) sc_Machine_enter.nd rfl (Or.inl rfl)) (pgs_cons (pg_name (i := 5) sc_Machine_enter.nd rfl (Or.inl rfl)) pgs_nil)))))
      (pss_one (ps_expr (pe_mt c_Machine_begin_frame hr (by omega) (pv 0) (pa_cons (pv 4) (pa_cons (pe_op op_catA (pv 5) (pv 2)) pa_nil)))))), ?_⟩
    obtain ⟨a, y1, y2, y3, rfl, hq, h1, h2, h3⟩ := hx.t3
    obtain rfl := h1.s
    obtain rfl := h2.s
    obtain ⟨b, ys, rfl, hb, hys⟩ := h3.t
    refine ⟨_, rfl, a, _, rfl, hq, rfl, _, _, rfl, _, _, rfl, _, _, rfl, rfl, ?_⟩
    have fin : ∀ (H2 : Hp) (g2 : Addr), Keep [] H H2 → SqT K H2 g2 (ys ++ xs) → sp_begin_frame K [.ref mp, .str n, .ref g2] H2 (fun _ H' => Q .non H') C8.E0 := fun H2 g2 k2 q2 =>
      ⟨H0, mp, mdx, cd, fl, g2, bs, tl, rs, fs, n, c, _, us ++ ws, rfl, m.idle k2, q2, by rw [encVs_append]; exact (hys.keep k2).append (hxs.keep k2), hc, hz, fun H' r m' => k H' r m'⟩
    have l1 := hys.length
    have l2 := hxs.length
    rw [encVs_length] at l1 l2
    refine ⟨_, rfl, mp, _, _, rfl, m.at_, mF_no1, _, rfl, _, rfl, _, rfl, b, g, ys, xs, rfl, rfl, hb, hg, by omega, fun e => ?_, fun _ e => ?_, fun _ _ p np => ?_⟩
    · exact fin H g (Keep.refl _ _) (by rw [e]; exact hg)
    · exact fin H b (Keep.refl _ _) (by rw [e, List.append_nil]; exact hb)
    · exact fin _ p (Keep.new np (Keep.refl _ _)) (.of upd_same)
theorem last_at {K : PySem.W.Frag} {H : Hp} {ss : List V} {ps : List MV} {v : MV} (h : AtL K H ss (encVs ps)) (e : ps.getLast? = some v) : ∃ s0 x, ss = s0 ++ [x] ∧ At K H x (encV v) := by
  have e2 : ps = ps.dropLast ++ [v] := by
    have hne : ps ≠ [] := fun z => by rw [z] at e; cases e
    rw [List.getLast?_eq_some_getLast hne] at e
    cases e
    exact (List.dropLast_concat_getLast hne).symm
  rw [e2, encVs_append] at h
  obtain ⟨s0, y, e3, _, h2⟩ := h.split
  cases h2 with
  | cons h3 h4 => cases h4; exact ⟨s0, _, e3, h3⟩
def told (v : MV) : List Fr → List Fr
  | [] => []
  | g :: rest => { g with pile := g.pile ++ [v] } :: rest
def sp_end_frame (K : PySem.W.Frag) : Sp := fun vs H Q _ => ∃ (H0 : Hp) (mp mdx cd fl : Addr) (bs : List Bk) (tl : V) (r : FA) (rs : List FA) (f : Fr) (fs : List Fr) (v : MV), vs = [.ref mp] ∧ MSt K H0 mp mdx cd fl bs tl (r :: rs) (f :: fs) H ∧
  f.pile.getLast? = some v ∧ (∀ g ∈ told v fs, g.pile.length ≤ sizeLine) ∧ ∀ H' x, At K H' x (encV v) → MSt K H0 mp mdx cd fl bs x rs (told v fs) H' → Q .non H'
theorem ok_end_frame (T : Tx K mg) : Met P w K mg base 1 (CM K) "end_frame" (sp_end_frame K) [] := by
  refine met_mk T.f_Machine_end_frame T.c_Machine T.m_Machine_end_frame sc_Machine_end_frame (fun _ _ _ _ _ _ us hl => match us, hl with | [_], _ => rfl) (fun vs H Q E h => ?_) (fun cdv A outer s0 H vs Q E hr h => ?_)
  · obtain ⟨H0, mp, mdx, cd, fl, bs, tl, r, rs, f, fs, v, rfl, _⟩ := h
    rfl
  · obtain ⟨H0, mp, mdx, cd, fl, bs, tl, r, rs, f, fs, v, rfl, m, hv, hz, k⟩ := h
    refine ⟨_, (pss_cons (ps_set (i := 1) sc_Machine_end_frame.nd rfl (Or.inl rfl) (pe_bm0 PySem.F.plainAttrs_list PySem.F.slot_list_pop PySem.F.type_list_pop mt_pop (pe_fld (pv 0) rfl)))
      (pss_cons (ps_fld (pv 0) (pe_ix ix_list (pe_fld (pv 1) rfl) (pe_un un_neg pe_int) (fun _ _ => rfl)) rfl)
      (pss_one (ps_if (pt_cmpR (op_ne0 hr.units0) (pe_fld (pv 0) rfl) (pe_lst pa_nil) (nomark _)) (pss_one (ps_expr (pe_bm PySem.F.plainAttrs_list PySem.F.slot_list_append PySem.F.type_list_append mt_append (pe_fld (pe_ix ix_list (pe_fld (pv 0) rfl) (pe_un un_neg pe_int) (fun _ _ => rfl)) rfl) (pa_cons (pe_fld (pv 0) rfl) pa_nil)))) pss_nil)))), ?_⟩
    have nd := m.nd
    have ok := m.ok
    cases ok with
    | cons hf ht =>
    obtain ⟨c, vs, ss, h1, h2, h3, h4, h5, h6⟩ := hf
    obtain ⟨s0, x, es, hx⟩ := last_at h6 hv
    have e1 : ((r :: rs).reverse.map fun r : FA => V.ref r.p) = (rs.reverse.map fun r : FA => V.ref r.p) ++ [V.ref r.p] := by rw [List.reverse_cons, List.map_append]; rfl
    have hfl := m.frames
    rw [e1] at hfl
    refine ⟨_, rfl, mp, _, mdx, _, _, rfl, m.at_, T.c_Machine, T.n_Machine_frames, mF_frames, .inl ⟨rfl, _, .of hfl⟩, fl, _, V.ref r.p, rfl, rfl, hfl, by simp, ?_⟩
    rw [List.dropLast_concat]
    have k1 : Keep [fl] H (upd H fl (.lst (rs.reverse.map fun r : FA => V.ref r.p))) := Keep.lst hfl (.inl (by simp)) (Keep.refl _ _)
    have npf : r.p ≠ fl := ne_of h1 hfl (by intro z; cases z)
    have nmf : mp ≠ fl := ne_of m.at_ hfl (by intro z; cases z)
    rw [owns_cons] at nd
    simp only [List.nodup_cons, List.mem_cons, not_or] at nd
    obtain ⟨⟨a1, a2, a3, a4, a5, a6⟩, ⟨b1, b2, b3, b4, b5⟩, ⟨c1, c2, c3, c4⟩, ⟨d1, d2, d3⟩, ⟨e1, e2⟩, f1, f2⟩ := nd
    refine ⟨_, rfl, r.p, _, r.dx, _, _, rfl, k1.at_ _ _ (by simp [npf]) h1, T.c_Frame, T.n_Frame_pile, frF_pile, 1, rfl, r.s, ss, -1, x, rfl, rfl, .of (k1.at_ _ _ (by simp; exact Ne.symm c3) h5), by rw [es]; exact atI_last _ _, ?_⟩
    refine ⟨_, rfl, mp, _, mdx, _, rfl, k1.at_ _ _ (by simp [nmf]) m.at_, T.c_Machine, T.n_Machine_told_last, (by show 3 < 1000; decide), ?_⟩
    rw [mF_put]
    have hm1 : upd H fl (.lst (rs.reverse.map fun r : FA => V.ref r.p)) mp = some (.ins (CM K) mdx (mF cd fl tl)) := k1.at_ _ _ (by simp [nmf]) m.at_
    have k2 : Keep [fl, mp] H (upd (upd H fl (.lst (rs.reverse.map fun r : FA => V.ref r.p))) mp (.ins (CM K) mdx (mF cd fl x))) := Keep.ins hm1 (.inl (by simp)) (k1.mono (by simp))
    have m2 : MSt K H0 mp mdx cd fl bs x rs fs (upd (upd H fl (.lst (rs.reverse.map fun r : FA => V.ref r.p))) mp (.ins (CM K) mdx (mF cd fl x))) := by
      refine ⟨k2.call (fun b z => .inr (m.new b (by simp at z; rcases z with z | z <;> simp [z]))) m.keep, ?_, fun a z => m.new a ?_, upd_same, m.codes.keep k2 (by simp; exact ⟨b1, Ne.symm a1⟩), by rw [upd_ne (Ne.symm nmf)]; exact upd_same, ht.keep k2 fun a z e => ?_⟩
      · simp only [List.nodup_cons, List.mem_cons, not_or]
        exact ⟨⟨a1, a2, a6⟩, ⟨b1, b5⟩, c4, f2⟩
      · rw [owns_cons]
        simp only [List.mem_cons] at z ⊢
        rcases z with z | z | z | z <;> simp [z]
      · simp at e
        rcases e with e | e
        · exact c4 (e ▸ z)
        · exact a6 (e ▸ z)
    refine ⟨_, rfl, mp, _, mdx, _, _, rfl, upd_same, T.c_Machine, T.n_Machine_frames, mF_frames, by decide, fun q nq => ?_⟩
    have k3 := Keep.new (o := .lst []) nq (Keep.refl [] _)
    have m3 := m2.idle k3
    refine ⟨fl, q, _, rfl, rfl, .inl ⟨.of m3.frames, .of upd_same⟩, _, rfl, ?_⟩
    cases fs with
    | nil =>
      have hrs : rs = [] := List.eq_nil_of_length_eq_zero ht.length
      subst hrs
      refine iff' rfl ?_
      exact k _ x ((hx.keep k2).keep k3) m3
    | cons g rest =>
      cases ht with
      | cons hg2 ht2 =>
      rename_i r2 rs2
      refine ift (by simp) ?_
      have ok3 := m3.ok
      cases ok3 with
      | cons hg3 ht3 =>
      obtain ⟨c', vs', ss', g1, g2, g3, g4, g5, g6⟩ := hg3
      have hfl3 := m3.frames.trans (show _ = some (HO.lst ((rs2.reverse.map fun r : FA => V.ref r.p) ++ [V.ref r2.p])) by rw [List.reverse_cons, List.map_append]; rfl)
      refine ⟨_, rfl, mp, _, mdx, _, _, rfl, m3.at_, T.c_Machine, T.n_Machine_frames, mF_frames, 1, rfl, fl, _, -1, V.ref r2.p, rfl, rfl, .of hfl3, atI_last _ _, r2.p, _, r2.dx, _, _, rfl, g1, T.c_Frame, T.n_Frame_pile, frF_pile, .inl ⟨rfl, _, .of g5⟩, ?_⟩
      refine ⟨_, rfl, mp, _, mdx, _, _, rfl, m3.at_, T.c_Machine, T.n_Machine_told_last, mF_told, r2.s, ss', x, rfl, rfl, g5, ?_, ?_⟩
      · have := hz _ (List.mem_cons_self ..)
        have l := g6.length
        rw [encVs_length] at l
        simp only [List.length_append, List.length_singleton] at this
        omega
      · have k4 : Keep r2.own _ _ := Keep.lst (ys := ss' ++ [x]) g5 (.inl (by simp [FA.own])) (Keep.refl r2.own _)
        have hx4 := ((hx.keep k2).keep k3).keep k4
        refine k _ x hx4 (m3.top k4 ⟨c', vs', _, ?_, g2.keep k4, ?_, g4.keep k4, upd_same, ?_⟩)
        · rw [upd_ne (ne_of g1 g5 (by intro z; cases z))]
          exact g1
        · have nd3 := m3.nd
          rw [owns_cons] at nd3
          simp only [List.nodup_cons, List.mem_cons, not_or] at nd3
          rw [upd_ne nd3.2.2.2.2.1.1]
          exact g3
        · show AtL K _ (ss' ++ [x]) (encVs (g.pile ++ [v]))
          rw [encVs_append]
          exact (g6.keep k4).append (.cons hx4 .nil)
end
end K46
/-! K46F4 -/
set_option maxHeartbeats 4000000
namespace K46
open PySem PySem.Spec PyProof.Rows L2 C8
section
variable {K : PySem.W.Frag} {H H1 H0 : Hp} {r : FA} {f : Fr} {rs : List FA} {fs : List Fr} {mp mdx cd fl : Addr} {bs : List Bk} {tl : V}
theorem MSt.head (m : MSt K H0 mp mdx cd fl bs tl (r :: rs) (f :: fs) H) : FrOk K H r f := by
  have h := m.ok
  cases h with
  | cons h _ => exact h
theorem MSt.apart (m : MSt K H0 mp mdx cd fl bs tl (r :: rs) (f :: fs) H) : r.p ≠ r.v ∧ r.p ≠ r.s ∧ r.v ≠ r.s := by
  have nd := m.nd
  rw [owns_cons] at nd
  simp only [List.nodup_cons, List.mem_cons, not_or] at nd
  exact ⟨nd.2.2.2.1.1, nd.2.2.2.1.2.1, nd.2.2.2.2.1.1⟩
theorem MSt.pile {ss' : List V} {ps : List MV} (m : MSt K H0 mp mdx cd fl bs tl (r :: rs) (f :: fs) H) (k : Keep [r.s] H H1) (e : H1 r.s = some (.lst ss')) (hp : AtL K H1 ss' (encVs ps)) : MSt K H0 mp mdx cd fl bs tl (r :: rs) ({ f with pile := ps } :: fs) H1 := by
  obtain ⟨c, vs, ss, h1, h2, h3, h4, h5, h6⟩ := m.head
  obtain ⟨a1, a2, a3⟩ := m.apart
  exact m.top (k.mono (by simp [FA.own])) ⟨c, vs, ss', k.at_ _ _ (by simp [a2]) h1, h2.keep k, k.at_ _ _ (by simp [a3]) h3, h4.keep k, e, hp⟩
theorem MSt.push {ss : List V} {x : V} {v : MV} (m : MSt K H0 mp mdx cd fl bs tl (r :: rs) (f :: fs) H) (h5 : H r.s = some (.lst ss)) (h6 : AtL K H ss (encVs f.pile)) (hx : At K H x (encV v)) :
    MSt K H0 mp mdx cd fl bs tl (r :: rs) ({ f with pile := f.pile ++ [v] } :: fs) (upd H r.s (.lst (ss ++ [x]))) := by
  have k : Keep [r.s] H (upd H r.s (.lst (ss ++ [x]))) := Keep.lst h5 (.inl (by simp)) (Keep.refl _ _)
  refine m.pile k upd_same ?_
  rw [encVs_append]
  exact (h6.keep k).append (.cons (hx.keep k) .nil)
theorem MSt.asks {l : Nat} {xs ys : List V} {c : Addr} {ws : List MV} (m : MSt K H0 mp mdx cd fl bs tl (r :: rs) (f :: fs) H) (hc : At K H (.ref c) (encC f.code)) (hx : AtL K H xs (encVs f.loc)) (k : Keep [r.p, r.v] H H1)
    (h1 : H1 r.p = some (.ins (CF K) r.dx (frF (.ref c) l r.v r.s))) (h3 : H1 r.v = some (.lst (xs ++ ys))) (hy : AtL K H ys (encVs ws)) :
    MSt K H0 mp mdx cd fl bs tl (r :: rs) ({ f with line := l, loc := f.loc ++ ws } :: fs) H1 := by
  obtain ⟨c', vs, ss, _, _, _, _, h5, h6⟩ := m.head
  obtain ⟨a1, a2, a3⟩ := m.apart
  refine m.top (k.mono (by simp [FA.own])) ⟨c, _, ss, h1, hc.keep k, h3, ?_, k.at_ _ _ (by simp; exact ⟨Ne.symm a2, Ne.symm a3⟩) h5, h6.keep k⟩
  rw [encVs_append]
  exact (hx.keep k).append (hy.keep k)
end
section
variable {P : Program} {w : World} {K : PySem.W.Frag} {mg : Str → Option Value} {base : Heap}
def sp_row_done (K : PySem.W.Frag) : Sp := fun vs H Q _ => ∃ (H0 : Hp) (mp mdx cd fl : Addr) (bs : List Bk) (tl row : V) (r : FA) (rs : List FA) (f : Fr) (fs gs : List Fr) (i : Ins) (o : Option MV), vs = [.ref mp, row] ∧ MSt K H0 mp mdx cd fl bs tl (r :: rs) (f :: fs) H ∧
  At K H row (encI i) ∧ mrow bs i (f :: fs) = some (gs, o) ∧ Small gs ∧ ∀ H' tl' rs', MSt K H0 mp mdx cd fl bs tl' rs' gs H' → (∀ v, o = some v → At K H' tl' (encV v)) → Q .non H'
theorem ok_row_done (T : Tx K mg) : Met P w K mg base 5 (CM K) "row_done" (sp_row_done K) [] := by
  refine met_mk T.f_Machine_row_done T.c_Machine T.m_Machine_row_done sc_Machine_row_done (fun _ _ _ _ _ _ us hl => match us, hl with | [_, _], _ => rfl) (fun vs H Q E h => ?_) (fun cdv A outer s0 H vs Q E hr h => ?_)
  · obtain ⟨H0, mp, mdx, cd, fl, bs, tl, row, r, rs, f, fs, gs, i, o, rfl, _⟩ := h
    rfl
  · obtain ⟨H0, mp, mdx, cd, fl, bs, tl, row, r, rs, f, fs, gs, i, o, rfl, m0, hrow0, hm, hz, k⟩ := h
    have c_Frame_ask := ok_ask (P := P) (w := w) (base := base) T
    have c_Frame_take_off := ok_take_off (P := P) (w := w) (base := base) T
    have c_Machine_begin_frame := ok_begin_frame (P := P) (w := w) (base := base) T
    have c_Machine_enter := ok_enter (P := P) (w := w) (base := base) T
    have c_Machine_end_frame := ok_end_frame (P := P) (w := w) (base := base) T
    obtain ⟨tSHm, kSHm⟩ := T.k_SHAPE_machine
    refine ⟨_, (pss_cons (ps_set (i := 2) sc_Machine_row_done.nd rfl (Or.inl rfl) (pe_ix ix_list (pe_fld (pv 0) rfl) (pe_un un_neg pe_int) (fun _ _ => rfl)))
      (pss_cons (ps_asg (pv 1) (pg_tupS (n := 2) (i := 1) rfl (pgs_cons (pg_name (i := 3) sc_Machine_row_done.nd rfl (Or.inl rfl)) (pgs_star (pg_name (i := 4) sc_Machine_row_done.nd rfl (Or.inl rfl)) pgs_nil))))
      (pss_one (ps_if (pt_cmpR op_eq (pv 3) pe_str (nomark _)) (pss_one (ps_expr (pe_bm PySem.F.plainAttrs_list PySem.F.slot_list_append PySem.F.type_list_append mt_append (pe_fld (pv 2) rfl) (pa_cons (pe_ix ix_list (pe_fld (pv 2) rfl) (pe_ix ix_list (pv 4) pe_int (fun _ _ => rfl)) (fun _ _ => rfl)) pa_nil)))) (pss_one (ps_if (pt_cmpR op_eq (pv 3) pe_str (nomark _)) (pss_one (ps_expr (pe_mt c_Frame_ask hr (by omega) (pv 2) (pa_cons (pe_ix ix_list (pv 4) pe_int (fun _ _ => rfl)) (pa_cons (pe_ix ix_list (pv 4) pe_int (fun _ _ => rfl)) (pa_cons (pe_ix ix_list (pv 4) pe_int (fun _ _ => rfl)) pa_nil)))))) (pss_one (ps_if (pt_cmpR op_eq (pv 3) pe_str (nomark _)) (pss_one (ps_expr (pe_bm PySem.F.plainAttrs_list PySem.F.slot_list_append PySem.F.type_list_append mt_append (pe_fld (pv 2) rfl) (pa_cons (pv 1) pa_nil)))) (pss_one (ps_if (pt_cmpR op_in_seq (pv 3) (pe_tup (pa_cons (pe_glob (v := .str "shape") rfl kSHm ⟨_, rfl⟩) (pa_cons pe_str pa_nil))) (by rfl)) (pss_one (ps_expr (pe_bm PySem.F.plainAttrs_list PySem.F.slot_list_append PySem.F.type_list_append mt_append (pe_fld (pv 2) rfl) (pa_cons (pe_tup (pa_cons (pv 3) (pa_cons (pe_ix ix_list (pv 4) pe_int (fun _ _ => rfl)) (pa_cons (pe_mt c_Frame_take_off hr (by omega) (pv 2) (pa_cons (pe_ix ix_list (pv 4) pe_int (fun _ _ => rfl)) pa_nil)) pa_nil)))) pa_nil)))) (pss_one (ps_if (pt_cmpR op_eq (pv 3) pe_str (nomark _)) (pss_one (ps_expr (pe_mt c_Machine_begin_frame hr (by omega) (pv 0) (pa_cons (pe_ix ix_list (pv 4) pe_int (fun _ _ => rfl)) (pa_cons (pe_mt c_Frame_take_off hr (by omega) (pv 2) (pa_cons (pe_ix ix_list (pv 4) pe_int (fun _ _ => rfl)) pa_nil)) pa_nil))))) (pss_one (ps_if (pt_cmpR op_eq (pv 3) pe_str (nomark _)) (pss_one (ps_expr (pe_mt0 c_Machine_end_frame hr (by omega) (pv 0)))) (pss_cons (ps_asg (pe_mt c_Frame_take_off hr (by omega) (pv 2) (pa_cons (pe_op op_add pe_int (pe_callTy call_int1 (by rfl) T.z_int (by decide +kernel) (pa_cons (pe_cmpR op_eq (pv 3) pe_str (nomark _)) pa_nil))) pa_nil)) (pg_tupS (n := 2) (i := 1) rfl (pgs_cons (pg_name (i := 5) sc_Machine_row_done.nd rfl (Or.inl rfl)) (pgs_star (pg_name (i := 6) sc_Machine_row_done.nd rfl (Or.inl rfl)) pgs_nil))))
      (pss_one (ps_expr (pe_mt c_Machine_enter hr (by omega) (pv 0) (pa_cons (pv 5) (pa_cons (pe_callTy call_tuple_of (by rfl) T.z_tuple (by decide +kernel) (pa_cons (pv 6) pa_nil)) pa_nil)))))))))))))))))))), ?_⟩
    have hfl := m0.frames.trans (show _ = some (HO.lst ((rs.reverse.map fun r : FA => V.ref r.p) ++ [V.ref r.p])) by rw [List.reverse_cons, List.map_append]; rfl)
    refine ⟨_, rfl, mp, _, mdx, _, _, rfl, m0.at_, T.c_Machine, T.n_Machine_frames, mF_frames, 1, rfl, fl, _, -1, V.ref r.p, rfl, rfl, .of hfl, atI_last _ _, ?_⟩
    -- the row taken apart
    have cut : ∃ (a : Addr) (w0 : Str) (xs : List V) (ds : List D), row = .ref a ∧ SqT K H a (.str w0 :: xs) ∧ encI i = .tup (.str w0 :: ds) ∧ AtL K H xs ds ∧ xs.length ≤ 3 := by
      obtain ⟨w0, ds, e, hl⟩ : ∃ w0 ds, encI i = .tup (.str w0 :: ds) ∧ ds.length ≤ 3 := by
        cases i with
        | loc k => exact ⟨_, _, rfl, by simp⟩
        | ask k n l f => exact ⟨_, _, rfl, by simp⟩
        | close n m => exact ⟨_, _, rfl, by simp⟩
        | tell => exact ⟨_, _, rfl, by simp⟩
        | own kd m => cases kd <;> exact ⟨_, _, rfl, by simp⟩
      rw [e] at hrow0
      obtain ⟨a, ys, rfl, hq, hy⟩ := hrow0.t
      cases hy with
      | cons h1 h2 =>
        obtain rfl := h1.s
        exact ⟨a, w0, _, ds, rfl, hq, e, h2, by rw [h2.length]; exact hl⟩
    obtain ⟨a, w0, xs, ds, rfl, hq, ei, hxs, hlen⟩ := cut
    refine ⟨_, rfl, a, _, rfl, hq, by simp, by simp; omega, fun D nD => ?_⟩
    have e1 : (V.str w0 :: xs).take 1 ++ [V.ref D] ++ ((V.str w0 :: xs).drop 1).drop ((V.str w0 :: xs).length + 1 - 2) = [V.str w0, V.ref D] := by simp
    have eD : ((V.str w0 :: xs).drop 1).take ((V.str w0 :: xs).length + 1 - 2) = xs := by simp
    rw [e1, eD]
    refine ⟨_, _, rfl, _, _, rfl, rfl, ?_⟩
    have kD : Keep [] H (upd H D (.lst xs)) := Keep.new nD (Keep.refl _ _)
    have hD : upd H D (.lst xs) D = some (.lst xs) := upd_same
    have m := m0.idle kD
    have hrow := hrow0.keep kD
    replace hxs := hxs.keep kD
    generalize upd H D (.lst xs) = H1 at kD hD m hrow hxs
    obtain ⟨c, vs, ss, h1, h2, h3, h4, h5, h6⟩ := m.head
    have sz1 : ∀ {ps : List MV}, AtL K H1 ss (encVs ps) → ss.length = ps.length := fun h => by
      have := h.length
      rw [encVs_length] at this
      exact this
    cases i with
    | loc j =>
      cases ei
      cases hxs with
      | cons x1 x2 =>
      cases x2
      obtain rfl := x1.i
      obtain ⟨v, ev, eg⟩ := Option.map_eq_some_iff.mp (show f.loc[j]?.map _ = _ from hm)
      cases eg
      obtain ⟨x, ex, hx⟩ := h4.get (i := j) (d := encV v) (by rw [encVs_map, List.getElem?_map, ev]; rfl)
      refine ⟨_, rfl, rfl, _, rfl, ift (by decide +kernel) ?_⟩
      have hsz := (hz.2 _ (List.mem_cons_self ..)).1
      simp only [List.length_append, List.length_singleton] at hsz
      have hl6 := sz1 h6
      refine ⟨_, rfl, r.p, _, r.dx, _, _, rfl, h1, T.c_Frame, T.n_Frame_pile, frF_pile, .inl ⟨rfl, _, .of h5⟩, _, rfl, r.p, _, r.dx, _, _, rfl, h1, T.c_Frame, T.n_Frame_values_here, frF_vals, _, rfl, D, _, 0, _, rfl, rfl, .of hD, atI_nat (j := 0) rfl, r.v, vs, j, x, rfl, rfl, .of h3, atI_nat ex, r.s, ss, x, rfl, rfl, h5, by omega, ?_⟩
      exact k _ tl _ (m.push h5 h6 hx) (fun v e => by cases e)
    | ask j n l fu =>
      cases ei
      cases hxs with
      | cons x1 x2 =>
      cases x2 with
      | cons x2 x3 =>
      cases x3 with
      | cons x3 x4 =>
      cases x4
      obtain rfl := x1.i
      obtain rfl := x3.i
      obtain ⟨ch, cs, rfl, _⟩ := id x2.t
      obtain ⟨v, ev, eg⟩ := Option.map_eq_some_iff.mp (show f.loc[j]?.map _ = _ from hm)
      obtain ⟨x, ex, hx⟩ := h4.get (i := j) (d := encV v) (by rw [encVs_map, List.getElem?_map, ev]; rfl)
      have eg2 : gs = { f with line := (asked n l fu v).1, loc := f.loc ++ (asked n l fu v).2 } :: fs ∧ o = none := by
        cases v with
        | dull =>
          cases eg
          exact ⟨by show _ = { f with line := fu, loc := f.loc ++ [] } :: fs; rw [List.append_nil], rfl⟩
        | clo n' us =>
          cases eg
          exact ⟨by show _ = { f with line := fu, loc := f.loc ++ [] } :: fs; rw [List.append_nil], rfl⟩
        | shape n' us =>
          by_cases en : n = n'
          · have e3 : asked n l fu (.shape n' us) = (l, us) := if_pos en
            rw [e3]
            have e4 : (if n = n' then (({ f with line := l, loc := f.loc ++ us } : Fr) :: fs, (none : Option MV)) else ({ f with line := fu } :: fs, none)) = (gs, o) := eg
            rw [if_pos en] at e4
            cases e4
            exact ⟨rfl, rfl⟩
          · have e3 : asked n l fu (.shape n' us) = (fu, []) := if_neg en
            rw [e3]
            have e4 : (if n = n' then (({ f with line := l, loc := f.loc ++ us } : Fr) :: fs, (none : Option MV)) else ({ f with line := fu } :: fs, none)) = (gs, o) := eg
            rw [if_neg en] at e4
            cases e4
            exact ⟨by show _ = { f with line := fu, loc := f.loc ++ [] } :: fs; rw [List.append_nil], rfl⟩
      obtain ⟨rfl, rfl⟩ := eg2
      refine ⟨_, rfl, rfl, _, rfl, iff' (by decide +kernel) ?_⟩
      refine ⟨_, rfl, rfl, _, rfl, ift (by decide +kernel) ?_⟩
      have hsz := (hz.2 _ (List.mem_cons_self ..)).2
      simp only [List.length_append] at hsz
      have hl4 := h4.length
      rw [encVs_length] at hl4
      refine ⟨_, rfl, r.p, r.dx, _, rfl, h1, frF_no3, _, rfl, D, _, 0, _, rfl, rfl, .of hD, atI_nat (j := 0) rfl, _, rfl, D, _, 1, _, rfl, rfl, .of hD, atI_nat (j := 1) rfl, _, rfl, D, _, 2, _, rfl, rfl, .of hD, atI_nat (j := 2) rfl, r.p, r.dx, r.v, r.s, ch, .ref c, f.line, j, l, fu, n, vs, x, v, rfl, h1, h3, ex, hx, x2, by omega, fun ys H2 hys k2 e1 e2 _ => ?_⟩
      exact k _ tl _ (m.asks h2 h4 k2 e1 e2 hys) (fun v e => by cases e)
    | close nn mm =>
      cases ei
      cases hxs with
      | cons x1 x2 =>
      cases x2 with
      | cons x2 x3 =>
      cases x3
      obtain rfl := x1.s
      obtain rfl := x2.i
      have hm2 : (if mm ≤ f.pile.length then some ((({ f with pile := f.pile.take (f.pile.length - mm) ++ [MV.clo nn (f.pile.drop (f.pile.length - mm))] } : Fr) :: fs), (none : Option MV)) else none) = some (gs, o) := hm
      by_cases hle : mm ≤ f.pile.length
      · rw [if_pos hle] at hm2
        cases hm2
        refine ⟨_, rfl, rfl, _, rfl, iff' (by decide +kernel) ?_⟩
        refine ⟨_, rfl, rfl, _, rfl, iff' (by decide +kernel) ?_⟩
        refine ⟨_, rfl, rfl, _, rfl, iff' (by decide +kernel) ?_⟩
        refine ⟨_, rfl, by decide, fun t0 nt0 => ⟨t0, _, rfl, .inr (.of upd_same), rfl, rfl, _, rfl, ift (by decide +kernel) ?_⟩⟩
        have k5 : Keep [] H1 (upd H1 t0 (.tup [.str "shape", .str "close"])) := Keep.new nt0 (Keep.refl _ _)
        replace m := m.idle k5
        replace hrow := hrow.keep k5
        replace hD := k5.at_ _ _ (by simp) hD
        replace h1 := k5.at_ _ _ (by simp) h1
        replace h2 := h2.keep k5
        replace h3 := k5.at_ _ _ (by simp) h3
        replace h4 := h4.keep k5
        replace h5 := k5.at_ _ _ (by simp) h5
        replace h6 := h6.keep k5
        generalize upd H1 t0 (.tup [.str "shape", .str "close"]) = H2 at k5 m hrow hD h1 h2 h3 h4 h5 h6 ⊢
        have hl6 := h6.length
        rw [encVs_length] at hl6
        refine ⟨_, rfl, r.p, _, r.dx, _, _, rfl, h1, T.c_Frame, T.n_Frame_pile, frF_pile, .inl ⟨rfl, _, .of h5⟩, _, rfl, _, rfl, D, _, 0, _, rfl, rfl, .of hD, atI_nat (j := 0) rfl, _, rfl, r.p, r.dx, _, rfl, h1, frF_no2, _, rfl, D, _, 1, _, rfl, rfl, .of hD, atI_nat (j := 1) rfl, r.p, r.dx, r.v, r.s, .ref c, f.line, mm, ss, rfl, h1, h5, by rw [hl6]; exact hle, fun t H3 nt k3 e1 e2 => ?_⟩
        have m3 := m.pile (ps := f.pile.take (f.pile.length - mm)) k3 e1 (by rw [encVs_take, hl6]; exact (h6.keep k3).take _)
        refine ⟨by show 3 ≤ sizeLine; decide, fun q nq => ?_⟩
        have k4 : Keep [] H3 (upd H3 q (.tup [.str "close", .str nn, .ref t])) := Keep.new nq (Keep.refl _ _)
        have m4 := m3.idle k4
        have e14 := k4.at_ _ _ (by simp) e1
        have hat : At K (upd H3 q (.tup [.str "close", .str nn, .ref t])) (.ref q) (encV (MV.clo nn (f.pile.drop (f.pile.length - mm)))) := by
          refine At.new upd_same (.cons (.str _) (.cons (.str _) (.cons ?_ .nil)))
          refine At.new (k4.tup _ _ e2) ?_
          rw [encVs_drop, hl6]
          exact ((h6.keep k3).keep k4).drop _
        have hsz := (hz.2 _ (List.mem_cons_self ..)).1
        have hp4 : AtL K (upd H3 q (.tup [.str "close", .str nn, .ref t])) (ss.take (ss.length - mm)) (encVs (f.pile.take (f.pile.length - mm))) := by
          rw [encVs_take, hl6]
          exact ((h6.keep k3).keep k4).take _
        have hl4 := hp4.length
        rw [encVs_length] at hl4
        simp only [List.length_append, List.length_singleton] at hsz
        refine ⟨r.s, _, _, rfl, rfl, e14, by omega, ?_⟩
        exact k _ tl _ (m4.push e14 hp4 hat) (fun v e => by cases e)
      · rw [if_neg hle] at hm2
        cases hm2
    | tell =>
      cases ei
      obtain ⟨v, ev, eg⟩ := Option.map_eq_some_iff.mp (show f.pile.getLast?.map _ = _ from hm)
      have eg2 : gs = told v fs ∧ o = some v := by
        cases fs with
        | nil => cases eg; exact ⟨rfl, rfl⟩
        | cons g rest => cases eg; exact ⟨rfl, rfl⟩
      obtain ⟨rfl, rfl⟩ := eg2
      refine ⟨_, rfl, rfl, _, rfl, iff' (by decide +kernel) ?_⟩
      refine ⟨_, rfl, rfl, _, rfl, iff' (by decide +kernel) ?_⟩
      refine ⟨_, rfl, rfl, _, rfl, iff' (by decide +kernel) ?_⟩
      refine ⟨_, rfl, by decide, fun t0 nt0 => ⟨t0, _, rfl, .inr (.of upd_same), rfl, rfl, _, rfl, iff' (by decide +kernel) ?_⟩⟩
      have k5 : Keep [] H1 (upd H1 t0 (.tup [.str "shape", .str "close"])) := Keep.new nt0 (Keep.refl _ _)
      replace m := m.idle k5
      replace hrow := hrow.keep k5
      replace hD := k5.at_ _ _ (by simp) hD
      replace h1 := k5.at_ _ _ (by simp) h1
      replace h2 := h2.keep k5
      replace h3 := k5.at_ _ _ (by simp) h3
      replace h4 := h4.keep k5
      replace h5 := k5.at_ _ _ (by simp) h5
      replace h6 := h6.keep k5
      generalize upd H1 t0 (.tup [.str "shape", .str "close"]) = H2 at k5 m hrow hD h1 h2 h3 h4 h5 h6 ⊢
      refine ⟨_, rfl, rfl, _, rfl, iff' (by decide +kernel) ?_⟩
      refine ⟨_, rfl, rfl, _, rfl, ift (by decide +kernel) ?_⟩
      refine ⟨_, rfl, mp, mdx, _, rfl, m.at_, mF_no4, H0, mp, mdx, cd, fl, bs, tl, r, rs, f, fs, v, rfl, m, ev, fun g hg => (hz.2 g hg).1, fun H' x hx m' => ?_⟩
      exact k _ x _ m' (fun v' e => by cases e; exact hx)
    | own kd mm =>
    cases kd with
    | dull =>
      cases ei
      cases hm
      refine ⟨_, rfl, rfl, _, rfl, iff' (by decide +kernel) ?_⟩
      refine ⟨_, rfl, rfl, _, rfl, iff' (by decide +kernel) ?_⟩
      refine ⟨_, rfl, rfl, _, rfl, ift (by decide +kernel) ?_⟩
      have hsz := (hz.2 _ (List.mem_cons_self ..)).1
      simp only [List.length_append, List.length_singleton] at hsz
      have hl6 := sz1 h6
      refine ⟨_, rfl, r.p, _, r.dx, _, _, rfl, h1, T.c_Frame, T.n_Frame_pile, frF_pile, .inl ⟨rfl, _, .of h5⟩, _, rfl, r.s, ss, _, rfl, rfl, h5, by omega, ?_⟩
      exact k _ tl _ (m.push h5 h6 (v := .dull) hrow) (fun v e => by cases e)
    | shape nn =>
      cases ei
      cases hxs with
      | cons x1 x2 =>
      cases x2 with
      | cons x2 x3 =>
      cases x3
      obtain rfl := x1.s
      obtain rfl := x2.i
      have hm2 : (if mm ≤ f.pile.length then some ((({ f with pile := f.pile.take (f.pile.length - mm) ++ [MV.shape nn (f.pile.drop (f.pile.length - mm))] } : Fr) :: fs), (none : Option MV)) else none) = some (gs, o) := hm
      by_cases hle : mm ≤ f.pile.length
      · rw [if_pos hle] at hm2
        cases hm2
        refine ⟨_, rfl, rfl, _, rfl, iff' (by decide +kernel) ?_⟩
        refine ⟨_, rfl, rfl, _, rfl, iff' (by decide +kernel) ?_⟩
        refine ⟨_, rfl, rfl, _, rfl, iff' (by decide +kernel) ?_⟩
        refine ⟨_, rfl, by decide, fun t0 nt0 => ⟨t0, _, rfl, .inr (.of upd_same), rfl, rfl, _, rfl, ift (by decide +kernel) ?_⟩⟩
        have k5 : Keep [] H1 (upd H1 t0 (.tup [.str "shape", .str "close"])) := Keep.new nt0 (Keep.refl _ _)
        replace m := m.idle k5
        replace hrow := hrow.keep k5
        replace hD := k5.at_ _ _ (by simp) hD
        replace h1 := k5.at_ _ _ (by simp) h1
        replace h2 := h2.keep k5
        replace h3 := k5.at_ _ _ (by simp) h3
        replace h4 := h4.keep k5
        replace h5 := k5.at_ _ _ (by simp) h5
        replace h6 := h6.keep k5
        generalize upd H1 t0 (.tup [.str "shape", .str "close"]) = H2 at k5 m hrow hD h1 h2 h3 h4 h5 h6 ⊢
        have hl6 := h6.length
        rw [encVs_length] at hl6
        refine ⟨_, rfl, r.p, _, r.dx, _, _, rfl, h1, T.c_Frame, T.n_Frame_pile, frF_pile, .inl ⟨rfl, _, .of h5⟩, _, rfl, _, rfl, D, _, 0, _, rfl, rfl, .of hD, atI_nat (j := 0) rfl, _, rfl, r.p, r.dx, _, rfl, h1, frF_no2, _, rfl, D, _, 1, _, rfl, rfl, .of hD, atI_nat (j := 1) rfl, r.p, r.dx, r.v, r.s, .ref c, f.line, mm, ss, rfl, h1, h5, by rw [hl6]; exact hle, fun t H3 nt k3 e1 e2 => ?_⟩
        have m3 := m.pile (ps := f.pile.take (f.pile.length - mm)) k3 e1 (by rw [encVs_take, hl6]; exact (h6.keep k3).take _)
        refine ⟨by show 3 ≤ sizeLine; decide, fun q nq => ?_⟩
        have k4 : Keep [] H3 (upd H3 q (.tup [.str "shape", .str nn, .ref t])) := Keep.new nq (Keep.refl _ _)
        have m4 := m3.idle k4
        have e14 := k4.at_ _ _ (by simp) e1
        have hat : At K (upd H3 q (.tup [.str "shape", .str nn, .ref t])) (.ref q) (encV (MV.shape nn (f.pile.drop (f.pile.length - mm)))) := by
          refine At.new upd_same (.cons (.str _) (.cons (.str _) (.cons ?_ .nil)))
          refine At.new (k4.tup _ _ e2) ?_
          rw [encVs_drop, hl6]
          exact ((h6.keep k3).keep k4).drop _
        have hsz := (hz.2 _ (List.mem_cons_self ..)).1
        have hp4 : AtL K (upd H3 q (.tup [.str "shape", .str nn, .ref t])) (ss.take (ss.length - mm)) (encVs (f.pile.take (f.pile.length - mm))) := by
          rw [encVs_take, hl6]
          exact ((h6.keep k3).keep k4).take _
        have hl4 := hp4.length
        rw [encVs_length] at hl4
        simp only [List.length_append, List.length_singleton] at hsz
        refine ⟨r.s, _, _, rfl, rfl, e14, by omega, ?_⟩
        exact k _ tl _ (m4.push e14 hp4 hat) (fun v e => by cases e)
      · rw [if_neg hle] at hm2
        cases hm2
    | call nn =>
      cases ei
      cases hxs with
      | cons x1 x2 =>
      cases x2 with
      | cons x2 x3 =>
      cases x3
      obtain rfl := x1.s
      obtain rfl := x2.i
      have hm2 : (if mm ≤ f.pile.length then (codeIn bs nn).map fun c => ((⟨c, 0, f.pile.drop (f.pile.length - mm), []⟩ : Fr) :: { f with pile := f.pile.take (f.pile.length - mm) } :: fs, (none : Option MV)) else none) = some (gs, o) := hm
      by_cases hle : mm ≤ f.pile.length
      · rw [if_pos hle] at hm2
        obtain ⟨cc, ec, eg⟩ := Option.map_eq_some_iff.mp hm2
        cases eg
        refine ⟨_, rfl, rfl, _, rfl, iff' (by decide +kernel) ?_⟩
        refine ⟨_, rfl, rfl, _, rfl, iff' (by decide +kernel) ?_⟩
        refine ⟨_, rfl, rfl, _, rfl, iff' (by decide +kernel) ?_⟩
        refine ⟨_, rfl, by decide, fun t0 nt0 => ⟨t0, _, rfl, .inr (.of upd_same), rfl, rfl, _, rfl, iff' (by decide +kernel) ?_⟩⟩
        have k5 : Keep [] H1 (upd H1 t0 (.tup [.str "shape", .str "close"])) := Keep.new nt0 (Keep.refl _ _)
        replace m := m.idle k5
        replace hrow := hrow.keep k5
        replace hD := k5.at_ _ _ (by simp) hD
        replace h1 := k5.at_ _ _ (by simp) h1
        replace h2 := h2.keep k5
        replace h3 := k5.at_ _ _ (by simp) h3
        replace h4 := h4.keep k5
        replace h5 := k5.at_ _ _ (by simp) h5
        replace h6 := h6.keep k5
        generalize upd H1 t0 (.tup [.str "shape", .str "close"]) = H2 at k5 m hrow hD h1 h2 h3 h4 h5 h6 ⊢
        refine ⟨_, rfl, rfl, _, rfl, ift (by decide +kernel) ?_⟩
        have hl6 := h6.length
        rw [encVs_length] at hl6
        refine ⟨_, rfl, mp, mdx, _, rfl, m.at_, mF_no1, _, rfl, D, _, 0, _, rfl, rfl, .of hD, atI_nat (j := 0) rfl, _, rfl, r.p, r.dx, _, rfl, h1, frF_no2, _, rfl, D, _, 1, _, rfl, rfl, .of hD, atI_nat (j := 1) rfl, r.p, r.dx, r.v, r.s, .ref c, f.line, mm, ss, rfl, h1, h5, by rw [hl6]; exact hle, fun t H3 nt k3 e1 e2 => ?_⟩
        have m3 := m.pile (ps := f.pile.take (f.pile.length - mm)) k3 e1 (by rw [encVs_take, hl6]; exact (h6.keep k3).take _)
        have hlr := m3.ok.length
        have hz1 := hz.1
        simp only [List.length_cons] at hlr hz1
        refine ⟨H0, mp, mdx, cd, fl, t, bs, tl, r :: rs, _, nn, cc, _, f.pile.drop (f.pile.length - mm), rfl, m3, .of e2, by rw [encVs_drop, hl6]; exact (h6.keep k3).drop _, ec, by rw [List.length_cons]; omega, fun H' r' m' => ?_⟩
        exact k _ tl _ m' (fun v e => by cases e)
      · rw [if_neg hle] at hm2
        cases hm2
    | give =>
      cases ei
      refine ⟨_, rfl, rfl, _, rfl, iff' (by decide +kernel) ?_⟩
      refine ⟨_, rfl, rfl, _, rfl, iff' (by decide +kernel) ?_⟩
      refine ⟨_, rfl, rfl, _, rfl, iff' (by decide +kernel) ?_⟩
      refine ⟨_, rfl, by decide, fun t0 nt0 => ⟨t0, _, rfl, .inr (.of upd_same), rfl, rfl, _, rfl, iff' (by decide +kernel) ?_⟩⟩
      have k5 : Keep [] H1 (upd H1 t0 (.tup [.str "shape", .str "close"])) := Keep.new nt0 (Keep.refl _ _)
      replace m := m.idle k5
      replace hrow := hrow.keep k5
      replace hD := k5.at_ _ _ (by simp) hD
      replace h1 := k5.at_ _ _ (by simp) h1
      replace h2 := h2.keep k5
      replace h3 := k5.at_ _ _ (by simp) h3
      replace h4 := h4.keep k5
      replace h5 := k5.at_ _ _ (by simp) h5
      replace h6 := h6.keep k5
      generalize upd H1 t0 (.tup [.str "shape", .str "close"]) = H2 at k5 m hrow hD h1 h2 h3 h4 h5 h6 ⊢
      refine ⟨_, rfl, rfl, _, rfl, iff' (by decide +kernel) ?_⟩
      refine ⟨_, rfl, rfl, _, rfl, iff' (by decide +kernel) ?_⟩
      have hl6 := h6.length
      rw [encVs_length] at hl6
      have hd : ∃ nn us x cc, f.pile.drop (f.pile.length - 2) = [.clo nn us, x] ∧ codeIn bs nn = some cc ∧ gs = ⟨cc, 0, us ++ [x], []⟩ :: { f with pile := f.pile.take (f.pile.length - 2) } :: fs ∧ o = none := by
        unfold mrow at hm
        simp only at hm
        split at hm
        · rename_i nn us x e
          obtain ⟨cc, ec, eg⟩ := Option.map_eq_some_iff.mp hm
          cases eg
          exact ⟨nn, us, x, cc, e, ec, rfl, rfl⟩
        · cases hm
      obtain ⟨nn, us, x, cc, ed, ec, rfl, rfl⟩ := hd
      have hle : 2 ≤ f.pile.length := by
        have := congrArg List.length ed
        simp only [List.length_drop, List.length_cons, List.length_nil] at this
        omega
      have hdrop : AtL K H2 (ss.drop (ss.length - 2)) (encVs [.clo nn us, x]) := by
        rw [← ed, encVs_drop, hl6]
        exact h6.drop _
      refine ⟨_, rfl, r.p, r.dx, _, rfl, h1, frF_no2, _, rfl, rfl, .inr ⟨_, rfl, _, _, rfl, rfl, r.p, r.dx, r.v, r.s, .ref c, f.line, 2, ss, rfl, h1, h5, by rw [hl6]; exact hle, fun t H3 nt k3 e1 e2 => ?_⟩⟩
      have m3 := m.pile (ps := f.pile.take (f.pile.length - 2)) k3 e1 (by rw [encVs_take, hl6]; exact (h6.keep k3).take _)
      replace hdrop := hdrop.keep k3
      generalize ss.drop (ss.length - 2) = ts at hdrop e2
      cases hdrop with
      | @cons v1 vs1 d1 ds1 y1 y2 =>
      cases y2 with
      | @cons v2 vs2 d2 ds2 y2 y3 =>
      cases y3
      refine ⟨t, _, rfl, .of e2, by simp, by simp, fun D2 nD2 => ?_⟩
      refine ⟨_, _, rfl, _, _, rfl, rfl, ?_⟩
      have k4 := Keep.new (o := .lst [v2]) nD2 (Keep.refl [] H3)
      have m4 := m3.idle k4
      refine ⟨_, rfl, mp, mdx, _, rfl, m4.at_, mF_no2, _, rfl, _, rfl, D2, _, rfl, .inl ⟨.of upd_same, fun q nq => ?_⟩⟩
      have k5 := Keep.new (o := .tup [v2]) nq (Keep.refl [] _)
      have m5 := m4.idle k5
      have hlr := m5.ok.length
      have hz1 := hz.1
      have hz2 := (hz.2 _ (List.mem_cons_self ..)).2
      simp only [List.length_cons, List.length_append, List.length_nil] at hlr hz1 hz2
      refine ⟨H0, mp, mdx, cd, fl, q, bs, tl, _, r :: rs, _, nn, cc, [v2], [x], us, rfl, m5, (y1.keep k4).keep k5, .of upd_same, .cons ((y2.keep k4).keep k5) .nil, ec, by rw [List.length_cons]; omega, by simp only [List.length_cons, List.length_nil]; omega, fun H' r' m' => ?_⟩
      exact k _ tl _ m' (fun v e => by cases e)
    | go =>
      cases ei
      refine ⟨_, rfl, rfl, _, rfl, iff' (by decide +kernel) ?_⟩
      refine ⟨_, rfl, rfl, _, rfl, iff' (by decide +kernel) ?_⟩
      refine ⟨_, rfl, rfl, _, rfl, iff' (by decide +kernel) ?_⟩
      refine ⟨_, rfl, by decide, fun t0 nt0 => ⟨t0, _, rfl, .inr (.of upd_same), rfl, rfl, _, rfl, iff' (by decide +kernel) ?_⟩⟩
      have k5 : Keep [] H1 (upd H1 t0 (.tup [.str "shape", .str "close"])) := Keep.new nt0 (Keep.refl _ _)
      replace m := m.idle k5
      replace hrow := hrow.keep k5
      replace hD := k5.at_ _ _ (by simp) hD
      replace h1 := k5.at_ _ _ (by simp) h1
      replace h2 := h2.keep k5
      replace h3 := k5.at_ _ _ (by simp) h3
      replace h4 := h4.keep k5
      replace h5 := k5.at_ _ _ (by simp) h5
      replace h6 := h6.keep k5
      generalize upd H1 t0 (.tup [.str "shape", .str "close"]) = H2 at k5 m hrow hD h1 h2 h3 h4 h5 h6 ⊢
      refine ⟨_, rfl, rfl, _, rfl, iff' (by decide +kernel) ?_⟩
      refine ⟨_, rfl, rfl, _, rfl, iff' (by decide +kernel) ?_⟩
      have hl6 := h6.length
      rw [encVs_length] at hl6
      have hd : ∃ nn us cc, f.pile.drop (f.pile.length - 1) = [.clo nn us] ∧ codeIn bs nn = some cc ∧ gs = ⟨cc, 0, us, []⟩ :: { f with pile := f.pile.take (f.pile.length - 1) } :: fs ∧ o = none := by
        unfold mrow at hm
        simp only at hm
        split at hm
        · rename_i nn us e
          obtain ⟨cc, ec, eg⟩ := Option.map_eq_some_iff.mp hm
          cases eg
          exact ⟨nn, us, cc, e, ec, rfl, rfl⟩
        · cases hm
      obtain ⟨nn, us, cc, ed, ec, rfl, rfl⟩ := hd
      have hle : 1 ≤ f.pile.length := by
        have := congrArg List.length ed
        simp only [List.length_drop, List.length_cons, List.length_nil] at this
        omega
      have hdrop : AtL K H2 (ss.drop (ss.length - 1)) (encVs [.clo nn us]) := by
        rw [← ed, encVs_drop, hl6]
        exact h6.drop _
      refine ⟨_, rfl, r.p, r.dx, _, rfl, h1, frF_no2, _, rfl, rfl, .inr ⟨_, rfl, _, _, rfl, rfl, r.p, r.dx, r.v, r.s, .ref c, f.line, 1, ss, rfl, h1, h5, by rw [hl6]; exact hle, fun t H3 nt k3 e1 e2 => ?_⟩⟩
      have m3 := m.pile (ps := f.pile.take (f.pile.length - 1)) k3 e1 (by rw [encVs_take, hl6]; exact (h6.keep k3).take _)
      replace hdrop := hdrop.keep k3
      generalize ss.drop (ss.length - 1) = ts at hdrop e2
      cases hdrop with
      | cons y1 y2 =>
      cases y2
      refine ⟨t, _, rfl, .of e2, by simp, by simp, fun D2 nD2 => ?_⟩
      refine ⟨_, _, rfl, _, _, rfl, rfl, ?_⟩
      have k4 := Keep.new (o := .lst []) nD2 (Keep.refl [] H3)
      have m4 := m3.idle k4
      refine ⟨_, rfl, mp, mdx, _, rfl, m4.at_, mF_no2, _, rfl, _, rfl, D2, _, rfl, .inl ⟨.of upd_same, fun q nq => ?_⟩⟩
      have k5 := Keep.new (o := .tup []) nq (Keep.refl [] _)
      have m5 := m4.idle k5
      have hlr := m5.ok.length
      have hz1 := hz.1
      have hz2 := (hz.2 _ (List.mem_cons_self ..)).2
      simp only [List.length_cons, List.length_append, List.length_nil] at hlr hz1 hz2
      refine ⟨H0, mp, mdx, cd, fl, q, bs, tl, _, r :: rs, _, nn, cc, [], [], us, rfl, m5, (y1.keep k4).keep k5, .of upd_same, .nil, ec, by rw [List.length_cons]; omega, by simp only [List.length_cons, List.length_nil]; omega, fun H' r' m' => ?_⟩
      exact k _ tl _ (by rw [List.append_nil] at m'; exact m') (fun v e => by cases e)
end
end K46
/-! K46F5 -/
set_option maxHeartbeats 4000000
namespace K46
open PySem PySem.Spec PyProof.Rows L2 C8
section
variable {K : PySem.W.Frag} {H H1 H0 : Hp}
theorem codeIn_snoc {bs : List Bk} {b : Bk} {n : Str} {c : List Ins} (nb : b.name ∉ bs.map (·.name)) (h : codeIn (bs ++ [b]) n = some c) : (b.name = n ∧ c = b.code) ∨ (b.name ≠ n ∧ codeIn bs n = some c) := by
  unfold codeIn at h ⊢
  rw [List.find?_append] at h
  cases e : bs.find? (fun b => decide (b.name = n)) with
  | some b' =>
    rw [e] at h
    have hm := List.mem_of_find?_eq_some e
    have hn : b'.name = n := by simpa using List.find?_some e
    refine .inr ⟨fun z => nb ?_, h⟩
    rw [z, ← hn]
    exact List.mem_map.mpr ⟨b', hm, rfl⟩
  | none =>
    rw [e] at h
    have h' : ([b].find? fun b => decide (b.name = n)).map (·.code) = some c := h
    by_cases en : b.name = n
    · rw [List.find?_cons_of_pos (by simpa using en)] at h'
      cases h'
      exact .inl ⟨en, rfl⟩
    · rw [List.find?_cons_of_neg (by simpa using en)] at h'
      cases h'
end
section
variable {P : Program} {w : World} {K : PySem.W.Frag} {mg : Str → Option Value} {base : Heap}
def sp_Machine_init (K : PySem.W.Frag) : Sp := fun vs H Q _ => ∃ (H0 : Hp) (mp mdx bl : Addr) (bs : List Bk) (c : List Ins), vs = [.ref mp, .ref bl] ∧ H mp = some (.ins (CM K) mdx []) ∧ At K H (.ref bl) (encBs bs) ∧ (bs.map (·.name)).Nodup ∧ codeIn bs "." = some c ∧ bs.length < sizeLine ∧
  Keep [] H0 H ∧ H0 mp = none ∧ ∀ H' cd fl r, MSt K H0 mp mdx cd fl bs .non [r] [⟨c, 0, [], []⟩] H' → Q .non H'
theorem ok_Machine_init (T : Tx K mg) : Mak P w K mg base 4 "Machine" (CM K) (sp_Machine_init K) [] := by
  refine mak_mk T.f_Machine_init T.mk_Machine T.g_Machine sc_Machine_init (fun _ _ _ _ _ _ us hl => match us, hl with | [_, _], _ => rfl) (fun vs H Q E h => ?_) (fun cdv A outer s H vs Q E hr h => ?_)
  · obtain ⟨H0, mp, mdx, bl, bs, c, rfl, _⟩ := h
    rfl
  · obtain ⟨H0, mp, mdx, bl, bs, c, rfl, hp, hbl, hnd, hc, hz, k0, n0, k⟩ := h
    have c_Machine_begin_frame := ok_begin_frame (P := P) (w := w) (base := base) T
    obtain ⟨tOWm, kOWm⟩ := T.k_OWN_machine
    refine ⟨_, (pss_cons (ps_fld (pv 0) (pe_dc (g := (gTup K 3 (gCons (gName 2) (gCons (gName 3) (gCons (gName 4) gNil))))) rfl sc_Machine_init.nd (pi_tup (pv 1)) (blkOk_by (own := [("name", 2), ("many", 3), ("code", 4)]) (N := ["self", "blocks", "name", "many", "code"]) (sc := defScope s_Machine_init) (by decide +kernel)) (fun _ _ _ _ _ => (pg_tup rfl (pgs_cons (pg_name (i := 2) sc_Machine_init.nd rfl (Or.inl rfl)) (pgs_cons (pg_name (i := 3) sc_Machine_init.nd rfl (Or.inl rfl)) (pgs_cons (pg_name (i := 4) sc_Machine_init.nd rfl (Or.inl rfl)) pgs_nil))))) (fun _ _ _ _ _ => pts_nil) (fun _ _ _ _ _ => (pv 2)) (fun _ _ _ _ _ => (pv 4))) rfl)
      (pss_cons (ps_fld (pv 0) (pe_lst pa_nil) rfl)
      (pss_cons (ps_fld (pv 0) pe_non rfl)
      (pss_one (ps_expr (pe_mt c_Machine_begin_frame hr (by omega) (pv 0) (pa_cons (pe_glob (v := .str ".") rfl kOWm ⟨_, rfl⟩) (pa_cons (pe_tup pa_nil) pa_nil)))))))), ?_⟩
    obtain ⟨_, ys, e, hq, hys⟩ := hbl.t
    cases e
    have hl := hys.length
    rw [List.length_map] at hl
    refine ⟨_, rfl, bl, rfl, ⟨ys, hq⟩, fun D nD => ?_⟩
    refine dc_tup (xs := ys) (fun i H' => ∃ kvs, Keep [D] H H' ∧ H' D = some (.dK kvs) ∧ kvs.length ≤ i ∧ ∀ n c, codeIn (bs.take i) n = some c → ∃ a, valV kvs (.inr n) = some (.ref a) ∧ At K H (.ref a) (encC c))
      ⟨[], Keep.new nD (Keep.refl _ _), upd_same, Nat.le_refl _, fun n c e => by cases e⟩ (fun i H' _ ⟨kvs, k1, _⟩ => k1.sqT hq) (fun i x H' hi ⟨kvs, k1, hD, hle, hv⟩ => ?_) (fun H' ⟨kvs, k1, hD, hle, hv⟩ => ?_)
    · obtain ⟨d, hd, hx⟩ := hys.get' hi
      rw [List.getElem?_map] at hd
      obtain ⟨b, hb, rfl⟩ := Option.map_eq_some_iff.mp hd
      obtain ⟨a, x1, x2, x3, rfl, ha, h1, h2, h3⟩ := hx.t3
      obtain rfl := h1.s
      obtain ⟨ca, cs, rfl, _⟩ := id h3.t
      refine ⟨a, _, rfl, k1.sqT ha, rfl, _, _, rfl, _, _, rfl, _, _, rfl, rfl, rfl, ?_⟩
      refine ⟨_, rfl, _, rfl, kvs, .inr b.name, rfl, hD, by have := (List.getElem?_eq_some_iff.mp hi).1; omega, _, Keep.dct hD (.inl (by simp)) k1, upd_same, ?_, fun n c e => ?_⟩
      · have := length_putK kvs (.inr b.name : Key) (.ref ca)
        omega
      · have hbi : bs.take (i + 1) = bs.take i ++ [b] := by rw [List.take_add_one, hb]; rfl
        rw [hbi] at e
        have nb : b.name ∉ (bs.take i).map (·.name) := by
          have h2 : ((bs.take (i + 1)).map (·.name)).Nodup := hnd.sublist ((List.take_sublist _ _).map _)
          rw [hbi, List.map_append] at h2
          exact fun z => (List.nodup_append.mp h2).2.2 _ z _ (List.mem_singleton.mpr rfl) rfl
        rcases codeIn_snoc nb e with ⟨rfl, rfl⟩ | ⟨ne, e⟩
        · exact ⟨ca, by rw [valV_put, if_pos rfl], h3⟩
        · obtain ⟨a', z1, z2⟩ := hv n c e
          exact ⟨a', by rw [valV_put, if_neg (fun z => ne (Sum.inr.inj z).symm)]; exact z1, z2⟩
    · rw [hl, List.take_length] at hv
      have npD : mp ≠ D := ne_of_none hp nD
      have h1 : H' mp = some (.ins (CM K) mdx []) := k1.at_ _ _ (by simp [npD]) hp
      refine ⟨_, rfl, mp, _, mdx, _, rfl, h1, T.c_Machine, T.n_Machine_codes, (by decide), by decide, fun F nF => ?_⟩
      have npF : mp ≠ F := ne_of_none upd_same nF
      refine ⟨_, rfl, mp, _, mdx, _, rfl, (by rw [upd_ne npF]; exact upd_same), T.c_Machine, T.n_Machine_frames, (by show 1 < 1000; decide), _, rfl, mp, _, mdx, _, rfl, upd_same, T.c_Machine, T.n_Machine_told_last, (by show 2 < 1000; decide), ?_⟩
      rw [mF_mk, upd_upd]
      have nF' : H' F = none := new_old nF
      have nFD : F ≠ D := fun z => by rw [z, hD] at nF'; cases nF'
      have k2 : Keep [D, mp] H (upd (upd (upd H' mp (.ins (CM K) mdx (putF "codes" (.ref D) []))) F (.lst [])) mp (.ins (CM K) mdx (mF D F .non))) := by
        refine Keep.ins (fs := putF "codes" (.ref D) []) (by rw [upd_ne npF]; exact upd_same) (.inl (by simp)) (Keep.new nF (Keep.ins h1 (.inl (by simp)) (k1.mono (by simp))))
      have nH : H F = none := by
        cases e : H F with
        | none => rfl
        | some o =>
          have := k1.at_ F o (by simp [nFD]) e
          rw [nF'] at this
          cases this
      have m : MSt K H0 mp mdx D F bs .non [] [] (upd (upd (upd H' mp (.ins (CM K) mdx (putF "codes" (.ref D) []))) F (.lst [])) mp (.ins (CM K) mdx (mF D F .non))) := by
        refine ⟨k2.call (fun b z => .inr ?_) k0, ?_, fun a z => ?_, upd_same, ⟨kvs, ?_, fun n c e => ?_⟩, ?_, .nil⟩
        · simp at z
          rcases z with rfl | rfl
          · exact k0.free nD
          · exact n0
        · simp [owns, npD, npF, nFD.symm]
        · simp [owns] at z
          rcases z with rfl | rfl | rfl
          · exact n0
          · exact k0.free nD
          · exact k0.free nH
        · rw [upd_ne npD.symm, upd_ne nFD.symm, upd_ne npD.symm]
          exact hD
        · obtain ⟨a, z1, z2⟩ := hv n c e
          exact ⟨a, z1, z2.keep k2⟩
        · rw [upd_ne npF.symm]
          exact upd_same
      refine ⟨_, rfl, mp, mdx, _, rfl, m.at_, mF_no1, by decide, fun t nt => ?_⟩
      have k3 := Keep.new (o := .tup []) nt (Keep.refl [] _)
      exact ⟨H0, mp, mdx, D, F, t, bs, _, [], [], _, c, [], [], rfl, m.idle k3, .of upd_same, .nil, hc, by show 0 < sizeLine; decide, fun H2 r m2 => k H2 D F r m2⟩
end
end K46
/-! K46R4 -/
set_option maxHeartbeats 4000000
/-! ### a caught error with its own dict: its class, isinstance of it -/
namespace PySem.W
open PySem PySem.Spec PySem.Calls PyProof.Rows
section
variable {prog : Program} {w : World} {A : Around} {E : Value → Shared → Prop} {s : Shared} {K : Frag} {x D : Addr} {ox : Obj} {od : Option Obj}
theorem findObj_dataM {C : Addr} {name : Str} {a g : Value} (hc : (clsIn K C).isSome = true) (ha : findIn K (.ref C) name = some (some a)) (hg : specialIn K a "__get__" = some (some g)) (ht : takesIn K a = some true) : findObj K C od name = some (.bind g a) := by
  obtain ⟨cd, hc⟩ := Option.isSome_iff_exists.mp hc
  unfold findObj
  rw [hc, Option.bind_some, ha, Option.bind_some]
  simp [hg, ht]
theorem kin_classM {Q : Option Value → Shared → Prop} (hga : findIn K (.ref D) "__getattribute__" = some (some (.builtin "BaseException.__getattribute__"))) (hgt : findIn K (.ref D) "__getattr__" = some none) (hsub : subIn K (.ref D) (.type "BaseException") = some true)
    (hdct : hasDictIn K D = true) (ha : findIn K (.ref D) "__class__" = some (some (.builtin "object.__class__")))
    (hn : specialIn K (.builtin "object.__class__") "__get__" = some (some (.builtin "getset_descriptor.__get__"))) (htk : takesIn K (.builtin "object.__class__") = some true) (hm : mroIn K D (.type "object") = some true)
    (X : K.In s.heap) (I : InstAt s.heap x ox D od) (h : Q (some (.ref D)) { s with toks := s.toks + 1 }) : wpAny (model prog w) A (getAttr? (.ref x) "__class__") Q E s := by
  have hf : findObj K D od "__class__" = some (.bind (.builtin "getset_descriptor.__get__") (.builtin "object.__class__")) := findObj_dataM (by obtain ⟨cd, hc, _⟩ := any_some hdct; rw [hc]; rfl) ha hn htk
  obtain ⟨hp, g, d, t, os⟩ := s
  have L0 := I.type (M := model prog w)
  have L1 := looks_findIn (M := model prog w) X hga
  have L2 := looks_findIn (M := model prog w) X hgt
  have L3 := looks_find (M := model prog w) X I hf
  have sub : Looks (model prog w) hp (isInstance (.ref x) (.type "BaseException")) true := L0.andThen (looks_subIn X hsub)
  have hx0 : (false && onTheHeap (Value.builtin "BaseException.__getattribute__")) = false := rfl
  have hx2 : (Value.builtin "BaseException.__getattribute__" == Value.builtin "object.__getattribute__") = false := by decide +kernel
  have hx1 : (onTheHeap (Value.ref D) && Value.builtin "BaseException.__getattribute__" == Value.builtin "object.__getattribute__") = false := by rw [hx2]; rfl
  unfold getAttr? getAttrBy? getAttrBy
  refine wpAny_bind (wpAny_mkText (wpAny_bind (wpAny_attempt (wpAny_holding (wpAny_bind (L0.at (wpAny_bind (L1.at ?_))))))))
  show wpAny _ _ (if (onTheHeap (Value.ref D) && Value.builtin "BaseException.__getattribute__" == Value.builtin "object.__getattribute__") = true then _ else _) _ _ _
  rw [hx1, if_neg Bool.false_ne_true]
  unfold getAttrByItsOwn hookBefore
  refine wpAny_bind ?_
  rw [if_pos (show onTheHeap (Value.ref D) = true from rfl)]
  refine L2.at ?_
  refine wpAny_bind (wpAny_attempt (wpAny_holding ?_))
  unfold callGetattribute
  rw [hx0, if_neg Bool.false_ne_true]
  unfold boundAndCalled
  rw [PySem.F.excAttr_ValueError.ga.bind (.ref x)]
  refine wpAny_bind (wpAny_pure ?_)
  show wpAny _ _ (call (.builtin "BaseException.__getattribute__") [.ref x, .str "__class__" t]) _ _ _
  refine wpAny_call (codeAny_call_builtin PySem.F.excAttr_ValueError.ga.plain PySem.F.entry_bexc_ga ?_)
  refine @check_slot (model prog w) _ _ ⟨hp, g, d, t + 1, os⟩ "BaseException.__getattribute__" "BaseException" "__getattribute__" (.ref x) [.str "__class__" t] [] _ (by decide +kernel) (by decide +kernel) sub (PySem.F.args_bexc_ga (.ref x) (.str "__class__" t)) ?_
  unfold Builtin.«object.__getattribute__»
  refine wpAny_bind (wpAny_of_eq (a := ((Value.ref x : Value), [Value.str "__class__" t])) (by first | rfl | (simp only [slotArgs]; rfl)) ?_)
  refine wpAny_bind (wpAny_pure (wpAny_bind (L0.at (wpAny_bind (L3.at ?_)))))
  show wpAny _ _ (holding [Value.builtin "object.__class__"] (call (.builtin "getset_descriptor.__get__") [.builtin "object.__class__", .ref x, .ref D]) >>= ret) _ _ _
  refine wpAny_bind (wpAny_holding (wpAny_call (class_get (s := ⟨hp, g, d, t + 1, os⟩) (ox := ox) (od := od) X I hm ?_)))
  refine wpAny_pure ?_
  show wpAny _ _ (handedOut (.ref D)) _ _ _
  rw [handedOut_of (v := .ref D) rfl]
  first
    | exact wpAny_pure (wpAny_pure h)
    | exact wpAny_pure h
    | exact wpAny_pure (wpAny_bind (wpAny_pure (wpAny_pure h)))
theorem kitx_excM (hga : findIn K (.ref D) "__getattribute__" = some (some (.builtin "BaseException.__getattribute__"))) (hgt : findIn K (.ref D) "__getattr__" = some none) (hsub : subIn K (.ref D) (.type "BaseException") = some true) (hdct : hasDictIn K D = true) (ha : findIn K (.ref D) "__class__" = some (some (.builtin "object.__class__")))
    (hn : specialIn K (.builtin "object.__class__") "__get__" = some (some (.builtin "getset_descriptor.__get__"))) (htk : takesIn K (.builtin "object.__class__") = some true) (hm : mroIn K D (.type "object") = some true) :
    KitX K (.ref x) (.ref D) (fun h => InstAt h x ox D od) where
  ty := fun _ _ _ I => I.type
  it := fun _ _ X _ => by
    obtain ⟨cdD, hcD, _⟩ := any_some hdct
    unfold clsIn at hcD
    split at hcD
    · rename_i c' d' cd' sl' ho
      intro A' Q' E' s' k q
      unfold isType loadHead
      exact wpAny_bind (wpAny_loadPart (k _ _ (X _ _ ho)) (wpAny_pure q))
    · cases hcD
  ne := fun h tp dd its n sl X htp => by
    obtain ⟨cdD, hcD, _⟩ := any_some hdct
    refine Bool.eq_false_iff.mpr fun q => ?_
    have e : D = tp := Value.ref.inj (beq_iff_eq.mp q)
    subst e
    unfold clsIn at hcD
    split at hcD
    · rename_i c' d' cd' sl' ho
      have z := (X _ _ ho).symm.trans htp
      cases z
    · cases hcD
  ca := fun X I k => kin_classM hga hgt hsub hdct ha hn htk hm X I k
end
end PySem.W
namespace K46
open PySem PySem.Spec PyProof.Rows L2
section
variable {X : Cx} {a D d : Addr} {oe : Obj} {pn : List (Addr × Obj)}
theorem inst_of {pins : List (Addr × Obj)} {σ : L2.St} {H : Hp} {s : Shared} {fs : List (Str × V)} (I : Inv (X.suite a ((a, oe) :: pn)) pins σ H s) (hz : Zc (.ref D) (some d) oe) (hf : ∃ vs, oe.data = .fields vs) (hd : H d = some (.xd fs)) :
    ∃ od, PySem.W.InstAt s.heap a oe D (some od) := by
  obtain ⟨hget, _⟩ := I.pin (a, oe) (List.mem_append.mpr (.inl List.mem_cons_self))
  obtain ⟨vs, hv⟩ := hf
  have hx : ObjOk X.prog X.w H s.heap d (.xd fs) := I.hok d _ hd
  obtain ⟨mA, hns, hr⟩ := hx
  obtain ⟨od, ho, hl⟩ := lookIn_ns hns
  exact ⟨od, hget, hz.1, by unfold PySem.W.notCls; rw [hv] <;> rfl, by rw [hz.2]; exact ho⟩
/-- isinstance(e, c) -/
def rIsD (K : PySem.W.Frag) (D a d : Addr) : List V → Hp → VK → Prop := fun xs H Q => ∃ (c : V) (u : Value) (b : Bool) (fs : List (Str × V)), xs = [.ref a, c] ∧ ClsV c u ∧ H d = some (.xd fs) ∧ PySem.W.kitOne K (.ref D) u = some b ∧ Q (.bl b) H
/-- isinstance(e, (c1, c2)) -/
def rIsTD (K : PySem.W.Frag) (D a d : Addr) : List V → Hp → VK → Prop := fun xs H Q => ∃ (tp : Addr) (cs : List V) (us : List Value) (b : Bool) (fs : List (Str × V)), xs = [.ref a, .ref tp] ∧ H tp = some (.tup cs) ∧ Paired ClsV cs us ∧ H d = some (.xd fs) ∧ PySem.W.kitAny K (.ref D) us = some b ∧ Q (.bl b) H
theorem call_isD (C : ExcC X.K D) (hz : Zc (.ref D) (some d) oe) (hf : ∃ vs, oe.data = .fields vs) : CallR (X.suite a ((a, oe) :: pn)) (.builtin "isinstance") (rIsD X.K D a d) := by
  intro pins s σ H xs us Q I r h
  obtain ⟨c, u, b, fs, rfl, k, hd, e, q⟩ := h
  obtain ⟨u1, u2, rfl, r1, r2⟩ := vals2 r
  have e2 := k.eq r2
  subst e2
  cases (show u1 = Value.ref a from r1)
  obtain ⟨od, J⟩ := inst_of I hz hf hd
  exact PySem.W.kia_one (PySem.W.kitx_excM C.hg C.hk C.hs C.hd C.ha C.hn C.ht C.hm) I.kIn J e (fun z => nomatch z) fun tk => ⟨.bl b, H, I.kept (t' := tk) fun _ _ z => z, rfl, q⟩
theorem call_isTD (C : ExcC X.K D) (hz : Zc (.ref D) (some d) oe) (hf : ∃ vs, oe.data = .fields vs) : CallR (X.suite a ((a, oe) :: pn)) (.builtin "isinstance") (rIsTD X.K D a d) := by
  intro pins s σ H xs us Q I r h
  obtain ⟨tp, cs, ws, b, fs, rfl, hT, k, hd, e, q⟩ := h
  obtain ⟨u1, u2, rfl, r1, r2⟩ := vals2 r
  cases (show u2 = Value.ref tp from r2)
  cases (show u1 = Value.ref a from r1)
  obtain ⟨od, J⟩ := inst_of I hz hf hd
  obtain ⟨_, its, rv, o, h1, h2, n, h3⟩ := (show ObjOk X.prog X.w H s.heap tp (.tup cs) from I.hok tp _ hT)
  have e3 := ClsV.all k rv
  subst e3
  obtain ⟨oc, od', dt, sl⟩ := o
  simp only at h2 h3
  subst h2 h3
  exact PySem.W.kia_tup (PySem.W.kitx_excM C.hg C.hk C.hs C.hd C.ha C.hn C.ht C.hm) I.kIn J h1 e (fun z => nomatch z) fun tk => ⟨.bl b, H, I.kept (t' := tk) fun _ _ z => z, rfl, q⟩
end
/-! ### B.__init__(self, ..), B an own class without an own one -/
structure BaseI (K : PySem.W.Frag) (B : Addr) : Prop where
  rd : PySem.W.readsIn K B (.type "type") = true
  ga : PySem.W.specialIn K (.ref B) "__getattribute__" = some (some (.builtin "type.__getattribute__"))
  at_ : PySem.W.findCls K (.ref B) (.type "type") "__init__" = some (.val (.builtin "ValueError.__init__"))
section
variable {X : Cx} {o e : Expr} {es : List Expr} {to te : TE} {ta : TA} {f : Str} {p p' p1 p2 pos : Pos} {B : Addr} {x : Str}
theorem pe_binit {pl : Sem Bool} (T : BaseI X.K B) (hg : Gl X x) (hm : X.mg x = some (.ref B)) (ha : PA X (e :: es) ta)
    (hc : eval (.Call (.Attribute (.Name x p1) "__init__" p2) (e :: es) [] pos) X.env = (do
      let ov ← eval (.Name x p1) X.env
      standAt p2.atName
      let (f, first) ← holding [ov] (getMethod ov "__init__" pl)
      callWith pos f first (backTo pos (starEach (e :: es) X.env)) (backToKw pos (keywordEach [] X.env))) := by rfl)
    (hdb : (x == ("__debug__" : Str)) = false := by decide)
    (he : starEach (e :: es) X.env = (false, eval e X.env) :: starEach es X.env := by rfl) (hpl : (backTo pos (starEach es X.env)).any (·.1) = false := by rfl) :
    PE X (.Call (.Attribute (.Name x p1) "__init__" p2) (e :: es) [] pos) (tVeI X.K ta) := by
  refine ⟨fun pins s σ H Q I h => ?_⟩
  refine PySem.W.methodCall_KW (ld_glob I hg hm ?_ hdb) hc
  refine PySem.W.method_cls I.kIn T.ga (PySem.W.cls_value I.kIn T.rd T.at_ (by decide +kernel) ?_)
  show wpAny _ _ (callWith pos (Value.builtin "ValueError.__init__") [] (backTo pos (starEach (e :: es) X.env)) []) _ _ _
  refine PyProof.Rows.callWith_method1 (thn (ha.run pos pins _ σ H _ (I.tok _) h) fun us s1 ⟨vs, H1, I1, r1, a, C, ws, ev, hl, T, ea, q⟩ => ?_) he hpl
  subst ev
  cases r1 with
  | @cons _ u0 _ ur ra rw' =>
    obtain rfl : u0 = Value.ref a := ra
    have hlen : ur.length ≤ sizeLine := by
      rw [← Paired.length rw', sizeLine_eq]
      omega
    exact oinit_ok T I1 ea hlen fun s' J => ⟨.non, H1, J, rfl, q⟩
end
end K46
/-! K46R5 -/
set_option maxHeartbeats 4000000
namespace K46
open PySem PySem.Spec PyProof.Rows L2
/-! ### f(e, k = v) where what is raised is wished for at the caller's slots -/
def tCallND (n m : Nat) (sp : Sp) (gV : List V → List V → List V) (E : L2.St → XK) (t tk : TA) : TE := fun σ H Q => t σ H fun vs H1 => tk σ H1 fun zs H2 => vs.length = n ∧ zs.length = m ∧ sp (gV vs zs) H2 Q (E σ)
section
variable {X : Cx} {CX : CXT} {k n : Nat} {f : Addr} {fd : FuncData} {ps ks : List Str} {sp : Sp} {E : L2.St → XK} {x : Str} {p pos : Pos} {e : Expr} {es : List Expr} {kws : List Keyword} {t tk : TA} {g : List Value → List Value → List Value} {gV : List V → List V → List V}
theorem run_fnND {pins : List (Addr × Obj)} {σ : L2.St} {H : Hp} {s : Shared} {Q : VK} {us ws : List Value} {vs zs : List V} (F : FnOk X.prog X.w X.K X.mg X.base CX k f fd ps sp) (hr : Room k X.A) (hb : KBn X.K fd ps n ks g gV) (hx : PassesAt CX X σ (E σ))
    (I : Inv X pins σ H s) (r : Vals vs us) (rz : Vals zs ws) (l1 : vs.length = n) (l2 : zs.length = ks.length) (h : sp (gV vs zs) H Q (E σ)) : wpAny (model X.prog X.w) X.A (call (.ref f) us (ks.zip ws)) (EP X pins σ Q) X.xe s := by
  have r2 := hb.rel r rz
  refine wpAny_call (codeAny_mono (F.run X.A X.stack s H ⟨us, ks.zip ws⟩ (g us ws) (gV vs zs) Q (E σ) hr I.env0 (hb.to s us ws I.kIn (r.length.symm.trans l1) (rz.length.symm.trans l2)) r2 h) fun r s' hq => ?_)
  cases r with
  | error e => exact hx pins H s e s' I hq
  | ok fl =>
    cases fl with
    | ret u => exact I.after hq
    | next => exact False.elim hq
    | brk => exact False.elim hq
    | cont => exact False.elim hq
theorem pe_callND (F : FnOk X.prog X.w X.K X.mg X.base CX k f fd ps sp) (hr : Room k X.A) (hg : Gl X x) (hm : X.mg x = some (.ref f)) (hk : PySem.W.keepIn X.K (.ref f) = true) (hb : KBn X.K fd ps n ks g gV) (hx : ∀ σ, PassesAt CX X σ (E σ))
    (ha : PA X (e :: es) t) (hkw : PK X kws tk) (hall : (backToKw pos (keywordEach kws X.env)).all (·.1.isSome) = true := by rfl) (hks : (backToKw pos (keywordEach kws X.env)).filterMap (·.1) = ks := by rfl)
    (hdb : (x == ("__debug__" : Str)) = false := by decide) (he : starEach (e :: es) X.env = (false, eval e X.env) :: starEach es X.env := by rfl)
    (hpl : ((backTo pos (starEach (e :: es) X.env)).any (·.1) || (backToKw pos (keywordEach kws X.env)).any (·.1.isNone)) = false := by rfl) :
    PE X (.Call (.Name x p) (e :: es) kws pos) (tCallND n ks.length sp gV E t tk) := by
  refine ⟨fun pins s σ H Q I h => ?_⟩
  refine wpAny_Call_Name_kw (ld_glob I hg hm ?_ hdb)
  refine PySem.W.callWith_KW (h₀ := X.base) I.ok.mod.kin hk hall (thn (ha.run pos pins s σ H _ I h) fun us s1 ⟨vs, H1, I1, r, q⟩ => ?_) hpl he
  refine thn (hkw.run pos pins s1 σ H1 _ I1 q) fun ws s2 ⟨zs, H2, I2, rz, l1, l2, q2⟩ => ⟨I2.kIn, ?_⟩
  rw [hks]
  exact run_fnND F hr hb (hx σ) I2 r rz l1 l2 q2
end
/-! ### run_made's parameters -/
theorem run_made_b {K : PySem.W.Frag} {f : Addr} {fd : FuncData} (F : Fd K "run_made" "run_made" s_run_made [("most", .int 2000)] f fd) : ∃ ds, Vals [V.int 2000] ds ∧ Binds K fd ["blocks", "most"] ds :=
  F.binds0 (ps := ["blocks", "most"]) 1 (by decide) rfl fun D doc pm an cdv ct us ks hu hk => match us, ks, hu, hk with
    | [u], [k], _, _ => ⟨_, _, _, _, _, _, rfl, rfl, rfl⟩
theorem run_made_k {K : PySem.W.Frag} {f : Addr} {fd : FuncData} (F : Fd K "run_made" "run_made" s_run_made [("most", .int 2000)] f fd) : ∃ mv : List Value, KBn K fd ["blocks", "most"] 1 ["most"] (fun us ws => us ++ ws) (fun vs zs => vs ++ zs) := by
  refine F.kbinds0 (ps := ["blocks", "most"]) 1 ["most"] [] (fun us _ ws => us ++ ws) (by decide) (fun q hq => by cases hq) (fun a _ c => a.append c) fun D doc pm an cdv ct us mv ws hu hm hw => ?_
  match us, mv, ws, hu, hm, hw with
  | [u], [], [w], _, _, _ => rfl
end K46
/-! K46F6 -/
set_option maxHeartbeats 4000000
namespace K46
open PySem PySem.Spec PyProof.Rows L2 C8
/-! ### TooLong -/
abbrev CT (K : PySem.W.Frag) : Addr := He.ga K "TooLong"
structure Ex (K : PySem.W.Frag) : Prop where
  oex : OexC K (CT K)
  bas : BaseI K (He.ga K "TooMuch")
  nmost : PySem.W.findIn K (.ref (CT K)) "most" = some none
  ini : PySem.W.findIn K (.ref (CT K)) "__init__" = some (some (.ref (He.fAd K ("TooLong", some "__init__"))))
  tin : PySem.W.typeIn K (.ref (He.fAd K ("TooLong", some "__init__"))) = some (.type "function")
section
variable {P : Program} {w : World} {K : PySem.W.Frag} {mg : Str → Option Value} {base : Heap}
def sp_TooLong_init (K : PySem.W.Frag) : Sp := fun vs H Q _ => ∃ (a : Addr) (v : V), vs = [.ref a, v] ∧ H a = some (exo a (CT K) none) ∧ ∀ dx, H dx = none → dx ≠ a → Q .non (upd (upd H dx (exd dx [("most", v)])) a (exo a (CT K) (some dx)))
theorem ok_TooLong_init {fd : FuncData} (T : Tx K mg) (X : Ex K) (F : Fd K "__init__" "TooLong.__init__" s_TooLong_init [] (He.fAd K ("TooLong", some "__init__")) fd) : FnOk P w K mg base C8.CX0 1 (He.fAd K ("TooLong", some "__init__")) fd ["self", "most"] (sp_TooLong_init K) := by
  refine fn_mk F sc_TooLong_init (fun vs H Q E h => ?_) (fun cdv A outer s H vs Q E hr h => ?_)
  · obtain ⟨a, v, rfl, _⟩ := h
    rfl
  · obtain ⟨a, v, rfl, ha, k⟩ := h
    refine ⟨_, pss_cons (ps_expr (pe_binit X.bas rfl T.g_TooMuch (pa_cons (pv 0) (pa_cons pe_str pa_nil)))) (pss_one (ps_ost (pv 0) (pv 1))), ?_⟩
    exact ⟨_, rfl, a, CT K, [_], rfl, by decide, X.oex, ha, _, rfl, _, rfl, a, CT K, rfl, X.oex, X.nmost, .inl ⟨ha, fun dx n ne => k dx n ne⟩⟩
def sp_run_made (K : PySem.W.Frag) : Sp := fun vs H Q E => ∃ (bl : Addr) (bs : List Bk) (c : List Ins) (n most : Nat) (v : MV), vs = [.ref bl, .int most] ∧ At K H (.ref bl) (encBs bs) ∧ (bs.map (·.name)).Nodup ∧ bs.length < sizeLine ∧ codeIn bs "." = some c ∧
  TellsS bs n [⟨c, 0, [], []⟩] v ∧ (n ≤ most → ∀ H' x, Keep [] H H' → At K H' x (encV v) → Q x H') ∧
  (most < n → ∀ H' d, Keep [] H H' → H d = none → H' d = some (.xd [("most", .int most)]) → E (.ref (CT K)) (some d) H')
theorem TellsS.pos {bs : List Bk} {n : Nat} {fs : List Fr} {v : MV} (h : TellsS bs n fs v) : 1 ≤ n ∧ fs ≠ [] := by
  cases h with
  | last e => exact ⟨Nat.le_refl _, fun z => by rw [z] at e; cases e⟩
  | step e _ _ _ => exact ⟨Nat.succ_le_succ (Nat.zero_le _), fun z => by rw [z] at e; cases e⟩
def RunW (K : PySem.W.Frag) (H : Hp) (bl x dx cd fl : Addr) (bs : List Bk) (n most : Nat) (v : MV) (j : Nat) (σ : L2.St) (H' : Hp) : Prop :=
  ∃ (g : Nat) (rs : List FA) (fs : List Fr) (tl : V), σ = [some (.ref bl), some (.int most), some (.ref x), some (.int (g : Int))] ∧ MSt K H x dx cd fl bs tl rs fs H' ∧ g ≤ most ∧
    ((j + g = n ∧ TellsS bs j fs v) ∨ (j = 0 ∧ g = n ∧ fs = [] ∧ At K H' tl (encV v)))
theorem ok_run_made {fd : FuncData} (T : Tx K mg) (X : Ex K) (F : Fd K "run_made" "run_made" s_run_made [("most", .int 2000)] (He.fAd K ("run_made", none)) fd) : FnOk P w K mg base (L2.CX P w) 6 (He.fAd K ("run_made", none)) fd ["blocks", "most"] (sp_run_made K) := by
  refine FunD.ok F sc_run_made (fun vs H Q E h => ?_) (fun cdv A outer s H vs Q E hr h => ?_)
  · obtain ⟨bl, bs, c, n, most, v, rfl, _⟩ := h
    rfl
  · obtain ⟨bl, bs, c, n, most, v, rfl, hbl, hnd, hlen, hc, ht, kq, ke⟩ := h
    have m_Machine := ok_Machine_init (P := P) (w := w) (base := base) T
    have c_Machine_row_done := ok_row_done (P := P) (w := w) (base := base) T
    have c_Frame_next_row := ok_next_row (P := P) (w := w) (base := base) T
    obtain ⟨fd1, Fd1⟩ := T.f_TooLong_init
    have F1 := ok_TooLong_init (P := P) (w := w) (base := base) T X Fd1
    have b1 := Fd1.bindsN (ps := ["self", "most"]) (fun _ _ _ _ _ _ us hl => match us, hl with | [_, _], _ => rfl)
    refine ⟨_, (pss_cons (ps_set (i := 2) sc_run_made.nd rfl (Or.inl rfl) (pe_mk m_Machine hr (by omega) rfl (pa_cons (pv 0) pa_nil)))
      (pss_cons (ps_set (i := 3) sc_run_made.nd rfl (Or.inl rfl) pe_int)
      (pss_cons (ps_while (passes_of rfl) (pt_cmpR (op_ne0 hr.units0) (pe_fld (pv 2) rfl) (pe_lst pa_nil) (nomark _)) (pss_cons (ps_if (pt_cmpR op_eq (pv 3) (pv 1) (nomark _)) (pss_one (ps_raise rfl (takes_of rfl rfl rfl rfl) (pmk_oex X.oex X.ini X.tin F1 (hr.mono (by decide)) b1 .nil (fun _ _ _ _ _ _ _ h => h.elim) rfl T.g_TooLong (pa_cons (pv 1) pa_nil)))) pss_nil)
      (pss_cons (ps_aug (i := 3) sc_run_made.nd rfl (Or.inl rfl) pe_int ip_add)
      (pss_one (ps_expr (pe_mt c_Machine_row_done hr (by omega) (pv 2) (pa_cons (pe_mt0 c_Frame_next_row hr (by omega) (pe_ix ix_list (pe_fld (pv 2) rfl) (pe_un un_neg pe_int) (fun _ _ => rfl))) pa_nil)))))))
      (pss_one (ps_ret (pe_fld (pv 2) rfl)))))), ?_⟩
    refine ⟨_, rfl, fun x dx nx ndx nex => ?_⟩
    have k1 : Keep [] H (upd (upd H dx (.own x)) x (.ins (CM K) dx [])) := Keep.new (by rw [upd_ne nex.symm]; exact nx) (Keep.new ndx (Keep.refl _ _))
    refine ⟨H, x, dx, bl, bs, c, rfl, upd_same, hbl.keep k1, hnd, hc, hlen, k1, nx, fun H1 cd fl r m1 => ⟨rfl, ?_⟩⟩
    refine ⟨RunW K H bl x dx cd fl bs n most v, ⟨n, 0, [r], _, .non, rfl, m1, Nat.zero_le _, .inl ⟨rfl, ht⟩⟩, ?_⟩
    rintro j σ H2 ⟨g, rs, fs, tl, rfl, m, hg, hh⟩
    refine ⟨_, rfl, x, _, dx, _, _, rfl, m.at_, T.c_Machine, T.n_Machine_frames, mF_frames, by decide, fun q nq => ?_⟩
    have k3 := Keep.new (o := .lst []) nq (Keep.refl [] _)
    have m3 := m.idle k3
    refine ⟨fl, q, _, rfl, rfl, .inl ⟨.of m3.frames, .of upd_same⟩, _, rfl, ?_⟩
    rcases hh with ⟨hj, ht⟩ | ⟨rfl, rfl, rfl, htl⟩
    · obtain ⟨hp, hne⟩ := ht.pos
      have ok3 := m3.ok
      cases ok3 with
      | nil => exact absurd rfl hne
      | @cons r f rs fs hf hfs =>
      refine ift (by simp) ?_
      obtain ⟨ca, vs, ss, h1, h2, h3, h4, h5, h6⟩ := hf
      have step : ∀ (j' : Nat) (gs : List Fr) (o : Option MV) (H' : Hp) (tl' : V) (rs' : List FA), mstep bs (f :: fs) = some (gs, o) → (gs = [] ∧ j = 1 ∧ o = some v ∨ gs ≠ [] ∧ j = j' + 1 ∧ TellsS bs j' gs v) → g ≠ most → MSt K H x dx cd fl bs tl' rs' gs H' → (∀ v, o = some v → At K H' tl' (encV v)) →
          ∃ m', m' < j ∧ RunW K H bl x dx cd fl bs n most v m' [some (.ref bl), some (.int most), some (.ref x), some (.int ((g : Int) + 1))] H' := by
        intro j' gs o H' tl' rs' _ hc ng m' hat
        rcases hc with ⟨rfl, hj1, rfl⟩ | ⟨_, rfl, ht'⟩
        · exact ⟨0, hp, g + 1, rs', [], tl', rfl, m', by omega, .inr ⟨rfl, by omega, rfl, hat v rfl⟩⟩
        · exact ⟨j', Nat.lt_succ_self _, g + 1, rs', gs, tl', rfl, m', by omega, .inl ⟨by omega, ht'⟩⟩
      have one : ∃ (j' : Nat) (gs : List Fr) (o : Option MV), mstep bs (f :: fs) = some (gs, o) ∧ Small gs ∧ (gs = [] ∧ j = 1 ∧ o = some v ∨ gs ≠ [] ∧ j = j' + 1 ∧ TellsS bs j' gs v) := by
        cases ht with
        | last e => exact ⟨0, [], some v, e, ⟨Nat.zero_le _, fun f hf => by cases hf⟩, .inl ⟨rfl, rfl, rfl⟩⟩
        | step e hn hs ht' => exact ⟨_, _, _, e, hs, .inr ⟨hn, rfl, ht'⟩⟩
      obtain ⟨j', gs, o, e1, hs, hcase⟩ := one
      refine ⟨fun σ' H' => ∃ m', m' < j ∧ RunW K H bl x dx cd fl bs n most v m' σ' H', fun _ _ h => h, ?_⟩
      refine ⟨_, rfl, _, rfl, rfl, _, rfl, ite2 (fun e => ?_) (fun e => ?_)⟩
      · have e' := dint e
        refine ⟨_, rfl, (by show 1 ≤ 1000; decide), fun a na => ⟨a, _, rfl, upd_same, fun d nd ned => ⟨rfl, d, [("most", .int (most : Int))], upd_same, ?_, new_old nd, ?_⟩⟩⟩
        · rw [upd_ne ned]
          exact upd_same
        · have k9 : Keep [] (upd H2 q (.lst [])) (upd (L2.del (upd (upd (upd (upd H2 q (.lst [])) a (exo a (CT K) none)) d (exd d [("most", .int (most : Int))])) a (exo a (CT K) (some d))) a) d (.xd [("most", .int (most : Int))])) := by
            have go : ∀ b o, upd H2 q (.lst []) b = some o → upd (L2.del (upd (upd (upd (upd H2 q (.lst [])) a (exo a (CT K) none)) d (exd d [("most", .int (most : Int))])) a (exo a (CT K) (some d))) a) d (.xd [("most", .int (most : Int))]) b = some o := fun b o z => by
              have n1 : b ≠ a := ne_of_none z na
              have n2 : b ≠ d := ne_of_none z (new_old nd)
              rw [upd_ne n2, del_ne n1, upd_ne n1, upd_ne n2, upd_ne n1]
              exact z
            exact ⟨fun b o _ z => go b o z, fun b xs z => go b _ z, fun b o u z => go b _ z⟩
          refine ke (by omega) _ d (m3.keep.trans k9) ?_ upd_same
          exact m3.keep.free (new_old nd)
      · have ng := dintn e
        obtain ⟨i, ei, er⟩ : ∃ i, f.code[f.line]? = some i ∧ mrow bs i (K46.next f :: fs) = some (gs, o) := by
          obtain ⟨i, h1, h2⟩ := Option.bind_eq_some_iff.mp (show (f.code[f.line]?).bind _ = _ from e1)
          exact ⟨i, h1, h2⟩
        refine ⟨_, rfl, _, _, rfl, rfl, ?_⟩
        have hfl := m3.frames.trans (show _ = some (HO.lst ((rs.reverse.map fun r : FA => V.ref r.p) ++ [V.ref r.p])) by rw [List.reverse_cons, List.map_append]; rfl)
        obtain ⟨_, cs, ec, hq, hcs⟩ := h2.t
        cases ec
        obtain ⟨row, erow, hrow⟩ := hcs.get (i := f.line) (d := encI i) (by rw [List.getElem?_map, ei]; rfl)
        refine ⟨_, rfl, x, dx, _, rfl, m3.at_, mF_no3, _, rfl, x, _, dx, _, _, rfl, m3.at_, T.c_Machine, T.n_Machine_frames, mF_frames, 1, rfl, fl, _, -1, V.ref r.p, rfl, rfl, .of hfl, atI_last _ _, r.p, r.dx, _, rfl, h1, frF_no1, ?_⟩
        refine ⟨r.p, r.dx, r.v, r.s, ca, f.line, cs, row, rfl, h1, hq, erow, ?_⟩
        have k5 : Keep [r.p] (upd H2 q (.lst [])) (upd (upd H2 q (.lst [])) r.p (.ins (CF K) r.dx (frF (.ref ca) (f.line + 1 : Nat) r.v r.s))) := Keep.ins h1 (.inl (by simp)) (Keep.refl _ _)
        obtain ⟨a1, a2, a3⟩ := m3.apart
        have m5 : MSt K H x dx cd fl bs tl (r :: rs) (K46.next f :: fs) _ := m3.top (k5.mono (by simp [FA.own])) ⟨ca, vs, ss, upd_same, h2.keep k5, by rw [upd_ne a1.symm]; exact h3, h4.keep k5, by rw [upd_ne a2.symm]; exact h5, h6.keep k5⟩
        refine ⟨H, x, dx, cd, fl, bs, tl, row, r, rs, K46.next f, fs, gs, i, o, rfl, m5, hrow.keep k5, er, hs, fun H' tl' rs' m6 hat => ?_⟩
        exact step j' gs o H' tl' rs' e1 hcase (fun z => ng (by rw [z])) m6 hat
    · have hrs : rs = [] := List.eq_nil_of_length_eq_zero m.ok.length
      subst hrs
      refine iff' rfl ?_
      refine ⟨_, rfl, x, _, dx, _, _, rfl, m3.at_, T.c_Machine, T.n_Machine_told_last, mF_told, ?_⟩
      exact kq hg _ _ m3.keep (htl.keep k3)
end
end K46
/-! K46H -/
set_option maxHeartbeats 4000000
namespace K46
open PySem PySem.Spec PyProof.Rows L2 C8
section
variable {J : It} {n : Nat} {G : Hp → Prop} {Y : Nat → Hp → V → Hp → Prop} {K : PySem.W.Frag}
/-- a list comprehension of data, all items taken -/
theorem lc_data (w : Walk J n G Y) {g : TG} {tt : TT} {te : TE} {vs : List Nat} {σ : L2.St} {H1 : Hp} {D : Addr} {Qd : Hp → Prop} (ds : List K46.D) (hn : ds.length = n) (hz : n ≤ sizeLine) (nD : H1 D = none) (hG : ∀ H, Keep [] H1 H → G H)
    (hs : ∀ (i : Nat) (x : V) (H H' : Hp) (d : K46.D) (Qn : VK) (F : Hp → Prop), i < n → Keep [] H1 H → Y i H x H' → ds[i]? = some d → (∀ y H4, Keep [] H H4 → At K H4 y d → Qn y H4) → g x (wipe σ vs) H' fun σ2 H2 => wipe σ2 vs = wipe σ vs ∧ tt σ2 H2 fun b H3 => if b = true then te σ2 H3 Qn else F H3)
    (hd : ∀ ys H, Keep [] H1 H → H D = some (.lst ys) → AtL K H ys ds → Qd H) :
    ∃ W : Nat → Nat → Hp → Prop, (∃ m, W 0 m (upd H1 D (.lst []))) ∧ ∀ i m H, W i m H →
      (J.stop i H ∧ Qd H) ∨ (J.go i H ∧ ∃ Nx : Hp → Prop, (∀ H', Nx H' → ∃ m', m' < m ∧ W (i + 1) m' H') ∧ ∀ x H', J.yld i H x H' → g x (wipe σ vs) H' fun σ2 H2 => wipe σ2 vs = wipe σ vs ∧ tt σ2 H2 fun b H3 =>
        if b = true then te σ2 H3 fun y H4 => ∃ acc, H4 D = some (.lst acc) ∧ acc.length < sizeLine ∧ Nx (upd H4 D (.lst (acc ++ [y]))) else Nx H3) := by
  refine lc_it w (fun i H => ∃ ys, Keep [] H1 H ∧ H D = some (.lst ys) ∧ AtL K H ys (ds.take i)) ⟨[], Keep.new nD (Keep.refl _ _), upd_same, .nil⟩ (fun i H _ ⟨ys, k, _⟩ => hG H k) (fun i x H H' hi ⟨ys, k, hD, hy⟩ y => ?_) (fun H ⟨ys, k, hD, hy⟩ => ?_)
  · have hlt : i < ds.length := by omega
    have hl := hy.length
    rw [List.length_take] at hl
    refine hs i x H H' ds[i] _ _ hi k y (List.getElem?_eq_getElem hlt) fun y H4 k4 hy4 => ?_
    have hD4 := k4.at_ _ _ (by simp) hD
    have k5 : Keep [D] H4 (upd H4 D (.lst (ys ++ [y]))) := Keep.lst hD4 (.inl (by simp)) (Keep.refl _ _)
    refine ⟨ys, hD4, by omega, _, k5.call (fun b z => .inr (by rw [List.mem_singleton.mp z]; exact nD)) (k.trans k4), upd_same, ?_⟩
    have e : ds.take (i + 1) = ds.take i ++ [ds[i]] := by rw [List.take_add_one, List.getElem?_eq_getElem hlt]; rfl
    rw [e]
    exact ((hy.keep k4).keep k5).snoc (hy4.keep k5)
  · rw [← hn, List.take_length] at hy
    exact hd ys H k hD hy
end
theorem tyes {σ : L2.St} {H : Hp} {te : TE} {Qn : VK} {F : Hp → Prop} (h : te σ H Qn) : tYes σ H fun b H3 => if b = true then te σ H3 Qn else F H3 := by
  show if true = true then te σ H Qn else F H
  rw [if_pos rfl]
  exact h
end K46
/-! K46R9 -/
set_option maxHeartbeats 4000000
namespace K46
open PySem PySem.Spec PyProof.Rows L2
/-! ### dict(d), d a dict -/
theorem call_dictD {X : Cx} : CallR X (.type "dict") (fun xs H Q => ∃ (a : Addr) (kvs : List (Key × V)), xs = [.ref a] ∧ H a = some (.dK kvs) ∧ ∀ p, H p = none → Q (.ref p) (upd H p (.dK kvs))) := by
  intro pins s σ H xs us Q I r q
  obtain ⟨a, kvs, rfl, e, q⟩ := q
  obtain ⟨u, rfl, rx⟩ := vals1 r
  obtain rfl : u = Value.ref a := rx
  obtain ⟨hz, hm, vs, rel, dd⟩ := dk_of I.hok e
  refine PySem.kt_call_dict hm dd (by rw [← rel.length]; exact hz) fun h' hd hs => ?_
  have keep : ∀ b o, s.heap.get? b = some o → h'.get? b = some o := fun b o z => (hs.2 b (Nat.ne_of_lt (Heap.lt_size z))).trans (Heap.get?_push_of_some _ z)
  have hn : (s.heap.objs.size == sysModules) = false := beq_eq_false_iff_ne.mpr (Nat.ne_of_gt I.big)
  exact ⟨.ref _, _, I.laid (t' := s.toks) (o := .dK kvs) keep (Nat.le_refl _) ⟨hz, hn, vs, rel, hd⟩, rfl, q _ (I.hok.fresh (Nat.le_refl _))⟩
/-! ### t[::-1], t a tuple -/
theorem adjust_rev (n : Nat) : Builtin.Slice.sliceAdjust none none (-1) (n : Int) = ((n : Int) - 1, -1) := rfl
theorem places_rev (n : Nat) : Builtin.Slice.slicePlaces ((n : Int) - 1) (-1) (-1) = n := by
  unfold Builtin.Slice.slicePlaces
  have h1 : ¬ (-1 : Int) > 0 := by omega
  rw [if_neg h1]
  by_cases h : (n : Int) - 1 > -1
  · rw [if_pos h, show -(-1 : Int) = 1 from rfl, Int.ediv_one]
    omega
  · rw [if_neg h]
    omega
theorem fm_congr {α β : Type} {f g : α → Option β} : ∀ (l : List α), (∀ x ∈ l, f x = g x) → l.filterMap f = l.filterMap g
  | [], _ => rfl
  | x :: l, h => by rw [List.filterMap_cons, List.filterMap_cons, h x (List.mem_cons_self ..), fm_congr l fun y m => h y (List.mem_cons_of_mem _ m)]
theorem pick_rev (xs : Array Value) : ((List.range xs.size).filterMap fun (k : Nat) => xs[((xs.size : Int) - 1 + (k : Int) * (-1)).toNat]?) = xs.toList.reverse := by
  rw [← PySem.W.krv_all xs, ← List.filterMap_reverse, ← PySem.W.krv_range, List.filterMap_map]
  refine fm_congr (List.range xs.size) fun k hk => ?_
  have := List.mem_range.mp hk
  have e : ((xs.size : Int) - 1 + (k : Int) * (-1)).toNat = xs.size - 1 - k := by omega
  show _ = xs[xs.size - 1 - k]?
  rw [e]
section
variable {prog : Program} {w : World} {A : Around} {E : Value → Shared → Prop} {s : Shared}
theorem getItem_tuple_rev {t sl : Addr} {items : Array Value} {vs : Value} {Q : Value → Shared → Prop} (ht : IsTup s.heap t items) (hs : s.heap.IsSliceOf sl .none .none vs) (ps : IsPart vs (some (-1)))
    (h : Q (.ref s.heap.objs.size) { s with heap := s.heap.push { cls := .type "tuple", data := .seq items.toList.reverse.toArray } }) (hsz : items.size ≤ sizeLine) : wpAny (model prog w) A (getItem (.ref t) (.ref sl)) Q E s := by
  have hz : sizeOk (.seq items.toList.reverse.toArray) := by
    show items.toList.reverse.toArray.size ≤ sizeLine
    rw [List.size_toArray, List.length_reverse, Array.length_toList]
    exact hsz
  obtain ⟨os, hos, hcs, hds⟩ := id hs
  have hTs : s.TypeIs (.ref sl) "slice" := ⟨os, hos, hcs⟩
  unfold getItem
  try with_reducible refine wpAny_holding ?_
  first | refine wpAny_bind (wpAny_pure ?_) | skip
  refine wpAny_bind (wpAny_sequenceKey ht.typeIs (by decide) (wpAny_bind (wpAny_callSpecial?_slot (name := Str.ofString "__getitem__") ht.typeIs PyProof.Rows.slot_tuple_getitem (wpAny_call_entry PyProof.Rows.slot_tuple_getitem ht.typeIs entry_tuple_getitem ?_ (args_tuple_getitem _ _)))))
  show wpAny _ _ (Builtin.Tuple.tupleItemsOf (.ref t) >>= _) _ _ s
  refine wpAny_bind (tupleItemsOf_ ht (wpAny_bind (wpAny_typeOf hTs ?_)))
  rw [if_pos (by decide)]
  refine wpAny_bind (m := Builtin.Slice.sliceApplied (.ref sl) (pure (items.size : Int))) ?_
  unfold Builtin.Slice.sliceApplied Builtin.Slice.sliceFields
  refine wpAny_bind (wpAny_bind (wpAny_field hos hds (x := .none) rfl (wpAny_bind (wpAny_field hos hds (x := .none) rfl (wpAny_bind (wpAny_field hos hds (x := vs) rfl (wpAny_pure ?_)))))))
  refine wpAny_bind (HT.slicePart_ ps ?_)
  show wpAny _ _ (if ((-1 : Int) == 0) = true then _ else _) _ _ s
  rw [if_neg (by decide)]
  refine wpAny_bind (HT.slicePart_ .none (wpAny_bind (HT.slicePart_ .none (wpAny_bind (wpAny_pure ?_)))))
  show wpAny _ _ (match Builtin.Slice.sliceAdjust none none (-1) (items.size : Int) with | (lo, hi) => pure (lo, (-1 : Int), Builtin.Slice.slicePlaces lo hi (-1))) _ _ s
  rw [adjust_rev]
  show wpAny _ _ (pure ((items.size : Int) - 1, (-1 : Int), Builtin.Slice.slicePlaces ((items.size : Int) - 1) (-1) (-1))) _ _ s
  rw [places_rev]
  refine wpAny_pure ?_
  have hno : ¬ (((items.size : Int) - 1 == 0 && (-1 : Int) == 1 && items.size == items.size) = true) := by
    rw [show ((-1 : Int) == 1) = false from rfl, Bool.and_false, Bool.false_and]
    exact Bool.false_ne_true
  show wpAny _ _ (if ((items.size : Int) - 1 == 0 && (-1 : Int) == 1 && items.size == items.size) = true then _ else _) _ _ s
  rw [if_neg hno]
  show wpAny _ _ (Builtin.Tuple.tupleExact ((List.range items.size).filterMap fun (k : Nat) => items[((items.size : Int) - 1 + (k : Int) * (-1)).toNat]?).toArray >>= _) _ _ s
  rw [pick_rev]
  first
    | exact wpAny_bind (m := Builtin.Tuple.tupleExact _) (wpAny_newObj_type (wpAny_pure ⟨_, rfl, wpAny_pure h⟩) hz)
    | exact wpAny_bind (m := Builtin.Tuple.tupleExact _) (wpAny_newObj_type (wpAny_bind (wpAny_pure (wpAny_pure ⟨_, rfl, wpAny_pure h⟩))) hz)
    | exact wpAny_bind (wpAny_bind (m := Builtin.Tuple.tupleExact _) (wpAny_newObj_type (wpAny_pure (wpAny_pure ⟨_, rfl, wpAny_pure h⟩)) hz))
end
def tRevT (K : PySem.W.Frag) (te : TE) : TE := fun σ H Q => te σ H fun x H1 => ∃ a xs, x = .ref a ∧ SqT K H1 a xs ∧ ∀ p, H1 p = none → Q (.ref p) (upd H1 p (.tup xs.reverse))
theorem pe_revT {X : Cx} {e : Expr} {te : TE} {k : Nat} {p1 p2 p3 pos : Pos} (he : PE X e te) : PE X (.Subscript e (.Slice none none (some (.UnaryOp .USub (.Constant (.int 1) k p1) p2)) p3) pos) (tRevT X.K te) := by
  refine ⟨fun pins s σ H Q I h => Subscript_ (thn (he.run pins s σ H _ I h) fun v s1 ⟨x, H1, I1, r1, a, xs, ex, hx, q⟩ => ?_)⟩
  subst ex
  cases r1
  have hst : PO X (some (.UnaryOp .USub (.Constant (.int 1) k p1) p2)) (tPart (tUn (rU fun i => .int (-i)) (tC (.int 1)))) := po_some (pe_un un_neg pe_int)
  refine wpAny_Slice ?_
  rw [evalPart_none]
  refine wpAny_pure ?_
  refine wpAny_pure ?_
  refine thn (hst.run pins s1 σ H1 (fun o H4 => o = some (-1) ∧ H4 = H1) I1 ⟨1, rfl, -1, rfl, rfl, rfl⟩) fun vs s4 ⟨o, H4, I4, ps, eo, e4⟩ => ?_
  subst eo e4
  have I5 : Inv X pins σ H4 { s4 with heap := s4.heap.push { cls := .type "slice", data := .fields #[.none, .none, vs] } } := I4.kept (t' := s4.toks) fun b ob q => Heap.get?_push_of_some _ q
  obtain ⟨its, r, ht, hz⟩ := I5.tuple hx
  have hlen := r.length
  show wpAny (model X.prog X.w) X.A (subscriptTail e (.Slice none none (some (.UnaryOp .USub (.Constant (.int 1) k p1) p2)) p3) (.ref a) (.ref s4.heap.objs.size)) (EP X pins σ Q) X.xe { s4 with heap := s4.heap.push { cls := .type "slice", data := .fields #[.none, .none, vs] } }
  refine tail_any (ops := [.ref a, .ref s4.heap.objs.size]) ht.typeIs (PyProof.Rows.slot_tuple_getitem.lookup) ?_ (by with_unfolding_all rfl)
  refine getItem_tuple_rev ht (Heap.IsSliceOf.new _ .none .none vs) ps ?_ (by rw [List.size_toArray]; omega)
  refine ⟨.ref _, _, I5.laid (t' := s4.toks) (o := .tup xs.reverse) (fun b ob q => Heap.get?_push_of_some _ q) (Nat.le_refl _) ?_, rfl, q _ (I5.hok.fresh (Nat.le_refl _))⟩
  refine ⟨by rw [List.length_reverse]; exact hz, its.reverse, r.reverse, ?_⟩
  exact IsTup.new _ _
end K46
/-! K46R12 -/
set_option maxHeartbeats 4000000
namespace K46
open PySem PySem.Spec PyProof.Rows L2 C8
section
variable {X : Cx} {K : PySem.W.Frag}
theorem ix_tupK (h : X.K = K) : IxR X (rIxT K) := h ▸ ix_tup
theorem ix_listK (h : X.K = K) : IxR X (rIxL K) := h ▸ ix_list
theorem op_in_seqK (h : X.K = K) : OpR X (compareOp .In) (rIn K false) := h ▸ op_in_seq
theorem op_notIn_seqK (h : X.K = K) : OpR X (compareOp .NotIn) (rIn K true) := h ▸ op_notIn_seq
theorem sl_tupAK (h : X.K = K) : SlR X (rSlA K) := h ▸ sl_tupA
theorem call_len_seqK (h : X.K = K) : CallR X (.builtin "len") (fun xs H Q => ∃ p ys, xs = [.ref p] ∧ (SqL K H p ys ∨ SqT K H p ys) ∧ Q (.int ys.length) H) := h ▸ call_len_seq
theorem call_tuple_ofK (h : X.K = K) : CallR X (.type "tuple") (fun xs H Q => ∃ p ys, xs = [.ref p] ∧ ((SqL K H p ys ∧ ∀ l, H l = none → Q (.ref l) (upd H l (.tup ys))) ∨ (SqT K H p ys ∧ Q (.ref p) H))) := h ▸ call_tuple_of
theorem call_list_ofK (h : X.K = K) : CallR X (.type "list") (fun xs H Q => ∃ p ys, xs = [.ref p] ∧ (SqL K H p ys ∨ SqT K H p ys) ∧ ∀ l, H l = none → Q (.ref l) (upd H l (.lst ys))) := h ▸ call_list_of
theorem call_isiK (h : X.K = K) : CallR X (.builtin "isinstance") (rIsi K) := h ▸ call_isi
theorem call_isiTK (h : X.K = K) : CallR X (.builtin "isinstance") (rIsiT K) := h ▸ call_isiT
variable {o e : Expr} {es : List Expr} {to : TE} {t : TA} {name : Str} {apos cpos : Pos} {T id : String} {r : V → List V → Hp → VK → Prop}
theorem pe_bm0K' (h : X.K = K) (pa : PlainAttrs T) (slot : Slot T name id) (hty : typeOf (.builtin id) = pure (.type "method_descriptor")) (hm : MtR X id r) (ho : PE X o to)
    (hbase : attributeBase o name X.env (eval o X.env) = eval o X.env := by rfl) (hline : (apos.endLine == cpos.line) = true := by rfl) : PE X (.Call (.Attribute o name apos) [] [] cpos) (tBM0 K T r to) := h ▸ pe_bm0 pa slot hty hm ho hbase hline
end
end K46
/-! K46L1 -/
set_option maxHeartbeats 4000000
namespace K46
open PySem PySem.Spec PyProof.Rows L2 C8
/-! ### the law's own machine: its frames are dicts -/
abbrev lF (c : V) (l : Int) (v s : Addr) : List (Key × V) := [(.inr "code", c), (.inr "line", .int l), (.inr "locals", .ref v), (.inr "stack", .ref s)]
section
variable {c y : V} {l k : Int} {v s : Addr}
theorem lF_code : valV (lF c l v s) (.inr "code") = some c := by kernel_rfl
theorem lF_line : valV (lF c l v s) (.inr "line") = some (.int l) := by kernel_rfl
theorem lF_locals : valV (lF c l v s) (.inr "locals") = some (.ref v) := by kernel_rfl
theorem lF_stack : valV (lF c l v s) (.inr "stack") = some (.ref s) := by kernel_rfl
theorem lF_put : putK (lF c l v s) (.inr "line") (.int k) = lF c k v s := by kernel_rfl
theorem lF_mk : mergeK [] (lF c l v s) = lF c l v s := by kernel_rfl
end
section
variable {P : Program} {w : World} {K : PySem.W.Frag} {mg : Str → Option Value} {base : Heap}
def sp_off (K : PySem.W.Frag) : Sp := fun vs H Q _ => ∃ (l : Addr) (m : Nat) (xs : List V), vs = [.ref l, .int (m : Int)] ∧ H l = some (.lst xs) ∧ m ≤ xs.length ∧ xs.length ≤ sizeLine ∧
  ∀ t H', H t = none → Keep [l] H H' → H' l = some (.lst (xs.take (xs.length - m))) → H' t = some (.lst (xs.drop (xs.length - m))) → Q (.ref t) H'
theorem ok_off (T : Tx K mg) : Cal P w K mg base 1 "_law_off" (sp_off K) [] := by
  refine cal_mk T.f_off T.g_off sc_off (fun _ _ _ _ _ _ us hl => match us, hl with | [_, _], _ => rfl) (fun vs H Q E h => ?_) (fun cdv A outer s0 H vs Q E hr h => ?_)
  · obtain ⟨l, m, xs, rfl, _⟩ := h
    rfl
  · obtain ⟨l, m, xs, rfl, hl, hm, hz, q⟩ := h
    refine ⟨_, (pss_cons (ps_setLc (i := 2) (g := (gName 3)) rfl sc_off.nd rfl rfl (sw_true rfl rfl rfl (by decide +kernel)) (pi_range1 rfl T.z_range (pa_cons (pv 1) pa_nil)) (blkOk_by (own := [("_law_k", 3)]) (N := ["_law_stack", "_law_many", "_law_found", "_law_k"]) (sc := defScope s_off) (by decide +kernel)) (fun _ _ _ _ _ => (pg_name (i := 3) sc_off.nd rfl (Or.inl rfl))) (fun _ _ _ _ _ => pts_nil) (fun _ _ _ _ _ => (pe_bm0K' (K := K) rfl PySem.F.plainAttrs_list PySem.F.slot_list_pop PySem.F.type_list_pop mt_pop (pv 0))))
      (pss_one (ps_ret (pe_revL (pv 2))))), ?_⟩
    have emn : (m : Int).toNat = m := by omega
    have hz1 : sizeLine < 2 ^ 62 := by decide
    refine ⟨_, rfl, (m : Int), rfl, by omega, by omega, ?_⟩
    rw [emn]
    refine fun D nD => lc_it (walk_range (lo := 0) (n := m)) (fun i H' => Keep [l, D] H H' ∧ H' l = some (.lst (xs.take (xs.length - i))) ∧ H' D = some (.lst (xs.drop (xs.length - i)).reverse)) ?_ (fun _ _ _ _ => trivial) (fun i v H1 H2 hi ⟨k1, h1, h2⟩ y => ?_) (fun H1 ⟨k1, h1, h2⟩ => ?_)
    · have nlD : l ≠ D := ne_of_none hl nD
      refine ⟨Keep.new nD (Keep.refl _ _), by rw [upd_ne nlD, Nat.sub_zero, List.take_length]; exact hl, by rw [upd_same, Nat.sub_zero, List.drop_length]; rfl⟩
    · obtain ⟨rfl, rfl⟩ := y
      have nlD : l ≠ D := ne_of_none hl nD
      have hlt : xs.length - i - 1 < xs.length := by omega
      have el : (xs.take (xs.length - i)).length = xs.length - i := by rw [List.length_take]; omega
      refine ⟨rfl, tyes ?_⟩
      refine ⟨_, rfl, .inl ⟨rfl, _, .of h1⟩, l, _, xs[xs.length - i - 1], rfl, rfl, h1, by rw [el, List.getElem?_take]; rw [if_pos (by omega), List.getElem?_eq_getElem hlt], ?_⟩
      have k2 : Keep [l, D] H2 (upd H2 l (.lst (xs.take (xs.length - i)).dropLast)) := Keep.lst h1 (.inl (by simp)) (Keep.refl _ _)
      have h2' : upd H2 l (.lst (xs.take (xs.length - i)).dropLast) D = some (.lst (xs.drop (xs.length - i)).reverse) := by rw [upd_ne nlD.symm]; exact h2
      refine ⟨_, h2', by rw [List.length_reverse, List.length_drop]; omega, (Keep.lst h2' (.inl (by simp)) (k1.trans k2)), ?_, ?_⟩
      · rw [upd_ne nlD, upd_same, List.dropLast_eq_take, el, List.take_take]
        congr 3
        omega
      · rw [upd_same]
        have e1 : xs.length - (i + 1) = xs.length - i - 1 := by omega
        have e2 : xs.drop (xs.length - i - 1) = xs[xs.length - i - 1] :: xs.drop (xs.length - i - 1 + 1) := List.drop_eq_getElem_cons hlt
        have e3 : xs.length - i - 1 + 1 = xs.length - i := by omega
        rw [e1, e2, e3, List.reverse_cons]
    · have nlD : l ≠ D := ne_of_none hl nD
      refine ⟨_, rfl, D, _, rfl, .of h2, fun t nt => ?_⟩
      have k2 : Keep [l, D] H (upd H1 t (.lst (xs.drop (xs.length - m)).reverse.reverse)) := Keep.new nt k1
      have n0 : H t = none := by
        have e1 : t ≠ l := (ne_of_none h1 nt).symm
        have e2 : t ≠ D := (ne_of_none h2 nt).symm
        exact k1.none_of (by simp [e1, e2]) nt
      refine q t _ n0 ⟨fun b o hb e => ?_, k2.tup, k2.frz⟩ ?_ ?_
      · refine k2.at_ b o ?_ e
        have : b ≠ D := ne_of_none e nD
        simpa [this] using hb
      · rw [upd_ne (ne_of_none h1 nt)]
        exact h1
      · rw [upd_same, List.reverse_reverse]
end
end K46
/-! K46M2 -/
set_option maxHeartbeats 4000000
namespace K46
open PySem PySem.Spec PyProof.Rows L2 C8
/-! ## the maker, plain -/
def dot (k : Nat) : Str := Str.ofString "." ++ Str.ofString (toString ((k : Nat) : Int))
abbrev Due := Str × Nat × Tm
abbrev DS := List Due × Nat
mutual
def codeOf (Γ : List Nat) : Tm → DS → List Ins × DS
  | .at i, s => ([.loc (Γ.getD (Γ.length - 1 - i) 0)], s)
  | .clo fn b, s => (Γ.map .loc ++ [.close (dot (s.2 + 1)) Γ.length], (s.1 ++ [(dot (s.2 + 1), Γ.length + fn.toNat, b)], s.2 + 1))
  | .nd k ts, s => ((codesOf Γ ts s).1 ++ [.own k ts.length], (codesOf Γ ts s).2)
def codesOf (Γ : List Nat) : List Tm → DS → List Ins × DS
  | [], s => ([], s)
  | t :: ts, s => ((codeOf Γ t s).1 ++ (codesOf Γ ts (codeOf Γ t s).2).1, (codesOf Γ ts (codeOf Γ t s).2).2)
end
/-- what a stack of terms gives, the top first -/
def stk (Γ : List Nat) : List (Tm × Bool) → DS → List Ins × DS
  | [], s => ([], s)
  | (t, false) :: w, s => ((codeOf Γ t s).1 ++ (stk Γ w (codeOf Γ t s).2).1, (stk Γ w (codeOf Γ t s).2).2)
  | (.nd k ts, true) :: w, s => (.own k ts.length :: (stk Γ w s).1, (stk Γ w s).2)
  | (_, true) :: w, s => stk Γ w s
theorem stk_terms (Γ : List Nat) (w : List (Tm × Bool)) : ∀ (ts : List Tm) (s : DS), stk Γ (ts.map (·, false) ++ w) s = ((codesOf Γ ts s).1 ++ (stk Γ w (codesOf Γ ts s).2).1, (stk Γ w (codesOf Γ ts s).2).2)
  | [], s => by simp [codesOf]
  | t :: ts, s => by
    have := stk_terms Γ w ts (codeOf Γ t s).2
    simp only [List.map_cons, List.cons_append, stk, codesOf, this, List.append_assoc]
theorem stk_open (Γ : List Nat) (k : Nd) (ts : List Tm) (w : List (Tm × Bool)) (s : DS) : stk Γ ((.nd k ts, false) :: w) s = stk Γ (ts.map (·, false) ++ (.nd k ts, true) :: w) s := by
  rw [stk_terms]
  simp [stk, codeOf]
mutual
def nodes : Tm → Nat
  | .at _ => 1
  | .clo _ b => 1 + nodes b
  | .nd _ ts => 1 + nodesL ts
def nodesL : List Tm → Nat
  | [] => 0
  | t :: ts => nodes t + nodesL ts
end
def weight : List (Tm × Bool) → Nat
  | [] => 0
  | (t, false) :: w => 2 * nodes t + weight w
  | (_, true) :: w => 1 + weight w
theorem nodes_pos : ∀ t, 1 ≤ nodes t
  | .at _ => Nat.le_refl _
  | .clo _ _ => Nat.le_add_right _ _
  | .nd _ _ => Nat.le_add_right _ _
theorem weight_terms (w : List (Tm × Bool)) : ∀ ts : List Tm, weight (ts.map (·, false) ++ w) = 2 * nodesL ts + weight w
  | [] => by simp [nodesL]
  | t :: ts => by
    have := weight_terms w ts
    simp only [List.map_cons, List.cons_append, weight, nodesL, this]
    omega
/-! ### what must hold of a term, that its code be made: its names are around; how long what is made may be -/
mutual
def TmOk (n : Nat) : Tm → Prop
  | .at i => i < n
  | .clo fn b => TmOk (n + fn.toNat) b
  | .nd _ ts => TmsOk n ts
def TmsOk (n : Nat) : List Tm → Prop
  | [] => True
  | t :: ts => TmOk n t ∧ TmsOk n ts
end
theorem TmsOk.mem {n : Nat} : ∀ {ts : List Tm} {t : Tm}, TmsOk n ts → t ∈ ts → TmOk n t
  | [], _, _, h => by cases h
  | _ :: _, _, h, z => by
    rcases List.mem_cons.mp z with rfl | z
    · exact h.1
    · exact TmsOk.mem h.2 z
/-! ### patterns: the asks of rows, the places that are taken -/
mutual
def asksIn : Pat → Nat → Nat → Nat × List Nat × List (Nat × Str)
  | .take, place, known => (known, [place], [])
  | .pass, _, known => (known, [], [])
  | .shape n ps, place, known => ((asksL ps known (known + ps.length)).1, (asksL ps known (known + ps.length)).2.1, (place, n) :: (asksL ps known (known + ps.length)).2.2)
/-- of patterns in a row, from a place on -/
def asksL : List Pat → Nat → Nat → Nat × List Nat × List (Nat × Str)
  | [], _, known => (known, [], [])
  | p :: ps, place, known => ((asksL ps (place + 1) (asksIn p place known).1).1, (asksIn p place known).2.1 ++ (asksL ps (place + 1) (asksIn p place known).1).2.1, (asksIn p place known).2.2 ++ (asksL ps (place + 1) (asksIn p place known).1).2.2)
end
mutual
def pdeep : Pat → Nat
  | .shape _ ps => 1 + pdeepL ps
  | _ => 0
def pdeepL : List Pat → Nat
  | [] => 0
  | p :: ps => max (pdeep p) (pdeepL ps)
end
mutual
def pnodes : Pat → Nat
  | .shape _ ps => 1 + pnodesL ps
  | _ => 1
def pnodesL : List Pat → Nat
  | [] => 0
  | p :: ps => pnodes p + pnodesL ps
end
theorem pdeepL_mem : ∀ {ps : List Pat} {p : Pat}, p ∈ ps → pdeep p ≤ pdeepL ps
  | [], _, h => by cases h
  | q :: ps, p, h => by
    rcases List.mem_cons.mp h with rfl | h
    · exact Nat.le_max_left _ _
    · exact Nat.le_trans (pdeepL_mem h) (Nat.le_max_right _ _)
mutual
theorem asksIn_len : ∀ (p : Pat) (pl kn : Nat), (asksIn p pl kn).2.1.length ≤ pnodes p ∧ (asksIn p pl kn).2.2.length ≤ pnodes p
  | .take, _, _ => ⟨Nat.le_refl _, Nat.zero_le _⟩
  | .pass, _, _ => ⟨Nat.zero_le _, Nat.zero_le _⟩
  | .shape n ps, pl, kn => by
    have := asksL_len ps kn (kn + ps.length)
    simp only [asksIn, pnodes, List.length_cons]
    omega
theorem asksL_len : ∀ (ps : List Pat) (pl kn : Nat), (asksL ps pl kn).2.1.length ≤ pnodesL ps ∧ (asksL ps pl kn).2.2.length ≤ pnodesL ps
  | [], _, _ => ⟨Nat.le_refl _, Nat.le_refl _⟩
  | p :: ps, pl, kn => by
    have h1 := asksIn_len p pl kn
    have h2 := asksL_len ps (pl + 1) (asksIn p pl kn).1
    simp only [asksL, pnodesL, List.length_append]
    omega
end
theorem asksL_snoc : ∀ (ps : List Pat) (p : Pat) (pl kn : Nat), asksL (ps ++ [p]) pl kn = ((asksIn p (pl + ps.length) (asksL ps pl kn).1).1, (asksL ps pl kn).2.1 ++ (asksIn p (pl + ps.length) (asksL ps pl kn).1).2.1, (asksL ps pl kn).2.2 ++ (asksIn p (pl + ps.length) (asksL ps pl kn).1).2.2)
  | [], p, pl, kn => by simp [asksL]
  | q :: ps, p, pl, kn => by
    have := asksL_snoc ps p (pl + 1) (asksIn q pl kn).1
    simp only [List.cons_append, asksL, this, List.append_assoc, List.length_cons]
    have e : pl + 1 + ps.length = pl + (ps.length + 1) := by omega
    simp only [e]
theorem pnodesL_append : ∀ ps qs : List Pat, pnodesL (ps ++ qs) = pnodesL ps + pnodesL qs
  | [], qs => by simp [pnodesL]
  | p :: ps, qs => by
    have := pnodesL_append ps qs
    simp only [List.cons_append, pnodesL, this]
    omega
theorem take_snoc {α : Type} {l : List α} {i : Nat} {x : α} (h : l[i]? = some x) : l.take (i + 1) = l.take i ++ [x] := by
  rw [List.take_add_one, h]
  rfl
theorem pnodesL_take {ps : List Pat} {i : Nat} {p : Pat} (h : ps[i]? = some p) : pnodesL (ps.take i) + pnodes p ≤ pnodesL ps := by
  have e : ps = ps.take (i + 1) ++ ps.drop (i + 1) := (List.take_append_drop _ _).symm
  have e2 := congrArg pnodesL e
  rw [pnodesL_append, take_snoc h, pnodesL_append] at e2
  simp only [pnodesL] at e2
  omega
end K46
/-! K46R10 -/
set_option maxHeartbeats 4000000
/-! ### enumerate of a tuple; zip of a tuple and a list -/
namespace PySem
open Sem (wp)
set_option maxHeartbeats 1000000 in
theorem meets_enumerate_new1 {v : Value} {o : Obj} {H : Heap → Prop} (B : Begins v o H) :
    Meets (Builtin.«enumerate.__new__» ⟨[.type "enumerate", v], []⟩) (fun _ R s => H s.heap ∧
      R (.ok (.ret (.ref (s.heap.push o).objs.size))) { s with heap := (s.heap.push o).push { cls := .type "enumerate", data := .fields #[.none, .bool false, .ref s.heap.objs.size, rawInt 0, .none, .none] } }) :=
  .of_wp fun prog w A R s h => by
    obtain ⟨hp, g, d, tk, os⟩ := s
    obtain ⟨h1, h⟩ := h
    have hsub := sub_enumerate
    have q1 : ∀ {A' : Around} {E : Value → Shared → Prop} {Q : Value → Shared → Prop}, Q (.ref hp.objs.size) ⟨hp.push o, g, d, tk, os⟩ → wpAny (model prog w) A' (pyIter v) Q E ⟨hp, g, d, tk, os⟩ :=
      fun q => B.iter prog w _ _ ⟨hp, g, d, tk, os⟩ _ h1 q
    wp_walk
    refine wpAny_stack_any fun st => wpAny_pure ?_
    split
    · rename_i c _ _ _ _ _
      cases (c == Value.type "enumerate")
      · wp_walk using q1
        exact ⟨_, rfl, h⟩
      · wp_walk using q1
        exact ⟨_, rfl, h⟩
    · wp_walk using q1
      exact ⟨_, rfl, h⟩
theorem call_enum1 {prog : Program} {w : World} {A : Around} {E : Value → Shared → Prop} {s : Shared} {v : Value} {o : Obj} {H : Heap → Prop} {Q : Value → Shared → Prop} (B : Begins v o H) (h1 : H s.heap)
    (h : ∀ h', IsEnum h' (s.heap.objs.size + 1) s.heap.objs.size 0 .none → h'.get? s.heap.objs.size = some o → (∀ b o, s.heap.get? b = some o → h'.get? b = some o) → Q (.ref (s.heap.objs.size + 1)) { s with heap := h' }) :
    wpAny (model prog w) A (call (.type "enumerate") [v]) Q E s := by
  refine callType_new F.called_enumerate (by decide) (F.typeCall_enumerate_1 _) (F.newCall_enumerate_1 _) (fun obj => F.args_object_init_2 obj _) F.entry_enumerate_new (meets_enumerate_new1 B) ⟨h1, ?_⟩
  have hz : (s.heap.push o).objs.size = s.heap.objs.size + 1 := Heap.size_push ..
  have he := Heap.get?_push_size (s.heap.push o) (o := { cls := .type "enumerate", data := .fields #[.none, .bool false, .ref s.heap.objs.size, rawInt 0, .none, .none] }) rfl
  show _ ∧ _
  rw [hz] at he ⊢
  exact ⟨⟨_, he, rfl⟩, h _ he (Heap.get?_push_of_some _ (Heap.get?_push_size _ B.free)) fun b o x => Heap.get?_push_of_some _ (Heap.get?_push_of_some _ x)⟩
end PySem
namespace K46
open PySem PySem.Spec PyProof.Rows L2
def IteT (K : PySem.W.Frag) (a : Addr) : It :=
  ⟨fun i H => ∃ (xs : List V) (x : V), SqT K H a xs ∧ xs[i]? = some x, fun i H v H' => ∃ T x, v = .ref T ∧ H T = none ∧ H' = upd H T (.tup [.int (i : Nat), x]) ∧ ∀ xs, SqT K H a xs → xs[i]? = some x, fun i H => ∃ xs : List V, SqT K H a xs ∧ xs.length = i⟩
theorem turn_enumT {P : Program} {w : World} {K : PySem.W.Frag} {elts : List Expr} {kk : Nat} {tpos : Pos} (a e it : Addr) :
    Turn P w K (.Tuple elts kk tpos) (IteT K a) [e, it] e (fun i h => (∃ old, IsEnum h e it ((i : Nat) : Int) old) ∧ h.IsTupleIter it a i ∧ e ≠ it ∧ e ≠ a ∧ a ≠ it) where
  mem := by simp
  obj := fun i h st b hb => by
    obtain ⟨⟨old, he⟩, ⟨o, ho, hc, hd⟩, _⟩ := st
    rcases (by simpa using hb : b = e ∨ b = it) with z | z
    · rw [z]; exact ⟨_, he, fun v q => nomatch q⟩
    · exact ⟨o, z ▸ ho, fun v q => by rw [hd] at q; cases q⟩
  keep := fun i h h' st k => by
    obtain ⟨⟨old, he⟩, hi, hne⟩ := st
    exact ⟨⟨old, k e (by simp) _ he⟩, hi.at fun o q => k it (by simp) o q, hne⟩
  item := by
    intro X hP hw hK hc i pins s σ H E I hf st hg
    obtain ⟨⟨old, he⟩, hit, hne, hea, hai⟩ := st
    obtain ⟨xs, x, hq, hx⟩ := hg
    subst hP hw hK
    obtain ⟨its, rv, p, hz⟩ := I.tuple hq
    obtain ⟨u, hu, ru⟩ := rv.get hx
    have hu' : its.toArray[i]? = some u := by simpa using hu
    have hel : e < s.heap.objs.size := Heap.lt_size he
    have hil : it < s.heap.objs.size := by obtain ⟨_, q, _⟩ := hit; exact Heap.lt_size q
    have hlt : i < its.toArray.size := (Array.getElem?_eq_some_iff.mp hu').1
    refine wpAny_pyNext_enum_itemD (Draws.tuple (A := X.A.in1) (I.ok.hd hc) it a hai its.toArray) he ⟨hit, show s.heap.IsTuple a its.toArray from p⟩ hlt hne (by simp [hne, hea]) fun y h' tk hy ho hst hT hsz hk => ?_
    have ey : y = u := Option.some.inj (hy.symm.trans hu')
    subst ey
    refine ⟨_, rfl, wpAny_letOwnedTupleGo_enum (s := { s with heap := h', toks := tk + 1 }) ho fun h'' he' sb => ?_⟩
    have hT2 := (sb.2 _ (Nat.ne_of_gt hel)).trans hT
    have new : ObjOk X.prog X.w (upd H s.heap.objs.size (.tup [.int (i : Nat), x])) h'' s.heap.objs.size (.tup [.int (i : Nat), x]) :=
      ⟨by show 2 ≤ sizeLine; decide, [.int i tk, y], .cons ⟨_, rfl⟩ (.cons ru .nil), ⟨_, hT2, rfl, _, rfl⟩⟩
    have I1 : Inv X pins σ (upd H s.heap.objs.size (.tup [.int (i : Nat), x])) { s with heap := h'', toks := tk + 1 } :=
      I.turnedNew (ch := [e, it]) (fun b ob hb q => (sb.2 b (fun z => hb (by simp [z]))).trans (hk b ob (fun z => hb (by simp [z])) (fun z => hb (by simp [z])) q)) hf (Nat.le_refl _) new
    refine ⟨.ref s.heap.objs.size, _, I1, rfl, ⟨_, x, rfl, I.hok.fresh (Nat.le_refl _), rfl, fun ys hy => by rw [I.tuple_inj hy hq]; exact hx⟩, ⟨⟨y, ?_⟩, hst.1.at fun o q => (sb.2 it (Ne.symm hne)).trans q, hne, hea, hai⟩, fun b hb => ?_⟩
    · rw [show ((i + 1 : Nat) : Int) = (i : Int) + 1 by omega]
      exact he'
    · have hb' : b < s.heap.objs.size := by
        rcases (by simpa using hb : b = e ∨ b = it) with z | z
        · rw [z]; exact hel
        · rw [z]; exact hil
      rw [upd_ne (Nat.ne_of_lt hb')]
      exact (hf b hb).1
  done := by
    intro X hP hw hK hc i pins s σ H E I hf st hg
    obtain ⟨⟨old, he⟩, hit, hne, hea, hai⟩ := st
    obtain ⟨xs, hq, hx⟩ := hg
    subst hP hw hK
    obtain ⟨its, rv, p, hz⟩ := I.tuple hq
    have hl := rv.length
    obtain ⟨f0, f1, f2, f3, f4, f5⟩ := hf it (by simp)
    have hsz : i = its.toArray.size := by simp; omega
    have D := Draws.tuple (prog := X.prog) (w := X.w) (A := X.A.in1) (I.ok.hd hc) it a hai its.toArray
    rw [hsz] at hit
    exact wpAny_pyNext_enum_endD D he ⟨hit, show s.heap.IsTuple a its.toArray from p⟩ fun h' eb => ⟨rfl, I.turned (t' := s.toks) (fun b o hb q => eb b o hb q) f0 f1 f3 f4 f5⟩
  self := fun A i s Q E st h => let ⟨⟨_, he⟩, _⟩ := st; wpAny_pyIter_enum he h
def iEnumT (K : PySem.W.Frag) (ta : TA) : TI := fun σ H R => ta σ H fun vs H1 => ∃ a xs, vs = [.ref a] ∧ SqT K H1 a xs ∧ R (IteT K a) H1
theorem pi_enumT {X : Cx} {e : Expr} {ta : TA} {p pos tpos : Pos} {elts : List Expr} {kk : Nat} (hg : Gl X "enumerate") (hm : X.mg "enumerate" = none) (ha : PA X [e] ta) (hs : starEach [e] X.env = [(false, eval e X.env)] := by rfl) :
    PI X (.Tuple elts kk tpos) (.Call (.Name "enumerate" p) [e] [] pos) (iEnumT X.K ta) := by
  refine ⟨fun pins s σ H R I h => Call_ (ld_blt I hg hm boot_enumerate (PyProof.Rows.callWith_type1 (thn (ha.run pos pins s σ H _ I h) fun us s1 ⟨vs, H1, I1, r1, a, xs, ex, hq, q⟩ => ?_) hs rfl))⟩
  subst ex
  obtain ⟨u, rfl, ru⟩ := vals1 r1
  obtain rfl : u = Value.ref a := ru
  obtain ⟨its, rv, p', hz⟩ := I1.tuple hq
  refine call_enum1 (begins_tuple a its.toArray) p' fun h' he hit hk => wpAny_pyIter_enum he ?_
  have I2 : Inv X pins σ H1 { s1 with heap := h' } := I1.kept (t' := s1.toks) hk
  have hal : a < s1.heap.objs.size := by obtain ⟨_, z, _⟩ := p'; exact Heap.lt_size z
  refine ⟨s1.heap.objs.size + 1, [s1.heap.objs.size + 1, s1.heap.objs.size], _, _, H1, rfl, I2, turn_enumT a (s1.heap.objs.size + 1) s1.heap.objs.size, ⟨⟨.none, he⟩, ⟨_, hit, rfl, rfl⟩, Nat.succ_ne_self _, Nat.ne_of_gt (Nat.lt_succ_of_lt hal), Nat.ne_of_lt hal⟩, fun b hb => ?_, q⟩
  have hle : s1.heap.objs.size ≤ b := by
    rcases (by simpa using hb : b = s1.heap.objs.size + 1 ∨ b = s1.heap.objs.size) with z | z
    · rw [z]; exact Nat.le_add_right _ _
    · rw [z]; exact Nat.le_refl _
  exact I1.fpOk hle (I1.hok.fresh hle)
theorem walk_enumT {K : PySem.W.Frag} {a : Addr} {xs : List V} : Walk (IteT K a) xs.length (fun H => SqT K H a xs) (YPair (fun i => some (.int (i : Nat))) (fun i => xs[i]?)) := by
  refine ⟨fun i _ hi q => ⟨xs, xs[i], q, by simp [hi]⟩, fun _ q => ⟨xs, q, rfl⟩, fun i H v H' _ q y => ?_⟩
  obtain ⟨T, x, h1, h2, h3, h4⟩ := y
  exact ⟨T, .int (i : Nat), x, h1, h2, h3, rfl, h4 xs q⟩
/-! zip of a tuple and a list -/
def ItzM (K : PySem.W.Frag) (a b : Addr) : It :=
  ⟨fun i H => ∃ (xs ys : List V) (x y : V), SqT K H a xs ∧ SqL K H b ys ∧ xs[i]? = some x ∧ ys[i]? = some y,
    fun i H v H' => ∃ T x y, v = .ref T ∧ H T = none ∧ H' = upd H T (.tup [x, y]) ∧ (∀ xs, SqT K H a xs → xs[i]? = some x) ∧ ∀ ys, SqL K H b ys → ys[i]? = some y,
    fun i H => ∃ xs ys : List V, SqT K H a xs ∧ SqL K H b ys ∧ i = min xs.length ys.length⟩
theorem sepM {z TI TO i1 i2 a b : Addr} (D : ZipApart z TI TO i1 i2 a b) : ZipSep2 z TI TO i1 i2 [i1, a] [i2, b] := by
  refine { TIz := D.TIz, TOz := D.TOz, TITO := D.TITO, TIi1 := D.TIi1, mem1 := by simp, zf1 := ?_, Tf1 := ?_, TIi2 := D.TIi2, mem2 := by simp, zf2 := ?_, Tf2 := ?_, sep1_2 := ?_, sep2_1 := ?_ } <;>
    simp only [List.mem_cons, List.not_mem_nil, or_false, not_or]
  · exact ⟨Ne.symm D.i1z, Ne.symm D.l1z⟩
  · exact ⟨D.TOi1, Ne.symm D.l1TO⟩
  · exact ⟨Ne.symm D.i2z, Ne.symm D.l2z⟩
  · exact ⟨D.TOi2, Ne.symm D.l2TO⟩
  · exact ⟨D.i12, Ne.symm D.l2i1⟩
  · exact ⟨Ne.symm D.i12, Ne.symm D.l1i2⟩
theorem turn_zipM {P : Program} {w : World} {K : PySem.W.Frag} {elts : List Expr} {kk : Nat} {tpos : Pos} {a b z TI TO i1 i2 : Addr} (D : ZipApart z TI TO i1 i2 a b) :
    Turn P w K (.Tuple elts kk tpos) (ItzM K a b) [z, TI, TO, i1, i2] z (fun i h => IsZip h z TI TO .none ∧ IsTupOf2 h TI (.ref i1) (.ref i2) ∧ (∃ x y, IsTupOf2 h TO x y) ∧ h.IsTupleIter i1 a i ∧ h.IsListIter i2 b i) where
  mem := by simp
  obj := fun i h st c hc => by
    obtain ⟨hz, hTI, ⟨x, y, hTO⟩, ⟨o1, e1, _, d1⟩, ⟨o2, e2, _, d2⟩⟩ := st
    rcases (by simpa using hc : c = z ∨ c = TI ∨ c = TO ∨ c = i1 ∨ c = i2) with q | q | q | q | q
    · rw [q]; exact ⟨_, hz, fun v q => nomatch q⟩
    · rw [q]; exact ⟨_, hTI, fun v q => nomatch q⟩
    · rw [q]; exact ⟨_, hTO, fun v q => nomatch q⟩
    · exact ⟨o1, q ▸ e1, fun v q => by rw [d1] at q; cases q⟩
    · exact ⟨o2, q ▸ e2, fun v q => by rw [d2] at q; cases q⟩
  keep := fun i h h' st k => by
    obtain ⟨hz, hTI, ⟨x, y, hTO⟩, h1, h2⟩ := st
    exact ⟨k z (by simp) _ hz, k TI (by simp) _ hTI, ⟨x, y, k TO (by simp) _ hTO⟩, h1.at fun o q => k i1 (by simp) o q, h2.at fun o q => k i2 (by simp) o q⟩
  item := by
    intro X hP hw hK hc i pins s σ H E I hf st hg
    obtain ⟨hz, hTI, hTO, h1, h2⟩ := st
    obtain ⟨xs, ys, x, y, hqx, hqy, hx, hy⟩ := hg
    subst hP hw hK
    obtain ⟨its, rv, p, _⟩ := I.tuple hqx
    obtain ⟨its2, rv2, p2, _⟩ := I.list hqy
    obtain ⟨u, hu, ru⟩ := rv.get hx
    obtain ⟨u2, hu2, ru2⟩ := rv2.get hy
    have hu' : its.toArray[i]? = some u := by simpa using hu
    have hu2' : its2.toArray[i]? = some u2 := by simpa using hu2
    have hlt1 : i < its.toArray.size := (Array.getElem?_eq_some_iff.mp hu').1
    have hlt2 : i < its2.toArray.size := (Array.getElem?_eq_some_iff.mp hu2').1
    have S := sepM D
    have ea : a ≠ i1 := D.l1i1
    have eb : b ≠ i2 := D.l2i2
    have W := WalksT.zipD2 (A := X.A) S (Draws.tuple (prog := X.prog) (w := X.w) (A := X.A.in1) (I.ok.hd hc) i1 a ea its.toArray) (Draws.list (A := X.A.in1) (I.ok.hd hc) i2 b eb its2.toArray)
    refine W.item i s _ _ (by omega) ⟨hz, hTI, hTO, ⟨h1, show s.heap.IsTuple a its.toArray from p⟩, h2, p2.isList⟩ fun T vals h' tk ⟨x1, x2, y1, y2, ev⟩ hTs hT mid hk => ?_
    have e1 : x1 = u := Option.some.inj (y1.symm.trans hu')
    have e2 : x2 = u2 := Option.some.inj (y2.symm.trans hu2')
    subst e1 e2 ev
    refine ⟨_, rfl, W.go elts kk tpos i T { s with heap := h', toks := tk } _ _ mid fun h'' ⟨z1, z2, z3, z4, z5⟩ hk2 => ?_⟩
    obtain ⟨oT, hoT, hcT, nT, hdT⟩ := hT
    have hT2 := hk2 T oT (W.apart i T h' mid) hoT
    have sub : ∀ c, c ∈ [z, TO, i1, i2] → c ∈ [z, TI, TO, i1, i2] := fun c hc => by
      rcases (by simpa using hc : c = z ∨ c = TO ∨ c = i1 ∨ c = i2) with q | q | q | q <;> simp [q]
    have new : ObjOk X.prog X.w (upd H T (.tup [x, y])) h'' T (.tup [x, y]) := ⟨by show 2 ≤ sizeLine; decide, [x1, x2], .cons ru (.cons ru2 .nil), oT, hT2, hcT, nT, hdT⟩
    have I1 : Inv X pins σ (upd H T (.tup [x, y])) { s with heap := h'', toks := tk } :=
      I.turnedNew (ch := [z, TI, TO, i1, i2]) (fun c o hb q => hk2 c o (fun m => hb (sub c m)) (hk c o (fun m => hb (sub c m)) q)) hf hTs new
    refine ⟨.ref T, _, I1, rfl, ⟨T, x, y, rfl, I.hok.fresh hTs, rfl, fun l hl => by rw [I.tuple_inj hl hqx]; exact hx, fun l hl => by rw [I.list_inj hl hqy]; exact hy⟩, ⟨z1, z2, z3, z4.1, z5.1⟩, fun c hcm => ?_⟩
    have hlt : c < s.heap.objs.size := by
      obtain ⟨_, _, hTO⟩ := hTO
      rcases (by simpa using hcm : c = z ∨ c = TI ∨ c = TO ∨ c = i1 ∨ c = i2) with q | q | q | q | q
      · exact q ▸ Heap.lt_size hz
      · exact q ▸ Heap.lt_size hTI
      · exact q ▸ Heap.lt_size hTO
      · obtain ⟨_, e1, _⟩ := h1; exact q ▸ Heap.lt_size e1
      · obtain ⟨_, e2, _⟩ := h2; exact q ▸ Heap.lt_size e2
    rw [upd_ne (Nat.ne_of_lt (Nat.lt_of_lt_of_le hlt hTs))]
    exact (hf c hcm).1
  done := by
    intro X hP hw hK hc i pins s σ H E I hf st hg
    obtain ⟨hz, hTI, hTO, h1, h2⟩ := st
    obtain ⟨xs, ys, hqx, hqy, hend⟩ := hg
    subst hP hw hK
    obtain ⟨its, rv, p, _⟩ := I.tuple hqx
    obtain ⟨its2, rv2, p2, _⟩ := I.list hqy
    have l1 := rv.length
    have l2 := rv2.length
    have S := sepM D
    have ea : a ≠ i1 := D.l1i1
    have eb : b ≠ i2 := D.l2i2
    have W := WalksT.zipD2 (A := X.A) S (Draws.tuple (prog := X.prog) (w := X.w) (A := X.A.in1) (I.ok.hd hc) i1 a ea its.toArray) (Draws.list (A := X.A.in1) (I.ok.hd hc) i2 b eb its2.toArray)
    have hn : i = min its.toArray.size its2.toArray.size := by rw [hend, l1, l2]; simp
    have st : IsZip s.heap z TI TO .none ∧ IsTupOf2 s.heap TI (.ref i1) (.ref i2) ∧ (∃ a1 a2, IsTupOf2 s.heap TO a1 a2) ∧ (s.heap.IsTupleIter i1 a i ∧ s.heap.IsTuple a its.toArray) ∧ (s.heap.IsListIter i2 b i ∧ s.heap.IsList b its2.toArray) := ⟨hz, hTI, hTO, ⟨h1, p⟩, h2, p2.isList⟩
    rw [hn] at st
    have sub : ∀ c, c ∈ [z, TO, i1, i2] → c ∈ [z, TI, TO, i1, i2] := fun c hc => by
      rcases (by simpa using hc : c = z ∨ c = TO ∨ c = i1 ∨ c = i2) with q | q | q | q <;> simp [q]
    exact W.done s _ _ st fun h' tk hk => ⟨rfl, I.turnedL (t' := tk) (ch := [z, TI, TO, i1, i2]) (fun c o hb q => hk c o (fun m => hb (sub c m)) q) hf⟩
  self := fun A i s Q E st h => wpAny_pyIter_zip st.1 h
def iZipM (K : PySem.W.Frag) (ta : TA) : TI := fun σ H R => ta σ H fun vs H1 => ∃ a b xs ys, vs = [.ref a, .ref b] ∧ SqT K H1 a xs ∧ SqL K H1 b ys ∧ R (ItzM K a b) H1
theorem pi_zipM {X : Cx} {e e2 : Expr} {ta : TA} {p pos tpos : Pos} {elts : List Expr} {kk : Nat} (hg : Gl X "zip") (hm : X.mg "zip" = none) (ha : PA X [e, e2] ta)
    (hs : starEach [e, e2] X.env = (false, eval e X.env) :: starEach [e2] X.env := by rfl) (hpl : (backTo pos (starEach [e2] X.env)).any (·.1) = false := by rfl) :
    PI X (.Tuple elts kk tpos) (.Call (.Name "zip" p) [e, e2] [] pos) (iZipM X.K ta) := by
  refine ⟨fun pins s σ H R I h => Call_ (ld_blt I hg hm PyProof.Rows.boot_zip (PyProof.Rows.callWith_type1 (thn (ha.run pos pins s σ H _ I h) fun us s1 ⟨vs, H1, I1, r1, a, b, xs, ys, ex, hqx, hqy, q⟩ => ?_) hs hpl))⟩
  subst ex
  obtain ⟨u1, u2, rfl, ru1, ru2⟩ := vals2 r1
  obtain rfl : u1 = Value.ref a := ru1
  obtain rfl : u2 = Value.ref b := ru2
  obtain ⟨its, rv, p1, _⟩ := I1.tuple hqx
  obtain ⟨its2, rv2, p2, _⟩ := I1.list hqy
  have la : a < s1.heap.objs.size := by obtain ⟨_, z, _⟩ := p1; exact Heap.lt_size z
  have lb : b < s1.heap.objs.size := p2.lt
  refine zip_begins2 (begins_tuple a its.toArray) (begins_list b its2.toArray) p1 p2.isList fun h' hz hTI hTO h1 h2 hsz hk => wpAny_pyIter_zip hz ?_
  have I2 : Inv X pins σ H1 { s1 with heap := h' } := I1.kept (t' := s1.toks) hk
  have D := PySem.W.ktu_apart s1.heap.objs.size a b la lb
  refine ⟨s1.heap.objs.size + 4, [s1.heap.objs.size + 4, s1.heap.objs.size + 2, s1.heap.objs.size + 3, s1.heap.objs.size, s1.heap.objs.size + 1], _, _, H1, rfl, I2, turn_zipM D, ⟨hz, hTI, ⟨_, _, hTO⟩, ⟨_, h1, rfl, rfl⟩, ⟨_, h2, rfl, rfl⟩⟩, fun c hcm => ?_, q⟩
  have hle : s1.heap.objs.size ≤ c := by
    rcases (by simpa using hcm : c = s1.heap.objs.size + 4 ∨ c = s1.heap.objs.size + 2 ∨ c = s1.heap.objs.size + 3 ∨ c = s1.heap.objs.size ∨ c = s1.heap.objs.size + 1) with z | z | z | z | z
    · rw [z]; exact Nat.le_add_right _ _
    · rw [z]; exact Nat.le_add_right _ _
    · rw [z]; exact Nat.le_add_right _ _
    · rw [z]; exact Nat.le_refl _
    · rw [z]; exact Nat.le_add_right _ _
  exact I1.fpOk hle (I1.hok.fresh hle)
theorem walk_zipM {K : PySem.W.Frag} {a b : Addr} {xs ys : List V} {n : Nat} (hn : n = min xs.length ys.length) : Walk (ItzM K a b) n (fun H => SqT K H a xs ∧ SqL K H b ys) (YPair (fun i => xs[i]?) (fun i => ys[i]?)) := by
  subst hn
  refine ⟨fun i _ hi q => ?_, fun _ q => ⟨xs, ys, q.1, q.2, rfl⟩, fun i H v H' _ q y => ?_⟩
  · have h1 : i < xs.length := by omega
    have h2 : i < ys.length := by omega
    exact ⟨xs, ys, xs[i], ys[i], q.1, q.2, by simp [h1], by simp [h2]⟩
  · obtain ⟨T, x, z, h1, h2, h3, h4, h5⟩ := y
    exact ⟨T, x, z, h1, h2, h3, h4 xs q.1, h5 ys q.2⟩
end K46
/-! K46G1 -/
set_option maxHeartbeats 4000000
namespace K46
open PySem PySem.Spec PyProof.Rows L2 C8
section
variable {P : Program} {w : World} {K : PySem.W.Frag} {mg : Str → Option Value} {base : Heap}
def sp_bare_parts (K : PySem.W.Frag) : Sp := fun vs H Q _ => ∃ (v : V) (k : Nd) (ts : List Tm), vs = [v] ∧ At K H v (encT (.nd k ts)) ∧ ∀ a H', Keep [] H H' → At K H' (.ref a) (.tup (encTs ts)) → Q (.ref a) H'
theorem nd_cut (k : Nd) (ts : List Tm) : (∃ (n w0 : Str), encT (.nd k ts) = .tup [.str w0, .str n, .tup (encTs ts)] ∧ encI (.own k ts.length) = .tup [.str w0, .str n, .int (ts.length : Int)] ∧ (w0 = "shape" ∨ w0 = "call")) ∨
    (∃ (w0 : Str), encT (.nd k ts) = .tup (.str w0 :: encTs ts) ∧ encI (.own k ts.length) = .tup [.str w0] ∧ (w0 = "give" ∨ w0 = "go" ∨ w0 = "dull")) := by
  cases k with
  | shape n => exact .inl ⟨n, _, rfl, rfl, .inl rfl⟩
  | call n => exact .inl ⟨n, _, rfl, rfl, .inr rfl⟩
  | give => exact .inr ⟨_, rfl, rfl, .inl rfl⟩
  | go => exact .inr ⟨_, rfl, rfl, .inr (.inl rfl)⟩
  | dull => exact .inr ⟨_, rfl, rfl, .inr (.inr rfl)⟩
theorem cut1 (xs : List V) (x : V) : cutV (x :: xs) (some 1) none = xs := cut_from (x :: xs) 1 (by simp)
theorem AtL.cons' {K : PySem.W.Frag} {H : Hp} {xs : List V} {d : D} {ds : List D} (h : AtL K H xs (d :: ds)) : ∃ y ys, xs = y :: ys ∧ At K H y d ∧ AtL K H ys ds := by
  cases h with
  | cons a b => exact ⟨_, _, rfl, a, b⟩
theorem sl_1 {K : PySem.W.Frag} {H : Hp} {a : Addr} {x : V} {xs : List V} {Q : VK} (hq : SqT K H a (x :: xs)) (q : ∀ p, H p = none → Q (.ref p) (upd H p (.tup xs))) : rSlA K (.ref a) (some 1) none H Q := by
  refine ⟨a, _, rfl, hq, fun z => ?_, fun _ p np => ?_⟩
  · have : HT.sIx (xs.length + 1) 0 (some 1) = 1 := by
      unfold HT.sIx
      have h0 : ¬ ((1 : Int) < 0) := by decide
      simp only [h0, if_false]
      show min 1 (xs.length + 1) = 1
      omega
    rw [List.length_cons, this] at z
    cases z.1
  · rw [cut1]
    exact q p np
theorem ok_bare_parts (T : Tx K mg) : Cal P w K mg base 1 "bare_parts" (sp_bare_parts K) [] := by
  refine cal_mk T.f_bare_parts T.g_bare_parts sc_bare_parts (fun _ _ _ _ _ _ us hl => match us, hl with | [_], _ => rfl) (fun vs H Q E h => ?_) (fun cdv A outer s H vs Q E hr h => ?_)
  · obtain ⟨v, k, ts, rfl, _⟩ := h
    rfl
  · obtain ⟨v, k, ts, rfl, hv, q⟩ := h
    refine ⟨_, (pss_cons (ps_if (pt_cmpR op_in_seq (pe_ix ix_tup (pv 0) pe_int (fun _ _ => rfl)) (pe_tup (pa_cons pe_str (pa_cons pe_str pa_nil))) (by rfl)) (pss_one (ps_ret (pe_ix ix_tup (pv 0) pe_int (fun _ _ => rfl)))) pss_nil)
      (pss_one (ps_ret (pe_ifExp (pt_cmpR op_eq (pe_ix ix_tup (pv 0) pe_int (fun _ _ => rfl)) pe_str (nomark _)) (pe_tup pa_nil) (pe_slice sl_tupA (pv 0) (po_some pe_int) po_none))))), ?_⟩
    rcases nd_cut k ts with ⟨n, w0, e, ei, hw⟩ | ⟨w0, e, ei, hw⟩
    ·
      rw [e] at hv
      obtain ⟨a, x, y, z, rfl, hq, h1, h2, h3⟩ := hv.t3
      obtain rfl := h1.s
      obtain ⟨b, ys, rfl, _⟩ := id h3.t
      refine ⟨_, rfl, a, _, 0, .str w0, rfl, rfl, hq, atI_nat (j := 0) rfl, by decide, ?_⟩
      intro p np
      refine ⟨p, _, rfl, .inr (.of upd_same), by rfl, by rfl, _, rfl, ift (by rcases hw with rfl | rfl <;> decide +kernel) ?_⟩
      have k1 := Keep.new (o := .tup [.str "shape", .str "call"]) np (Keep.refl [] _)
      exact ⟨_, rfl, a, _, 2, _, rfl, rfl, k1.sqT hq, atI_nat (j := 2) rfl, q _ _ k1 (h3.keep k1)⟩
    ·
      rw [e] at hv
      obtain ⟨a, xs, rfl, hq, hxs⟩ := hv.t
      obtain ⟨y, ys, rfl, h1, h2⟩ := hxs.cons'
      obtain rfl := h1.s
      refine ⟨_, rfl, a, _, 0, .str w0, rfl, rfl, hq, atI_nat (j := 0) rfl, by decide, ?_⟩
      intro p np
      refine ⟨p, _, rfl, .inr (.of upd_same), by rfl, by rfl, _, rfl, iff' (by rcases hw with rfl | rfl | rfl <;> decide +kernel) ?_⟩
      have k1 := Keep.new (o := .tup [.str "shape", .str "call"]) np (Keep.refl [] _)
      refine ⟨_, rfl, a, _, 0, .str w0, rfl, rfl, k1.sqT hq, atI_nat (j := 0) rfl, rfl, _, rfl, iff' (by rcases hw with rfl | rfl | rfl <;> decide +kernel) ?_⟩
      refine ⟨_, rfl, _, rfl, sl_1 (k1.sqT hq) fun t nt => ?_⟩
      exact q _ _ (Keep.new nt k1) (At.new upd_same (h2.keep (Keep.new nt k1)))
def sp_own_row (K : PySem.W.Frag) : Sp := fun vs H Q _ => ∃ (v : V) (k : Nd) (ts : List Tm), vs = [v] ∧ At K H v (encT (.nd k ts)) ∧ ∀ a H', Keep [] H H' → At K H' (.ref a) (encI (.own k ts.length)) → Q (.ref a) H'
theorem sl_0 {K : PySem.W.Frag} {H : Hp} {a : Addr} {x : V} {xs : List V} {Q : VK} (hq : SqT K H a (x :: xs)) (q0 : xs = [] → Q (.ref a) H) (q : ∀ p, H p = none → Q (.ref p) (upd H p (.tup [x]))) : rSlA K (.ref a) none (some 1) H Q := by
  have e : HT.sIx (xs.length + 1) (xs.length + 1) (some 1) = 1 := by
    unfold HT.sIx
    have h0 : ¬ ((1 : Int) < 0) := by decide
    simp only [h0, if_false]
    show min 1 (xs.length + 1) = 1
    omega
  refine ⟨a, _, rfl, hq, fun z => q0 ?_, fun _ p np => ?_⟩
  · rw [List.length_cons, e] at z
    exact List.eq_nil_of_length_eq_zero (by omega)
  · have : cutV (x :: xs) none (some 1) = [x] := by
      unfold cutV
      rw [List.length_cons, e]
      have : HT.sIx (xs.length + 1) 0 none = 0 := rfl
      rw [this]
      rfl
    rw [this]
    exact q p np
theorem ok_own_row (T : Tx K mg) : Cal P w K mg base 1 "own_row" (sp_own_row K) [] := by
  refine cal_mk T.f_own_row T.g_own_row sc_own_row (fun _ _ _ _ _ _ us hl => match us, hl with | [_], _ => rfl) (fun vs H Q E h => ?_) (fun cdv A outer s H vs Q E hr h => ?_)
  · obtain ⟨v, k, ts, rfl, _⟩ := h
    rfl
  · obtain ⟨v, k, ts, rfl, hv, q⟩ := h
    obtain ⟨tSHk, kSHk⟩ := T.k_SHAPE_making
    obtain ⟨tCALL, kCALL⟩ := T.k_CALL
    refine ⟨_, (pss_one (ps_ret (pe_ifExp (pt_cmpR op_in_seq (pe_ix ix_tup (pv 0) pe_int (fun _ _ => rfl)) (pe_tup (pa_cons (pe_glob (v := .str "shape") rfl kSHk ⟨_, rfl⟩) (pa_cons (pe_glob (v := .str "call") rfl kCALL ⟨_, rfl⟩) pa_nil))) (by rfl)) (pe_tup (pa_cons (pe_ix ix_tup (pv 0) pe_int (fun _ _ => rfl)) (pa_cons (pe_ix ix_tup (pv 0) pe_int (fun _ _ => rfl)) (pa_cons (pe_callB call_len_seq (by rfl) T.z_len PySem.boot_len (pa_cons (pe_ix ix_tup (pv 0) pe_int (fun _ _ => rfl)) pa_nil)) pa_nil)))) (pe_slice sl_tupA (pv 0) po_none (po_some pe_int))))), ?_⟩
    rcases nd_cut k ts with ⟨n, w0, e, ei, hw⟩ | ⟨w0, e, ei, hw⟩
    ·
      rw [e] at hv
      rw [ei] at q
      obtain ⟨a, x, y, z, rfl, hq, h1, h2, h3⟩ := hv.t3
      obtain rfl := h1.s
      obtain rfl := h2.s
      obtain ⟨b, ys, rfl, hb, hy⟩ := id h3.t
      have hl := hy.length
      rw [encTs_map, List.length_map] at hl
      refine ⟨_, rfl, a, _, 0, .str w0, rfl, rfl, hq, atI_nat (j := 0) rfl, by decide, ?_⟩
      intro p np
      refine ⟨p, _, rfl, .inr (.of upd_same), by rfl, by rfl, _, rfl, ift (by rcases hw with rfl | rfl <;> decide +kernel) ?_⟩
      have k1 := Keep.new (o := .tup [.str "shape", .str "call"]) np (Keep.refl [] _)
      refine ⟨_, rfl, a, _, 0, _, rfl, rfl, k1.sqT hq, atI_nat (j := 0) rfl, _, rfl, a, _, 1, _, rfl, rfl, k1.sqT hq, atI_nat (j := 1) rfl, _, rfl, a, _, 2, _, rfl, rfl, k1.sqT hq, atI_nat (j := 2) rfl, b, _, rfl, .inr (k1.sqT hb), (by show 3 ≤ sizeLine; decide), fun t nt => ?_⟩
      exact q _ _ (Keep.new nt k1) (At.new upd_same (.cons (.str _) (.cons (.str _) (.cons (by rw [hl]; exact .int _) .nil))))
    ·
      rw [e] at hv
      rw [ei] at q
      obtain ⟨a, xs, rfl, hq, hxs⟩ := hv.t
      obtain ⟨y, ys, rfl, h1, h2⟩ := hxs.cons'
      obtain rfl := h1.s
      refine ⟨_, rfl, a, _, 0, .str w0, rfl, rfl, hq, atI_nat (j := 0) rfl, by decide, ?_⟩
      intro p np
      refine ⟨p, _, rfl, .inr (.of upd_same), by rfl, by rfl, _, rfl, iff' (by rcases hw with rfl | rfl | rfl <;> decide +kernel) ?_⟩
      have k1 := Keep.new (o := .tup [.str "shape", .str "call"]) np (Keep.refl [] _)
      refine ⟨_, rfl, _, rfl, sl_0 (k1.sqT hq) (fun z => ?_) fun t nt => ?_⟩
      · subst z
        exact q _ _ k1 (.tup (k1.sqT hq) (.cons (.str _) .nil))
      · exact q _ _ (Keep.new nt k1) (At.new upd_same (.cons (.str _) .nil))
end
end K46
/-! K46L2 -/
set_option maxHeartbeats 4000000
namespace K46
open PySem PySem.Spec PyProof.Rows L2 C8
/-! ### the frames of the law's machine -/
def LFr (K : PySem.W.Frag) (H : Hp) (r : FA) (f : Fr) : Prop := ∃ (c : Addr) (vs ss : List V), H r.p = some (.dK (lF (.ref c) f.line r.v r.s)) ∧ At K H (.ref c) (encC f.code) ∧
  H r.v = some (.lst vs) ∧ AtL K H vs (encVs f.loc) ∧ H r.s = some (.lst ss) ∧ AtL K H ss (encVs f.pile)
inductive LFrs (K : PySem.W.Frag) (H : Hp) : List FA → List Fr → Prop
  | nil : LFrs K H [] []
  | cons {r f rs fs} : LFr K H r f → LFrs K H rs fs → LFrs K H (r :: rs) (f :: fs)
structure LSt (K : PySem.W.Frag) (H0 : Hp) (kd fl : Addr) (bs : List Bk) (rs : List FA) (fs : List Fr) (H : Hp) : Prop where
  keep : Keep [] H0 H
  nd : (kd :: fl :: owns rs).Nodup
  new : ∀ a ∈ kd :: fl :: owns rs, H0 a = none
  codes : CodesOk K H kd bs
  frames : H fl = some (.lst (rs.reverse.map fun r => .ref r.p))
  ok : LFrs K H rs fs
section
variable {K : PySem.W.Frag} {H H1 H0 : Hp} {S : List Addr} {r : FA} {f g : Fr} {rs : List FA} {fs : List Fr} {kd fl : Addr} {bs : List Bk}
theorem LFr.keep (k : Keep S H H1) (n : ∀ a ∈ r.own, a ∉ S) (h : LFr K H r f) : LFr K H1 r f := by
  obtain ⟨c, vs, ss, h1, h2, h3, h4, h5, h6⟩ := h
  exact ⟨c, vs, ss, k.at_ _ _ (n _ (by simp [FA.own])) h1, h2.keep k, k.at_ _ _ (n _ (by simp [FA.own])) h3, h4.keep k, k.at_ _ _ (n _ (by simp [FA.own])) h5, h6.keep k⟩
theorem LFrs.keep (k : Keep S H H1) : ∀ {rs : List FA} {fs : List Fr}, (∀ a ∈ owns rs, a ∉ S) → LFrs K H rs fs → LFrs K H1 rs fs
  | _, _, _, .nil => .nil
  | _, _, n, .cons h t => .cons (h.keep k fun a m => n a (List.mem_flatMap.mpr ⟨_, List.mem_cons_self .., m⟩)) (LFrs.keep k (fun a m => n a (by
      obtain ⟨r, h1, h2⟩ := List.mem_flatMap.mp m
      exact List.mem_flatMap.mpr ⟨r, List.mem_cons_of_mem _ h1, h2⟩)) t)
theorem LFrs.length : ∀ {rs : List FA} {fs : List Fr}, LFrs K H rs fs → rs.length = fs.length
  | _, _, .nil => rfl
  | _, _, .cons _ t => congrArg Nat.succ (LFrs.length t)
theorem LFrs.some : ∀ {rs : List FA} {fs : List Fr}, LFrs K H rs fs → ∀ a ∈ owns rs, ∃ o, H a = some o
  | _, _, .nil, a, z => by simp [owns] at z
  | _, _, .cons (r := r) (rs := rs) h t, a, z => by
    obtain ⟨c, vs, ss, h1, h2, h3, h4, h5, h6⟩ := h
    have z' : a ∈ r.p :: r.v :: r.s :: owns rs := z
    simp only [List.mem_cons] at z'
    rcases z' with e | e | e | z
    · exact ⟨_, e ▸ h1⟩
    · exact ⟨_, e ▸ h3⟩
    · exact ⟨_, e ▸ h5⟩
    · exact LFrs.some t a z
theorem LSt.idle (k : Keep [] H H1) (m : LSt K H0 kd fl bs rs fs H) : LSt K H0 kd fl bs rs fs H1 :=
  ⟨m.keep.trans k, m.nd, m.new, m.codes.keep k (by simp), k.at_ _ _ (by simp) m.frames, m.ok.keep k (by simp)⟩
theorem LSt.top (m : LSt K H0 kd fl bs (r :: rs) (f :: fs) H) (k : Keep r.own H H1) (h : LFr K H1 r g) : LSt K H0 kd fl bs (r :: rs) (g :: fs) H1 := by
  have nd := m.nd
  rw [owns_cons] at nd
  have h0 : ∀ a ∈ r.own, H0 a = none := fun a z => m.new a (by
    rw [owns_cons]
    have : a = r.p ∨ a = r.v ∨ a = r.s := by simpa [FA.own] using z
    rcases this with e | e | e <;> simp [e])
  simp only [List.nodup_cons, List.mem_cons, not_or] at nd
  obtain ⟨⟨b1, b2, b3, b4, b5⟩, ⟨c1, c2, c3, c4⟩, ⟨d1, d2, d3⟩, ⟨e1, e2⟩, f1, f2⟩ := nd
  have ok2 := m.ok
  cases ok2 with
  | cons _ t =>
    refine ⟨k.call (fun b z => .inr (h0 b z)) m.keep, m.nd, m.new, m.codes.keep k (by simp [FA.own, b2, b3, b4]), k.at_ _ _ (by simp [FA.own, c1, c2, c3]) m.frames, .cons h (t.keep k fun a z => ?_)⟩
    have n1 : a ≠ r.p := fun e => d3 (e ▸ z)
    have n2 : a ≠ r.v := fun e => e2 (e ▸ z)
    have n3 : a ≠ r.s := fun e => f1 (e ▸ z)
    simp [FA.own, n1, n2, n3]
theorem LSt.head (m : LSt K H0 kd fl bs (r :: rs) (f :: fs) H) : LFr K H r f := by
  have h := m.ok
  cases h with
  | cons h _ => exact h
theorem LSt.apart (m : LSt K H0 kd fl bs (r :: rs) (f :: fs) H) : r.p ≠ r.v ∧ r.p ≠ r.s ∧ r.v ≠ r.s := by
  have nd := m.nd
  rw [owns_cons] at nd
  simp only [List.nodup_cons, List.mem_cons, not_or] at nd
  exact ⟨nd.2.2.1.1, nd.2.2.1.2.1, nd.2.2.2.1.1⟩
theorem LSt.pile {ss' : List V} {ps : List MV} (m : LSt K H0 kd fl bs (r :: rs) (f :: fs) H) (k : Keep [r.s] H H1) (e : H1 r.s = some (.lst ss')) (hp : AtL K H1 ss' (encVs ps)) : LSt K H0 kd fl bs (r :: rs) ({ f with pile := ps } :: fs) H1 := by
  obtain ⟨c, vs, ss, h1, h2, h3, h4, h5, h6⟩ := m.head
  obtain ⟨a1, a2, a3⟩ := m.apart
  exact m.top (k.mono (by simp [FA.own])) ⟨c, vs, ss', k.at_ _ _ (by simp [a2]) h1, h2.keep k, k.at_ _ _ (by simp [a3]) h3, h4.keep k, e, hp⟩
theorem LSt.push {ss : List V} {x : V} {v : MV} (m : LSt K H0 kd fl bs (r :: rs) (f :: fs) H) (h5 : H r.s = some (.lst ss)) (h6 : AtL K H ss (encVs f.pile)) (hx : At K H x (encV v)) :
    LSt K H0 kd fl bs (r :: rs) ({ f with pile := f.pile ++ [v] } :: fs) (upd H r.s (.lst (ss ++ [x]))) := by
  have k : Keep [r.s] H (upd H r.s (.lst (ss ++ [x]))) := Keep.lst h5 (.inl (by simp)) (Keep.refl _ _)
  refine m.pile k upd_same ?_
  rw [encVs_append]
  exact (h6.keep k).append (.cons (hx.keep k) .nil)
theorem LSt.asks {l : Nat} {xs ys : List V} {c : Addr} {ws : List MV} (m : LSt K H0 kd fl bs (r :: rs) (f :: fs) H) (hc : At K H (.ref c) (encC f.code)) (hx : AtL K H xs (encVs f.loc)) (k : Keep [r.p, r.v] H H1)
    (h1 : H1 r.p = some (.dK (lF (.ref c) l r.v r.s))) (h3 : H1 r.v = some (.lst (xs ++ ys))) (hy : AtL K H1 ys (encVs ws)) :
    LSt K H0 kd fl bs (r :: rs) ({ f with line := l, loc := f.loc ++ ws } :: fs) H1 := by
  obtain ⟨c', vs, ss, _, _, _, _, h5, h6⟩ := m.head
  obtain ⟨a1, a2, a3⟩ := m.apart
  refine m.top (k.mono (by simp [FA.own])) ⟨c, _, ss, h1, hc.keep k, h3, ?_, k.at_ _ _ (by simp; exact ⟨Ne.symm a2, Ne.symm a3⟩) h5, h6.keep k⟩
  rw [encVs_append]
  exact (hx.keep k).append hy
/-- a frame more: its dict, its lists are new -/
theorem LSt.begin {p v s : Addr} {c : Addr} {code : List Ins} {xs : List V} {ws : List MV} (m : LSt K H0 kd fl bs rs fs H) (hp : H p = some (.dK (lF (.ref c) 0 v s))) (hc : At K H (.ref c) (encC code)) (hv : H v = some (.lst xs)) (hx : AtL K H xs (encVs ws)) (hs : H s = some (.lst [])) (hvs : v ≠ s)
    (n : ∀ a ∈ [p, v, s], a ∉ kd :: fl :: owns rs) (n0 : ∀ a ∈ [p, v, s], H0 a = none) : LSt K H0 kd fl bs (⟨p, p, v, s⟩ :: rs) (⟨code, 0, ws, []⟩ :: fs) (upd H fl (.lst (rs.reverse.map (fun r => V.ref r.p) ++ [.ref p]))) := by
  have k4 : Keep [fl] H (upd H fl (.lst (rs.reverse.map (fun r => V.ref r.p) ++ [.ref p]))) := Keep.lst m.frames (.inl (by simp)) (Keep.refl _ _)
  have npv : p ≠ v := ne_of hp hv (by intro z; cases z)
  have nps : p ≠ s := ne_of hp hs (by intro z; cases z)
  have nd := m.nd
  have n1 := n p (by simp)
  have n2 := n v (by simp)
  have n3 := n s (by simp)
  simp only [List.mem_cons, not_or] at n1 n2 n3
  have nd2 := nd
  simp only [List.nodup_cons, List.mem_cons, not_or] at nd2
  refine ⟨k4.call (fun b z => .inr (m.new b (by simp [List.mem_singleton.mp z]))) m.keep, ?_, fun a z => ?_, m.codes.keep k4 (by simp [nd2.1.1]), ?_, .cons ⟨c, xs, [], ?_, hc.keep k4, ?_, hx.keep k4, ?_, .nil⟩ (m.ok.keep k4 fun a z e => ?_)⟩
  · rw [owns_cons]
    simp only [List.nodup_cons, List.mem_cons, not_or]
    exact ⟨⟨nd2.1.1, Ne.symm n1.1, Ne.symm n2.1, Ne.symm n3.1, nd2.1.2⟩, ⟨Ne.symm n1.2.1, Ne.symm n2.2.1, Ne.symm n3.2.1, nd2.2.1⟩, ⟨npv, nps, n1.2.2⟩, ⟨hvs, n2.2.2⟩, n3.2.2, nd2.2.2⟩
  · rw [owns_cons] at z
    have : a ∈ kd :: fl :: owns rs ∨ a ∈ [p, v, s] := by
      simp only [List.mem_cons, List.not_mem_nil, or_false] at z ⊢
      rcases z with z | z | z | z | z | z <;> simp [z]
    exact this.elim (m.new a) (n0 a)
  · rw [upd_same, List.reverse_cons, List.map_append]
    rfl
  · exact k4.at_ _ _ (by simp [n1.2.1]) hp
  · exact k4.at_ _ _ (by simp [n2.2.1]) hv
  · exact k4.at_ _ _ (by simp [n3.2.1]) hs
  · rw [List.mem_singleton.mp e] at z
    exact nd2.2.1 z
/-- the last frame is taken away -/
theorem LSt.pop (m : LSt K H0 kd fl bs (r :: rs) (f :: fs) H) : LSt K H0 kd fl bs rs fs (upd H fl (.lst (rs.reverse.map fun r => .ref r.p))) := by
  have k : Keep [fl] H (upd H fl (.lst (rs.reverse.map fun r => .ref r.p))) := Keep.lst m.frames (.inl (by simp)) (Keep.refl _ _)
  have nd := m.nd
  rw [owns_cons] at nd
  simp only [List.nodup_cons, List.mem_cons, not_or] at nd
  have ok2 := m.ok
  cases ok2 with
  | cons _ t =>
    refine ⟨k.call (fun b z => .inr (m.new b (by simp [List.mem_singleton.mp z]))) m.keep, ?_, fun a z => m.new a ?_, m.codes.keep k (by simp [nd.1.1]), upd_same, t.keep k fun a z e => ?_⟩
    · simp only [List.nodup_cons, List.mem_cons, not_or]
      exact ⟨⟨nd.1.1, nd.1.2.2.2.2⟩, nd.2.1.2.2.2, nd.2.2.2.2.2⟩
    · rw [owns_cons]
      simp only [List.mem_cons] at z ⊢
      rcases z with z | z | z <;> simp [z]
    · rw [List.mem_singleton.mp e] at z
      exact nd.2.1.2.2.2 z
/-- other objects are changed -/
theorem LSt.side (k : Keep S H H1) (n : ∀ a ∈ kd :: fl :: owns rs, a ∉ S) (n0 : ∀ a ∈ S, H0 a = none) (m : LSt K H0 kd fl bs rs fs H) : LSt K H0 kd fl bs rs fs H1 :=
  ⟨k.call (fun b z => .inr (n0 b z)) m.keep, m.nd, m.new, m.codes.keep k (n _ (by simp)), k.at_ _ _ (n _ (by simp)) m.frames, m.ok.keep k fun a z => n a (by simp [z])⟩
theorem LSt.there (m : LSt K H0 kd fl bs rs fs H) : ∀ a ∈ kd :: fl :: owns rs, ∃ o, H a = some o := fun a z => by
  obtain ⟨kvs, hcd, _⟩ := m.codes
  rcases List.mem_cons.mp z with e | z
  · exact ⟨_, e ▸ hcd⟩
  · rcases List.mem_cons.mp z with e | z
    · exact ⟨_, e ▸ m.frames⟩
    · exact m.ok.some a z
theorem LSt.fresh {p : Addr} (m : LSt K H0 kd fl bs rs fs H) (n : H p = none) : p ∉ kd :: fl :: owns rs := fun z => by
  obtain ⟨o, e⟩ := m.there p z
  rw [n] at e
  cases e
/-- a frame more, its dict laid in the heap -/
theorem LSt.frame {p v s c : Addr} {code : List Ins} {xs : List V} {ws : List MV} (m : LSt K H0 kd fl bs rs fs H) (hp : H p = some (.dK [])) (hc : At K H (.ref c) (encC code)) (hv : H v = some (.lst xs)) (hx : AtL K H xs (encVs ws)) (hs : H s = some (.lst [])) (hvs : v ≠ s)
    (n : ∀ a ∈ [p, v, s], a ∉ kd :: fl :: owns rs) (n0 : ∀ a ∈ [p, v, s], H0 a = none) : LSt K H0 kd fl bs (⟨p, p, v, s⟩ :: rs) (⟨code, 0, ws, []⟩ :: fs) (upd (upd H p (.dK (lF (.ref c) 0 v s))) fl (.lst (rs.reverse.map (fun r => V.ref r.p) ++ [.ref p]))) := by
  have k : Keep [p] H (upd H p (.dK (lF (.ref c) 0 v s))) := Keep.dct hp (.inl (by simp)) (Keep.refl _ _)
  have npv : v ≠ p := (ne_of hp hv (by intro z; cases z)).symm
  have nps : s ≠ p := (ne_of hp hs (by intro z; cases z)).symm
  have np := n p (by simp)
  exact LSt.begin (m.side k (fun a z e => np (List.mem_singleton.mp e ▸ z)) (fun a z => n0 a (by simp [List.mem_singleton.mp z]))) upd_same (hc.keep k) (k.at_ _ _ (by simp [npv]) hv) (hx.keep k) (k.at_ _ _ (by simp [nps]) hs) hvs n n0
end
end K46
/-! K46L3 -/
set_option maxHeartbeats 4000000
namespace K46
open PySem PySem.Spec PyProof.Rows L2 C8
section
variable {H : Hp} {c y : V} {l k : Int} {v s d : Addr}
theorem lF_gcode (h : H d = some (.dK (lF c l v s))) : DGet H d (.str "code") (some c) := by
  have := DGet.k (k := Sum.inr (Str.ofString "code")) h
  rw [lF_code] at this
  exact this
theorem lF_gline (h : H d = some (.dK (lF c l v s))) : DGet H d (.str "line") (some (.int l)) := by
  have := DGet.k (k := Sum.inr (Str.ofString "line")) h
  rw [lF_line] at this
  exact this
theorem lF_glocals (h : H d = some (.dK (lF c l v s))) : DGet H d (.str "locals") (some (.ref v)) := by
  have := DGet.k (k := Sum.inr (Str.ofString "locals")) h
  rw [lF_locals] at this
  exact this
theorem lF_gstack (h : H d = some (.dK (lF c l v s))) : DGet H d (.str "stack") (some (.ref s)) := by
  have := DGet.k (k := Sum.inr (Str.ofString "stack")) h
  rw [lF_stack] at this
  exact this
theorem lF_pline (h : H d = some (.dK (lF c l v s))) : DPut H d (.str "line") (.int k) (upd H d (.dK (lF c k v s))) := by
  have := DPut.k (k := Sum.inr (Str.ofString "line")) (v := .int k) h (by show 4 < sizeLine; decide)
  rw [lF_put] at this
  exact this
end
section
variable {P : Program} {w : World} {K : PySem.W.Frag} {mg : Str → Option Value} {base : Heap}
def fitV (n : Str) (l : Nat) : MV → List V
  | .shape n' _ => if n = n' then [.int (l : Int)] else []
  | _ => []
theorem fit_cut (n : Str) (l f : Nat) (m : MV) : (∃ us, m = .shape n us ∧ fitV n l m = [.int (l : Int)] ∧ asked n l f m = (l, us)) ∨ (fitV n l m = [] ∧ asked n l f m = (f, [])) := by
  cases m with
  | dull => exact .inr ⟨rfl, rfl⟩
  | clo _ _ => exact .inr ⟨rfl, rfl⟩
  | shape n' us =>
    by_cases e : n = n'
    · subst e
      exact .inl ⟨us, rfl, if_pos rfl, if_pos rfl⟩
    · exact .inr ⟨if_neg e, if_neg e⟩
def sp_asked (K : PySem.W.Frag) : Sp := fun vs H Q _ => ∃ (d v s : Addr) (row c : V) (l0 : Int) (k l f : Nat) (n : Str) (xs : List V) (x : V) (m : MV), vs = [.ref d, row] ∧ At K H row (encI (.ask k n l f)) ∧ H d = some (.dK (lF c l0 v s)) ∧ H v = some (.lst xs) ∧ xs[k]? = some x ∧ At K H x (encV m) ∧
  xs.length + (asked n l f m).2.length ≤ sizeLine ∧ ∀ ys H', AtL K H' ys (encVs (asked n l f m).2) → Keep [d, v] H H' → H' d = some (.dK (lF c ((asked n l f m).1 : Nat) v s)) → H' v = some (.lst (xs ++ ys)) → Q .non H'
theorem ok_asked (T : Tx K mg) : Cal P w K mg base 1 "_law_asked" (sp_asked K) [] := by
  refine cal_mk T.f_asked T.g_asked sc_asked (fun _ _ _ _ _ _ us hl => match us, hl with | [_, _], _ => rfl) (fun vs H Q E h => ?_) (fun cdv A outer s0 H vs Q E hr h => ?_)
  · obtain ⟨d, v, s, row, c, l0, k, l, f, n, xs, x, m, rfl, _⟩ := h
    rfl
  · obtain ⟨d, v, s, row, c, l0, k, l, f, n, xs, x, m, rfl, hrow, hd, hv, hk, hx, hz, q⟩ := h
    refine ⟨_, (pss_cons (ps_set (i := 2) sc_asked.nd rfl (Or.inr rfl) (pe_ix ix_list (pe_dget (hu_of hr) (pv 0) pe_str (fun _ _ => rfl)) (pe_ix ix_tup (pv 1) pe_int (fun _ _ => rfl)) (fun _ _ => rfl)))
      (pss_cons (ps_dput (hu_of hr) (pv 0) pe_str (pe_ix ix_tup (pv 1) pe_int (fun _ _ => rfl)) rfl)
      (pss_cons (ps_setLc (i := 3) (g := (gTup K 2 (gCons (gName 4) (gCons (gName 5) gNil)))) rfl sc_asked.nd rfl rfl (sw_true rfl rfl rfl (by decide +kernel)) (pi_tup (pe_ix ix_tup (pv 1) pe_int (fun _ _ => rfl))) (blkOk_by (own := [("_law_name", 4), ("_law_line", 5)]) (N := ["_law_frame", "_law_row_here", "_law_worth", "_law_lines", "_law_name", "_law_line"]) (sc := defScope s_asked) (by decide +kernel)) (fun _ _ _ _ _ => (pg_tup rfl (pgs_cons (pg_name (i := 4) sc_asked.nd rfl (Or.inl rfl)) (pgs_cons (pg_name (i := 5) sc_asked.nd rfl (Or.inl rfl)) pgs_nil)))) (fun _ _ _ _ _ => (pts_one (PW.pt (pw_and (pt_cmpR op_eq (pe_ix (ix_tupK (K := K) rfl) (pv 2) pe_int (fun _ _ => rfl)) pe_str (nomark _)) (pw_and1 (pt_cmpR op_eq (pv 4) (pe_ix (ix_tupK (K := K) rfl) (pv 2) pe_int (fun _ _ => rfl)) (nomark _))))))) (fun _ _ _ _ _ => (pv 5)))
      (pss_one (ps_if (pt_cmpR (op_ne0 hr.units0) (pv 3) (pe_lst pa_nil) (nomark _)) (pss_cons (ps_dput (hu_of hr) (pv 0) pe_str (pe_ix ix_list (pv 3) pe_int (fun _ _ => rfl)) rfl)
      (pss_one (ps_expr (pe_bm PySem.F.plainAttrs_list PySem.F.slot_list_extend PySem.F.type_list_extend mt_extend (pe_dget (hu_of hr) (pv 0) pe_str (fun _ _ => rfl)) (pa_cons (pe_callTy call_list_of (by rfl) T.z_list (by decide +kernel) (pa_cons (pe_ix ix_tup (pv 2) pe_int (fun _ _ => rfl)) pa_nil)) pa_nil))))) pss_nil))))), ?_⟩
    obtain ⟨ra, y0, y1, y2, y3, rfl, hra, z0, z1, z2, z3⟩ := hrow.t4
    obtain rfl := z0.s
    obtain rfl := z1.i
    obtain rfl := z3.i
    obtain ⟨ch, y, rfl, hch, hy⟩ := z2.t1
    obtain ⟨pr, u1, u2, rfl, hpr, h1, h2⟩ := hy.t2
    obtain rfl := h1.s
    obtain rfl := h2.i
    have ndv : d ≠ v := ne_of hd hv (by intro z; cases z)
    refine ⟨_, rfl, d, _, rfl, lF_glocals hd, _, rfl, ra, _, 1, .int (k : Int), rfl, rfl, hra, atI_nat (j := 1) rfl, v, xs, k, x, rfl, rfl, .of hv, atI_nat hk, ?_⟩
    refine ⟨_, rfl, ra, _, 3, .int (f : Int), rfl, rfl, hra, atI_nat (j := 3) rfl, _, rfl, d, _, rfl, lF_pline hd, ?_⟩
    have k1 : Keep [d] H (upd H d (.dK (lF c (f : Int) v s))) := Keep.dct hd (.inl (by simp)) (Keep.refl _ _)
    have hd1 : upd H d (.dK (lF c (f : Int) v s)) d = some (.dK (lF c (f : Int) v s)) := upd_same
    have hv1 := k1.at_ _ _ (by simp [ndv.symm]) hv
    have hx1 := hx.keep k1
    have hra1 := k1.sqT hra
    have hch1 := k1.sqT hch
    have hpr1 := k1.sqT hpr
    generalize upd H d (.dK (lF c (f : Int) v s)) = H1 at k1 hd1 hv1 hx1 hra1 hch1 hpr1
    refine ⟨_, rfl, ra, _, 2, .ref ch, rfl, rfl, hra1, atI_nat (j := 2) rfl, ch, rfl, ⟨_, hch1⟩, fun D nD => ?_⟩
    refine lc_it (walk_tup (xs := [V.ref pr])) (fun i H' => Keep [] H1 H' ∧ H' D = some (.lst (if i = 0 then [] else fitV n l m))) ⟨Keep.new nD (Keep.refl _ _), upd_same⟩ (fun i H' _ ⟨k2, _⟩ => k2.sqT hch1) (fun i z H2 H3 hi ⟨k2, hD⟩ yy => ?_) (fun H2 ⟨k2, hD⟩ => ?_)
    · obtain ⟨rfl, ez⟩ := yy
      have i0 : i = 0 := by simpa using hi
      subst i0
      cases ez
      refine ⟨pr, _, rfl, k2.sqT hpr1, rfl, _, _, rfl, _, _, rfl, rfl, rfl, ?_⟩
      cases m with
      | dull =>
        obtain ⟨a, y4, rfl, hq, q1⟩ := (hx1.keep k2).t1
        obtain rfl := q1.s
        exact ⟨_, rfl, a, _, 0, .str "dull", rfl, rfl, hq, atI_nat (j := 0) rfl, rfl, _, rfl, iff' (b := decide (V.str "dull" = V.str "shape")) (by decide +kernel) (iff' (b := false) rfl ⟨k2, hD⟩)⟩
      | clo nn us =>
        obtain ⟨a, y4, y5, y6, rfl, hq, q1, _, _⟩ := (hx1.keep k2).t3
        obtain rfl := q1.s
        exact ⟨_, rfl, a, _, 0, .str "close", rfl, rfl, hq, atI_nat (j := 0) rfl, rfl, _, rfl, iff' (b := decide (V.str "close" = V.str "shape")) (by decide +kernel) (iff' (b := false) rfl ⟨k2, hD⟩)⟩
      | shape nn us =>
        obtain ⟨a, y4, y5, y6, rfl, hq, q1, q2, _⟩ := (hx1.keep k2).t3
        obtain rfl := q1.s
        obtain rfl := q2.s
        refine ⟨_, rfl, a, _, 0, .str "shape", rfl, rfl, hq, atI_nat (j := 0) rfl, rfl, _, rfl, ift (b := decide (V.str "shape" = V.str "shape")) (by decide +kernel) ?_⟩
        refine ⟨_, rfl, _, rfl, a, _, 1, .str nn, rfl, rfl, hq, atI_nat (j := 1) rfl, rfl, _, rfl, ?_⟩
        by_cases e : n = nn
        · refine ift (b := decide (V.str n = V.str nn)) (decide_eq_true (by rw [e])) ?_
          refine ⟨_, rfl, _, hD, (by show 0 < sizeLine; decide), Keep.lst hD (.inr nD) k2, ?_⟩
          rw [upd_same]
          show some (HO.lst ([] ++ [V.int (l : Int)])) = some (HO.lst (fitV n l (.shape nn us)))
          rw [show fitV n l (.shape nn us) = _ from if_pos e]
          rfl
        · refine iff' (b := decide (V.str n = V.str nn)) (decide_eq_false fun z => e (V.str.inj z)) ?_
          refine ⟨k2, ?_⟩
          show H3 D = some (HO.lst (fitV n l (.shape nn us)))
          rw [show fitV n l (.shape nn us) = _ from if_neg e]
          exact hD
    · have hD' : H2 D = some (HO.lst (fitV n l m)) := hD
      refine ⟨_, rfl, by decide, fun q1 nq1 => ?_⟩
      have kq := Keep.new (o := .lst []) nq1 (Keep.refl [] H2)
      have hDq := kq.at_ _ _ (by simp) hD'
      refine ⟨D, q1, _, rfl, rfl, .inl ⟨.of hDq, .of upd_same⟩, _, rfl, ?_⟩
      have k3 := k2.trans kq
      have hd3 := k3.at_ _ _ (by simp) hd1
      have hv3 := k3.at_ _ _ (by simp) hv1
      have hx3 := hx1.keep k3
      have k03 : Keep [d] H (upd H2 q1 (.lst [])) := k1.trans (k3.mono (by simp))
      generalize upd H2 q1 (.lst []) = H4 at hDq hd3 hv3 hx3 k03
      rcases fit_cut n l f m with ⟨us, rfl, ef, ea⟩ | ⟨ef, ea⟩
      · rw [ef] at hDq ⊢
        rw [ea] at q hz
        refine ift rfl ?_
        obtain ⟨a, y4, y5, y6, rfl, hq, q4, q5, q6⟩ := hx3.t3
        obtain ⟨ua, uv, rfl, hua, huv⟩ := q6.t
        refine ⟨_, rfl, D, _, 0, .int (l : Int), rfl, rfl, .of hDq, atI_nat (j := 0) rfl, _, rfl, d, _, rfl, lF_pline hd3, ?_⟩
        have k4 : Keep [d] H4 (upd H4 d (.dK (lF c (l : Int) v s))) := Keep.dct hd3 (.inl (by simp)) (Keep.refl _ _)
        have hd4 : upd H4 d (.dK (lF c (l : Int) v s)) d = some (.dK (lF c (l : Int) v s)) := upd_same
        have hv4 := k4.at_ _ _ (by simp [ndv.symm]) hv3
        have hq4 := k4.sqT hq
        have hua4 := k4.sqT hua
        have huv4 := huv.keep k4
        have k04 := k03.trans k4
        generalize upd H4 d (.dK (lF c (l : Int) v s)) = H5 at hd4 hv4 hq4 hua4 huv4 k04
        refine ⟨_, rfl, d, _, rfl, lF_glocals hd4, .inl ⟨rfl, _, .of hv4⟩, _, rfl, a, _, 2, .ref ua, rfl, rfl, hq4, atI_nat (j := 2) rfl, ua, uv, rfl, .inr hua4, fun g ng => ?_⟩
        have hul := huv4.length
        rw [encVs_length] at hul
        have kg := Keep.new (o := .lst uv) ng (Keep.refl [] H5)
        refine ⟨v, g, _, _, rfl, rfl, kg.at_ _ _ (by simp) hv4, upd_same, by rw [hul]; exact hz, ?_⟩
        have k5 : Keep [v] H5 (upd (upd H5 g (.lst uv)) v (.lst (xs ++ uv))) := Keep.lst (kg.at_ _ _ (by simp) hv4) (.inl (by simp)) (kg.mono (by simp))
        refine q uv _ (huv4.keep k5) ((k04.mono (by simp)).trans (k5.mono (by simp))) (k5.at_ _ _ (by simp [ndv]) hd4) upd_same
      · rw [ef] at hDq ⊢
        rw [ea] at q
        refine iff' rfl ?_
        exact q [] _ .nil (k03.mono (by simp)) hd3 (by rw [List.append_nil]; exact hv3)
end
end K46
/-! K46L4 -/
set_option maxHeartbeats 4000000
namespace K46
open PySem PySem.Spec PyProof.Rows L2 C8
section
variable {P : Program} {w : World} {K : PySem.W.Frag} {mg : Str → Option Value} {base : Heap}
def sp_gone (K : PySem.W.Frag) : Sp := fun vs H Q _ => ∃ (H0 : Hp) (kd fl : Addr) (bs : List Bk) (rs : List FA) (fs gs : List Fr) (o : Option MV), vs = [.ref kd, .ref fl] ∧ LSt K H0 kd fl bs rs fs H ∧ mstep bs fs = some (gs, o) ∧ Small fs ∧ Small gs ∧
  ∀ H' x rs', LSt K H0 kd fl bs rs' gs H' → (gs = [] → ∃ v, o = some v ∧ At K H' x (encV v)) → Q x H'
theorem ok_gone (T : Tx K mg) : Cal P w K mg base 2 "_law_gone" (sp_gone K) [] := by
  refine cal_mk T.f_gone T.g_gone sc_gone (fun _ _ _ _ _ _ us hl => match us, hl with | [_, _], _ => rfl) (fun vs H Q E h => ?_) (fun cdv A outer s0 H vs Q E hr h => ?_)
  · obtain ⟨H0, kd, fl, bs, rs, fs, gs, o, rfl, _⟩ := h
    rfl
  · obtain ⟨H0, kd, fl, bs, rs, fs, gs, o, rfl, m, hm, hz0, hz, q⟩ := h
    have c_asked := ok_asked (P := P) (w := w) (base := base) T
    have c_off := ok_off (P := P) (w := w) (base := base) T
    refine ⟨_, (pss_cons (ps_set (i := 2) sc_gone.nd rfl (Or.inl rfl) (pe_ix ix_list (pv 1) (pe_un un_neg pe_int) (fun _ _ => rfl)))
      (pss_cons (ps_par (i := 3) (j := 4) (by rfl) sc_gone.nd rfl rfl (by decide) rfl rfl (pa_cons (pe_ix ix_tup (pe_dget (hu_of hr) (pv 2) pe_str (fun _ _ => rfl)) (pe_dget (hu_of hr) (pv 2) pe_str (fun _ _ => rfl)) (fun _ _ => rfl)) (pa_cons (pe_dget (hu_of hr) (pv 2) pe_str (fun _ _ => rfl)) pa_nil)) (by rfl))
      (pss_cons (ps_dput (hu_of hr) (pv 2) pe_str (pe_op op_add (pe_dget (hu_of hr) (pv 2) pe_str (fun _ _ => rfl)) pe_int) rfl)
      (pss_cons (ps_set (i := 5) sc_gone.nd rfl (Or.inl rfl) (pe_ix ix_tup (pv 3) pe_int (fun _ _ => rfl)))
      (pss_cons (ps_if (pt_cmpR op_eq (pv 5) pe_str (nomark _)) (pss_one (ps_expr (pe_bm PySem.F.plainAttrs_list PySem.F.slot_list_append PySem.F.type_list_append mt_append (pv 4) (pa_cons (pe_ix ix_list (pe_dget (hu_of hr) (pv 2) pe_str (fun _ _ => rfl)) (pe_ix ix_tup (pv 3) pe_int (fun _ _ => rfl)) (fun _ _ => rfl)) pa_nil)))) pss_nil)
      (pss_cons (ps_if (pt_cmpR op_eq (pv 5) pe_str (nomark _)) (pss_one (ps_expr (pe_bm PySem.F.plainAttrs_list PySem.F.slot_list_append PySem.F.type_list_append mt_append (pv 4) (pa_cons (pv 3) pa_nil)))) pss_nil)
      (pss_cons (ps_if (pt_cmpR op_eq (pv 5) pe_str (nomark _)) (pss_one (ps_expr (pe_c c_asked hr (by omega) rfl (pa_cons (pv 2) (pa_cons (pv 3) pa_nil))))) pss_nil)
      (pss_cons (ps_if (pt_cmpR op_in_seq (pv 5) (pe_tup (pa_cons pe_str (pa_cons pe_str pa_nil))) (by rfl)) (pss_one (ps_expr (pe_bm PySem.F.plainAttrs_list PySem.F.slot_list_append PySem.F.type_list_append mt_append (pv 4) (pa_cons (pe_tup (pa_cons (pv 5) (pa_cons (pe_ix ix_tup (pv 3) pe_int (fun _ _ => rfl)) (pa_cons (pe_callTy call_tuple_of (by rfl) T.z_tuple (by decide +kernel) (pa_cons (pe_c c_off hr (by omega) rfl (pa_cons (pv 4) (pa_cons (pe_ix ix_tup (pv 3) pe_int (fun _ _ => rfl)) pa_nil))) pa_nil)) pa_nil)))) pa_nil)))) pss_nil)
      (pss_cons (ps_if (pt_cmpR op_eq (pv 5) pe_str (nomark _)) (pss_one (ps_expr (pe_bm PySem.F.plainAttrs_list PySem.F.slot_list_append PySem.F.type_list_append mt_append (pv 1) (pa_cons (pe_disp (pps_cons pe_str (pe_dget (hu_of hr) (pv 0) (pe_ix ix_tup (pv 3) pe_int (fun _ _ => rfl)) (fun _ _ => rfl)) (pps_cons pe_str pe_int (pps_cons pe_str (pe_c c_off hr (by omega) rfl (pa_cons (pv 4) (pa_cons (pe_ix ix_tup (pv 3) pe_int (fun _ _ => rfl)) pa_nil))) (pps_cons pe_str (pe_lst pa_nil) pps_nil)))) (by rfl) (by rfl) (fun z => by cases z) (by decide)) pa_nil)))) pss_nil)
      (pss_cons (ps_if (pt_cmpR op_in_seq (pv 5) (pe_tup (pa_cons pe_str (pa_cons pe_str pa_nil))) (by rfl)) (pss_cons (ps_set (i := 6) sc_gone.nd rfl (Or.inl rfl) (pe_c c_off hr (by omega) rfl (pa_cons (pv 4) (pa_cons (pe_op op_add pe_int (pe_callTy call_int1 (by rfl) T.z_int (by decide +kernel) (pa_cons (pe_cmpR op_eq (pv 5) pe_str (nomark _)) pa_nil))) pa_nil))))
      (pss_cons (ps_set (i := 7) sc_gone.nd rfl (Or.inl rfl) (pe_op op_cat (pe_callTy call_list_of (by rfl) T.z_list (by decide +kernel) (pa_cons (pe_ix ix_tup (pe_ix ix_list (pv 6) pe_int (fun _ _ => rfl)) pe_int (fun _ _ => rfl)) pa_nil)) (pe_slice sl_list (pv 6) (po_some pe_int) po_none)))
      (pss_one (ps_expr (pe_bm PySem.F.plainAttrs_list PySem.F.slot_list_append PySem.F.type_list_append mt_append (pv 1) (pa_cons (pe_disp (pps_cons pe_str (pe_dget (hu_of hr) (pv 0) (pe_ix ix_tup (pe_ix ix_list (pv 6) pe_int (fun _ _ => rfl)) pe_int (fun _ _ => rfl)) (fun _ _ => rfl)) (pps_cons pe_str pe_int (pps_cons pe_str (pv 7) (pps_cons pe_str (pe_lst pa_nil) pps_nil)))) (by rfl) (by rfl) (fun z => by cases z) (by decide)) pa_nil)))))) pss_nil)
      (pss_cons (ps_if (pt_cmpR op_eq (pv 5) pe_str (nomark _)) (pss_cons (ps_expr (pe_bm0 PySem.F.plainAttrs_list PySem.F.slot_list_pop PySem.F.type_list_pop mt_pop (pv 1)))
      (pss_cons (ps_if (pt_cmpR (op_eq0 hr.units0) (pv 1) (pe_lst pa_nil) (nomark _)) (pss_one (ps_ret (pe_ix ix_list (pv 4) (pe_un un_neg pe_int) (fun _ _ => rfl)))) pss_nil)
      (pss_one (ps_expr (pe_bm PySem.F.plainAttrs_list PySem.F.slot_list_append PySem.F.type_list_append mt_append (pe_dget (hu_of hr) (pe_ix ix_list (pv 1) (pe_un un_neg pe_int) (fun _ _ => rfl)) pe_str (fun _ _ => rfl)) (pa_cons (pe_ix ix_list (pv 4) (pe_un un_neg pe_int) (fun _ _ => rfl)) pa_nil)))))) pss_nil)
      (pss_one (ps_ret pe_non))))))))))))), ?_⟩
    have ok0 := m.ok
    cases ok0 with
    | nil => cases hm
    | @cons r f rs fs hf hfs =>
    have hfl := m.frames.trans (show _ = some (HO.lst ((rs.reverse.map fun r : FA => V.ref r.p) ++ [V.ref r.p])) by rw [List.reverse_cons, List.map_append]; rfl)
    obtain ⟨i, ei, er⟩ : ∃ i, f.code[f.line]? = some i ∧ mrow bs i (K46.next f :: fs) = some (gs, o) := by
      obtain ⟨i, h1, h2⟩ := Option.bind_eq_some_iff.mp (show (f.code[f.line]?).bind _ = _ from hm)
      exact ⟨i, h1, h2⟩
    obtain ⟨ca, vs, ss, h1, h2, h3, h4, h5, h6⟩ := hf
    obtain ⟨_, cs, ec, hq, hcs⟩ := h2.t
    cases ec
    obtain ⟨row, erow, hrow⟩ := hcs.get (i := f.line) (d := encI i) (by rw [List.getElem?_map, ei]; rfl)
    refine ⟨_, rfl, 1, rfl, fl, _, -1, V.ref r.p, rfl, rfl, .of hfl, atI_last _ _, ?_⟩
    refine ⟨_, rfl, r.p, _, rfl, lF_gcode h1, _, rfl, r.p, _, rfl, lF_gline h1, ca, cs, f.line, row, rfl, rfl, hq, atI_nat erow, _, rfl, r.p, _, rfl, lF_gstack h1, _, _, rfl, ?_⟩
    refine ⟨_, rfl, r.p, _, rfl, lF_gline h1, _, _, rfl, rfl, _, rfl, r.p, _, rfl, lF_pline h1, ?_⟩
    have k1 : Keep [r.p] H (upd H r.p (.dK (lF (.ref ca) ((f.line : Int) + 1) r.v r.s))) := Keep.dct h1 (.inl (by simp)) (Keep.refl _ _)
    obtain ⟨a1, a2, a3⟩ := m.apart
    have hh1 : upd H r.p (.dK (lF (.ref ca) ((f.line : Int) + 1) r.v r.s)) r.p = some (.dK (lF (.ref ca) ((K46.next f).line : Nat) r.v r.s)) := upd_same
    have m1 : LSt K H0 kd fl bs (r :: rs) (K46.next f :: fs) (upd H r.p (.dK (lF (.ref ca) ((f.line : Int) + 1) r.v r.s))) := m.top (k1.mono (by simp [FA.own])) ⟨ca, vs, ss, hh1, h2.keep k1, k1.at_ _ _ (by simp [a1.symm]) h3, h4.keep k1, k1.at_ _ _ (by simp [a2.symm]) h5, h6.keep k1⟩
    replace hrow := hrow.keep k1
    generalize upd H r.p (.dK (lF (.ref ca) ((f.line : Int) + 1) r.v r.s)) = H1 at m1 hrow hh1
    have hpl : (K46.next f).pile.length ≤ sizeLine := (hz0.2 f (List.mem_cons_self ..)).1
    generalize hnf : K46.next f = f1 at m1 er hh1 hpl
    clear hm m h1 h2 h3 h4 h5 h6 k1 hq hcs erow ei hfl hfs
    obtain ⟨_, vs, ss, h1, h2, h3, h4, h5, h6⟩ := m1.head
    cases hh1.symm.trans h1
    have hl4 := h4.length
    rw [encVs_length] at hl4
    have hl6 := h6.length
    rw [encVs_length] at hl6
    have hfl := m1.frames.trans (show _ = some (HO.lst ((rs.reverse.map fun r : FA => V.ref r.p) ++ [V.ref r.p])) by rw [List.reverse_cons, List.map_append]; rfl)
    cases i with
    | loc j =>
      obtain ⟨ra, x0, x1, rfl, hra, q0, q1⟩ := hrow.t2
      obtain rfl := q0.s
      obtain rfl := q1.i
      refine ⟨_, rfl, ra, _, 0, .str "local", rfl, rfl, hra, atI_nat (j := 0) rfl, ?_⟩
      obtain ⟨v, ev, eg⟩ := Option.map_eq_some_iff.mp (show f1.loc[j]?.map _ = _ from er)
      cases eg
      obtain ⟨x, ex, hx⟩ := h4.get (i := j) (d := encV v) (by rw [encVs_map, List.getElem?_map, ev]; rfl)
      have hsz := (hz.2 _ (List.mem_cons_self ..)).1
      simp only [List.length_append, List.length_singleton] at hsz
      have m2 := m1.push h5 h6 hx
      refine ⟨_, rfl, rfl, _, rfl, ift (by decide +kernel) ?_⟩
      refine ⟨_, rfl, .inl ⟨rfl, _, .of h5⟩, _, rfl, r.p, _, rfl, lF_glocals h1, _, rfl, ra, _, 1, .int (j : Int), rfl, rfl, hra, atI_nat (j := 1) rfl, r.v, vs, j, x, rfl, rfl, .of h3, atI_nat ex, r.s, ss, x, rfl, rfl, h5, by omega, ?_⟩
      have fin : ∀ H', Keep [] _ H' → Q .non H' := fun H' k => q H' .non _ (m2.idle k) (fun z => by cases z)
      refine ⟨_, rfl, rfl, _, rfl, iff' (by decide +kernel) ?_⟩
      refine ⟨_, rfl, rfl, _, rfl, iff' (by decide +kernel) ?_⟩
      refine ⟨_, rfl, by decide, fun t1 nt1 => ⟨t1, _, rfl, .inr (.of upd_same), rfl, rfl, _, rfl, iff' (by decide +kernel) ?_⟩⟩
      refine ⟨_, rfl, rfl, _, rfl, iff' (by decide +kernel) ?_⟩
      refine ⟨_, rfl, by decide, fun t2 nt2 => ⟨t2, _, rfl, .inr (.of upd_same), rfl, rfl, _, rfl, iff' (by decide +kernel) ?_⟩⟩
      refine ⟨_, rfl, rfl, _, rfl, iff' (by decide +kernel) ?_⟩
      exact fin _ (Keep.new nt2 (Keep.new nt1 (Keep.refl _ _)))
    | ask j n l fu =>
      obtain ⟨ra, x0, x1, x2, x3, rfl, hra, q0, q1, q2, q3⟩ := id hrow.t4
      obtain rfl := q0.s
      refine ⟨_, rfl, ra, _, 0, .str "ask", rfl, rfl, hra, atI_nat (j := 0) rfl, ?_⟩
      obtain ⟨v, ev, eg⟩ := Option.map_eq_some_iff.mp (show f1.loc[j]?.map _ = _ from er)
      obtain ⟨x, ex, hx⟩ := h4.get (i := j) (d := encV v) (by rw [encVs_map, List.getElem?_map, ev]; rfl)
      have eg2 : gs = { f1 with line := (asked n l fu v).1, loc := f1.loc ++ (asked n l fu v).2 } :: fs ∧ o = none := by
        cases v with
        | dull =>
          cases eg
          exact ⟨by show _ = { f1 with line := fu, loc := f1.loc ++ [] } :: fs; rw [List.append_nil], rfl⟩
        | clo n' us =>
          cases eg
          exact ⟨by show _ = { f1 with line := fu, loc := f1.loc ++ [] } :: fs; rw [List.append_nil], rfl⟩
        | shape n' us =>
          by_cases en : n = n'
          · have e3 : asked n l fu (.shape n' us) = (l, us) := if_pos en
            rw [e3]
            have e4 : (if n = n' then (({ f1 with line := l, loc := f1.loc ++ us } : Fr) :: fs, (none : Option MV)) else ({ f1 with line := fu } :: fs, none)) = (gs, o) := eg
            rw [if_pos en] at e4
            cases e4
            exact ⟨rfl, rfl⟩
          · have e3 : asked n l fu (.shape n' us) = (fu, []) := if_neg en
            rw [e3]
            have e4 : (if n = n' then (({ f1 with line := l, loc := f1.loc ++ us } : Fr) :: fs, (none : Option MV)) else ({ f1 with line := fu } :: fs, none)) = (gs, o) := eg
            rw [if_neg en] at e4
            cases e4
            exact ⟨by show _ = { f1 with line := fu, loc := f1.loc ++ [] } :: fs; rw [List.append_nil], rfl⟩
      obtain ⟨rfl, rfl⟩ := eg2
      have hsz := (hz.2 _ (List.mem_cons_self ..)).2
      simp only [List.length_append] at hsz
      refine ⟨_, rfl, rfl, _, rfl, iff' (by decide +kernel) ?_⟩
      refine ⟨_, rfl, rfl, _, rfl, iff' (by decide +kernel) ?_⟩
      refine ⟨_, rfl, rfl, _, rfl, ift (by decide +kernel) ?_⟩
      refine ⟨_, rfl, _, rfl, r.p, r.v, r.s, .ref ra, .ref ca, _, j, l, fu, n, vs, x, v, rfl, hrow, h1, h3, ex, hx, by omega, fun ys H2 hys k2 e1 e2 => ?_⟩
      have m2 := m1.asks h2 h4 k2 e1 e2 hys
      have fin : ∀ H', Keep [] _ H' → Q .non H' := fun H' k => q H' .non _ (m2.idle k) (fun z => by cases z)
      refine ⟨_, rfl, by decide, fun t3 nt3 => ⟨t3, _, rfl, .inr (.of upd_same), rfl, rfl, _, rfl, iff' (by decide +kernel) ?_⟩⟩
      refine ⟨_, rfl, rfl, _, rfl, iff' (by decide +kernel) ?_⟩
      refine ⟨_, rfl, by decide, fun t4 nt4 => ⟨t4, _, rfl, .inr (.of upd_same), rfl, rfl, _, rfl, iff' (by decide +kernel) ?_⟩⟩
      refine ⟨_, rfl, rfl, _, rfl, iff' (by decide +kernel) ?_⟩
      exact fin _ (Keep.new nt4 (Keep.new nt3 (Keep.refl _ _)))
    | tell =>
      obtain ⟨ra, x0, rfl, hra, q0⟩ := id hrow.t1
      obtain rfl := q0.s
      refine ⟨_, rfl, ra, _, 0, .str "tell", rfl, rfl, hra, atI_nat (j := 0) rfl, ?_⟩
      obtain ⟨v, ev, eg⟩ := Option.map_eq_some_iff.mp (show f1.pile.getLast?.map _ = _ from er)
      refine ⟨_, rfl, rfl, _, rfl, iff' (by decide +kernel) ?_⟩
      refine ⟨_, rfl, rfl, _, rfl, iff' (by decide +kernel) ?_⟩
      refine ⟨_, rfl, rfl, _, rfl, iff' (by decide +kernel) ?_⟩
      refine ⟨_, rfl, by decide, fun t0 nt0 => ⟨t0, _, rfl, .inr (.of upd_same), rfl, rfl, _, rfl, iff' (by decide +kernel) ?_⟩⟩
      refine ⟨_, rfl, rfl, _, rfl, iff' (by decide +kernel) ?_⟩
      refine ⟨_, rfl, by decide, fun t1 nt1 => ⟨t1, _, rfl, .inr (.of upd_same), rfl, rfl, _, rfl, iff' (by decide +kernel) ?_⟩⟩
      refine ⟨_, rfl, rfl, _, rfl, ift (by decide +kernel) ?_⟩
      have k5 : Keep [] H1 _ := Keep.new (o := .tup [.str "give", .str "go"]) nt1 (Keep.new (o := .tup [.str "shape", .str "close"]) nt0 (Keep.refl _ _))
      have m2 := m1.idle k5
      have hfl2 := k5.at_ _ _ (by simp) hfl
      have h52 := k5.at_ _ _ (by simp) h5
      have h62 := h6.keep k5
      generalize upd (upd H1 t0 (.tup [.str "shape", .str "close"])) t1 (.tup [.str "give", .str "go"]) = H2 at m2 hfl2 h52 h62
      have m3 := m2.pop
      have nd := m2.nd
      rw [owns_cons] at nd
      simp only [List.nodup_cons, List.mem_cons, not_or] at nd
      have nsf : r.s ≠ fl := fun e => nd.2.1.2.2.1 e.symm
      have k3 : Keep [fl] H2 (upd H2 fl (.lst (rs.reverse.map fun r => .ref r.p))) := Keep.lst hfl2 (.inl (by simp)) (Keep.refl _ _)
      have h53 := k3.at_ _ _ (by simp [nsf]) h52
      have h63 := h62.keep k3
      refine ⟨_, rfl, .inl ⟨rfl, _, .of hfl2⟩, fl, _, V.ref r.p, rfl, rfl, hfl2, by simp, ?_⟩
      have edl : ((rs.reverse.map fun r : FA => V.ref r.p) ++ [V.ref r.p]).dropLast = rs.reverse.map fun r : FA => V.ref r.p := by simp
      rw [edl]
      generalize upd H2 fl (.lst (rs.reverse.map fun r => .ref r.p)) = H3 at m3 h53 h63
      have elast : ∃ x, atI ss (-1) = some x ∧ At K H3 x (encV v) := by
        obtain ⟨ys, hy⟩ : ∃ ys, f1.pile = ys ++ [v] := by
          have := List.getLast?_eq_some_iff.mp ev
          exact this
        rw [hy, encVs_append] at h63
        obtain ⟨as, bs', rfl, _, hb⟩ := h63.split
        obtain ⟨x, bs'', rfl, hx, hn⟩ := hb.cons'
        cases hn
        exact ⟨x, atI_last _ _, hx⟩
      obtain ⟨x, ex, hx⟩ := elast
      refine ⟨_, rfl, by decide, fun q1 nq1 => ?_⟩
      have kq := Keep.new (o := .lst []) nq1 (Keep.refl [] H3)
      have m4 := m3.idle kq
      have h54 := kq.at_ _ _ (by simp) h53
      have hx4 := hx.keep kq
      refine ⟨fl, q1, _, rfl, rfl, .inl ⟨.of m4.frames, .of upd_same⟩, _, rfl, ?_⟩
      generalize upd H3 q1 (.lst []) = H4 at m4 h54 hx4
      have ok4 := m4.ok
      cases ok4 with
      | nil =>
        cases eg
        refine ift rfl ?_
        refine ⟨_, rfl, 1, rfl, r.s, ss, -1, x, rfl, rfl, .of h54, ex, ?_⟩
        exact q H4 x _ m4 fun _ => ⟨v, rfl, hx4⟩
      | @cons r2 g rs2 fs2 hg hgs =>
        cases eg
        refine iff' (by simp) ?_
        obtain ⟨c2, vs2, ss2, g1, g2, g3, g4, g5, g6⟩ := m4.head
        have hfl4 := m4.frames.trans (show _ = some (HO.lst ((rs2.reverse.map fun r : FA => V.ref r.p) ++ [V.ref r2.p])) by rw [List.reverse_cons, List.map_append]; rfl)
        have hgl := g6.length
        rw [encVs_length] at hgl
        have hsz := (hz.2 _ (List.mem_cons_self ..)).1
        simp only [List.length_append, List.length_singleton] at hsz
        have m5 := m4.push g5 g6 hx4
        refine ⟨_, rfl, 1, rfl, fl, _, -1, V.ref r2.p, rfl, rfl, .of hfl4, atI_last _ _, r2.p, _, rfl, lF_gstack g1, .inl ⟨rfl, _, .of g5⟩, _, rfl, 1, rfl, r.s, ss, -1, x, rfl, rfl, .of h54, ex, r2.s, ss2, x, rfl, rfl, g5, by omega, ?_⟩
        exact q _ .non _ m5 (fun z => by cases z)
    | close nn mm =>
      obtain ⟨ra, x0, x1, x2, rfl, hra, q0, q1, q2⟩ := hrow.t3
      obtain rfl := q0.s
      obtain rfl := q1.s
      obtain rfl := q2.i
      have hm2 : (if mm ≤ f1.pile.length then some ((({ f1 with pile := f1.pile.take (f1.pile.length - mm) ++ [MV.clo nn (f1.pile.drop (f1.pile.length - mm))] } : Fr) :: fs), (none : Option MV)) else none) = some (gs, o) := er
      by_cases hle : mm ≤ f1.pile.length
      · rw [if_pos hle] at hm2
        cases hm2
        refine ⟨_, rfl, ra, _, 0, .str "close", rfl, rfl, hra, atI_nat (j := 0) rfl, ?_⟩
        refine ⟨_, rfl, rfl, _, rfl, iff' (by decide +kernel) ?_⟩
        refine ⟨_, rfl, rfl, _, rfl, iff' (by decide +kernel) ?_⟩
        refine ⟨_, rfl, rfl, _, rfl, iff' (by decide +kernel) ?_⟩
        refine ⟨_, rfl, by decide, fun t0 nt0 => ⟨t0, _, rfl, .inr (.of upd_same), rfl, rfl, _, rfl, ift (by decide +kernel) ?_⟩⟩
        have k5 : Keep [] H1 (upd H1 t0 (.tup [.str "shape", .str "close"])) := Keep.new nt0 (Keep.refl _ _)
        have m2 := m1.idle k5
        replace hra := k5.sqT hra
        replace h5 := k5.at_ _ _ (by simp) h5
        replace h6 := h6.keep k5
        generalize upd H1 t0 (.tup [.str "shape", .str "close"]) = H2 at m2 hra h5 h6 ⊢
        have hsz := (hz.2 _ (List.mem_cons_self ..)).1
        simp only [List.length_append, List.length_singleton, List.length_take] at hsz
        refine ⟨_, rfl, .inl ⟨rfl, _, .of h5⟩, _, rfl, _, rfl, ra, _, 1, .str nn, rfl, rfl, hra, atI_nat (j := 1) rfl, _, rfl, _, rfl, ra, _, 2, .int (mm : Int), rfl, rfl, hra, atI_nat (j := 2) rfl, r.s, mm, ss, rfl, h5, by omega, by omega, fun t H3 nt k3 e1 e2 => ⟨t, _, rfl, .inl ⟨.of e2, fun u nu => ⟨(by show 3 ≤ sizeLine; decide), fun p np => ?_⟩⟩⟩⟩
        have k6 : Keep [] H3 (upd (upd H3 u (.tup (ss.drop (ss.length - mm)))) p (.tup [.str "close", .str nn, .ref u])) := Keep.new np (Keep.new nu (Keep.refl _ _))
        have m3 := (m2.pile (ps := f1.pile.take (f1.pile.length - mm)) k3 e1 (by rw [encVs_take, ← hl6]; exact (h6.keep k3).take _)).idle k6
        have e16 := k6.at_ _ _ (by simp) e1
        have hat : At K (upd (upd H3 u (.tup (ss.drop (ss.length - mm)))) p (.tup [.str "close", .str nn, .ref u])) (.ref p) (encV (MV.clo nn (f1.pile.drop (f1.pile.length - mm)))) := by
          refine At.new upd_same (.cons (.str _) (.cons (.str _) (.cons ?_ .nil)))
          refine At.new (xs := ss.drop (ss.length - mm)) ((Keep.new np (Keep.refl [] _)).at_ _ _ (by simp) upd_same) ?_
          rw [encVs_drop, ← hl6]
          exact ((h6.keep k3).keep k6).drop _
        have hp4 : AtL K (upd (upd H3 u (.tup (ss.drop (ss.length - mm)))) p (.tup [.str "close", .str nn, .ref u])) (ss.take (ss.length - mm)) (encVs (f1.pile.take (f1.pile.length - mm))) := by
          rw [encVs_take, ← hl6]
          exact ((h6.keep k3).keep k6).take _
        have m4 := m3.push e16 hp4 hat
        refine ⟨r.s, _, _, rfl, rfl, e16, by rw [List.length_take]; omega, ?_⟩
        have fin : ∀ H', Keep [] _ H' → Q .non H' := fun H' k => q H' .non _ (m4.idle k) (fun z => by cases z)
        refine ⟨_, rfl, rfl, _, rfl, iff' (by decide +kernel) ?_⟩
        refine ⟨_, rfl, by decide, fun t5 nt5 => ⟨t5, _, rfl, .inr (.of upd_same), rfl, rfl, _, rfl, iff' (by decide +kernel) ?_⟩⟩
        refine ⟨_, rfl, rfl, _, rfl, iff' (by decide +kernel) ?_⟩
        exact fin _ (Keep.new nt5 (Keep.refl _ _))
      · rw [if_neg hle] at hm2
        cases hm2
    | own kd2 mm =>
    cases kd2 with
    | dull =>
      obtain ⟨ra, x0, rfl, hra, q0⟩ := id hrow.t1
      obtain rfl := q0.s
      refine ⟨_, rfl, ra, _, 0, .str "dull", rfl, rfl, hra, atI_nat (j := 0) rfl, ?_⟩
      cases er
      have hsz := (hz.2 _ (List.mem_cons_self ..)).1
      simp only [List.length_append, List.length_singleton] at hsz
      have m2 := m1.push (v := .dull) h5 h6 hrow
      refine ⟨_, rfl, rfl, _, rfl, iff' (by decide +kernel) ?_⟩
      refine ⟨_, rfl, rfl, _, rfl, ift (by decide +kernel) ?_⟩
      refine ⟨_, rfl, .inl ⟨rfl, _, .of h5⟩, _, rfl, r.s, ss, _, rfl, rfl, h5, by omega, ?_⟩
      have fin : ∀ H', Keep [] _ H' → Q .non H' := fun H' k => q H' .non _ (m2.idle k) (fun z => by cases z)
      refine ⟨_, rfl, rfl, _, rfl, iff' (by decide +kernel) ?_⟩
      refine ⟨_, rfl, by decide, fun t6 nt6 => ⟨t6, _, rfl, .inr (.of upd_same), rfl, rfl, _, rfl, iff' (by decide +kernel) ?_⟩⟩
      refine ⟨_, rfl, rfl, _, rfl, iff' (by decide +kernel) ?_⟩
      refine ⟨_, rfl, by decide, fun t7 nt7 => ⟨t7, _, rfl, .inr (.of upd_same), rfl, rfl, _, rfl, iff' (by decide +kernel) ?_⟩⟩
      refine ⟨_, rfl, rfl, _, rfl, iff' (by decide +kernel) ?_⟩
      exact fin _ (Keep.new nt7 (Keep.new nt6 (Keep.refl _ _)))
    | shape nn =>
      obtain ⟨ra, x0, x1, x2, rfl, hra, q0, q1, q2⟩ := hrow.t3
      obtain rfl := q0.s
      obtain rfl := q1.s
      obtain rfl := q2.i
      have hm2 : (if mm ≤ f1.pile.length then some ((({ f1 with pile := f1.pile.take (f1.pile.length - mm) ++ [MV.shape nn (f1.pile.drop (f1.pile.length - mm))] } : Fr) :: fs), (none : Option MV)) else none) = some (gs, o) := er
      by_cases hle : mm ≤ f1.pile.length
      · rw [if_pos hle] at hm2
        cases hm2
        refine ⟨_, rfl, ra, _, 0, .str "shape", rfl, rfl, hra, atI_nat (j := 0) rfl, ?_⟩
        refine ⟨_, rfl, rfl, _, rfl, iff' (by decide +kernel) ?_⟩
        refine ⟨_, rfl, rfl, _, rfl, iff' (by decide +kernel) ?_⟩
        refine ⟨_, rfl, rfl, _, rfl, iff' (by decide +kernel) ?_⟩
        refine ⟨_, rfl, by decide, fun t0 nt0 => ⟨t0, _, rfl, .inr (.of upd_same), rfl, rfl, _, rfl, ift (by decide +kernel) ?_⟩⟩
        have k5 : Keep [] H1 (upd H1 t0 (.tup [.str "shape", .str "close"])) := Keep.new nt0 (Keep.refl _ _)
        have m2 := m1.idle k5
        replace hra := k5.sqT hra
        replace h5 := k5.at_ _ _ (by simp) h5
        replace h6 := h6.keep k5
        generalize upd H1 t0 (.tup [.str "shape", .str "close"]) = H2 at m2 hra h5 h6 ⊢
        have hsz := (hz.2 _ (List.mem_cons_self ..)).1
        simp only [List.length_append, List.length_singleton, List.length_take] at hsz
        refine ⟨_, rfl, .inl ⟨rfl, _, .of h5⟩, _, rfl, _, rfl, ra, _, 1, .str nn, rfl, rfl, hra, atI_nat (j := 1) rfl, _, rfl, _, rfl, ra, _, 2, .int (mm : Int), rfl, rfl, hra, atI_nat (j := 2) rfl, r.s, mm, ss, rfl, h5, by omega, by omega, fun t H3 nt k3 e1 e2 => ⟨t, _, rfl, .inl ⟨.of e2, fun u nu => ⟨(by show 3 ≤ sizeLine; decide), fun p np => ?_⟩⟩⟩⟩
        have k6 : Keep [] H3 (upd (upd H3 u (.tup (ss.drop (ss.length - mm)))) p (.tup [.str "shape", .str nn, .ref u])) := Keep.new np (Keep.new nu (Keep.refl _ _))
        have m3 := (m2.pile (ps := f1.pile.take (f1.pile.length - mm)) k3 e1 (by rw [encVs_take, ← hl6]; exact (h6.keep k3).take _)).idle k6
        have e16 := k6.at_ _ _ (by simp) e1
        have hat : At K (upd (upd H3 u (.tup (ss.drop (ss.length - mm)))) p (.tup [.str "shape", .str nn, .ref u])) (.ref p) (encV (MV.shape nn (f1.pile.drop (f1.pile.length - mm)))) := by
          refine At.new upd_same (.cons (.str _) (.cons (.str _) (.cons ?_ .nil)))
          refine At.new (xs := ss.drop (ss.length - mm)) ((Keep.new np (Keep.refl [] _)).at_ _ _ (by simp) upd_same) ?_
          rw [encVs_drop, ← hl6]
          exact ((h6.keep k3).keep k6).drop _
        have hp4 : AtL K (upd (upd H3 u (.tup (ss.drop (ss.length - mm)))) p (.tup [.str "shape", .str nn, .ref u])) (ss.take (ss.length - mm)) (encVs (f1.pile.take (f1.pile.length - mm))) := by
          rw [encVs_take, ← hl6]
          exact ((h6.keep k3).keep k6).take _
        have m4 := m3.push e16 hp4 hat
        refine ⟨r.s, _, _, rfl, rfl, e16, by rw [List.length_take]; omega, ?_⟩
        have fin : ∀ H', Keep [] _ H' → Q .non H' := fun H' k => q H' .non _ (m4.idle k) (fun z => by cases z)
        refine ⟨_, rfl, rfl, _, rfl, iff' (by decide +kernel) ?_⟩
        refine ⟨_, rfl, by decide, fun t8 nt8 => ⟨t8, _, rfl, .inr (.of upd_same), rfl, rfl, _, rfl, iff' (by decide +kernel) ?_⟩⟩
        refine ⟨_, rfl, rfl, _, rfl, iff' (by decide +kernel) ?_⟩
        exact fin _ (Keep.new nt8 (Keep.refl _ _))
      · rw [if_neg hle] at hm2
        cases hm2
    | call nn =>
      obtain ⟨ra, x0, x1, x2, rfl, hra, q0, q1, q2⟩ := hrow.t3
      obtain rfl := q0.s
      obtain rfl := q1.s
      obtain rfl := q2.i
      have hm2 : (if mm ≤ f1.pile.length then (codeIn bs nn).map fun c => ((⟨c, 0, f1.pile.drop (f1.pile.length - mm), []⟩ : Fr) :: { f1 with pile := f1.pile.take (f1.pile.length - mm) } :: fs, (none : Option MV)) else none) = some (gs, o) := er
      by_cases hle : mm ≤ f1.pile.length
      · rw [if_pos hle] at hm2
        obtain ⟨cc, ecc, eg⟩ := Option.map_eq_some_iff.mp hm2
        cases eg
        refine ⟨_, rfl, ra, _, 0, .str "call", rfl, rfl, hra, atI_nat (j := 0) rfl, ?_⟩
        refine ⟨_, rfl, rfl, _, rfl, iff' (by decide +kernel) ?_⟩
        refine ⟨_, rfl, rfl, _, rfl, iff' (by decide +kernel) ?_⟩
        refine ⟨_, rfl, rfl, _, rfl, iff' (by decide +kernel) ?_⟩
        refine ⟨_, rfl, by decide, fun t0 nt0 => ⟨t0, _, rfl, .inr (.of upd_same), rfl, rfl, _, rfl, iff' (by decide +kernel) ?_⟩⟩
        have k5 : Keep [] H1 (upd H1 t0 (.tup [.str "shape", .str "close"])) := Keep.new nt0 (Keep.refl _ _)
        have m2 := m1.idle k5
        replace hra := k5.sqT hra
        replace h5 := k5.at_ _ _ (by simp) h5
        replace h6 := h6.keep k5
        replace hfl := k5.at_ _ _ (by simp) hfl
        generalize upd H1 t0 (.tup [.str "shape", .str "close"]) = H2 at m2 hra h5 h6 hfl ⊢
        refine ⟨_, rfl, rfl, _, rfl, ift (by decide +kernel) ?_⟩
        refine ⟨_, rfl, .inl ⟨rfl, _, .of hfl⟩, fun p np => ?_⟩
        have kp := Keep.new (o := .dK []) np (Keep.refl [] H2)
        have mp := m2.idle kp
        have hrap := kp.sqT hra
        have h5p := kp.at_ _ _ (by simp) h5
        have h6p := h6.keep kp
        have nfp := m2.fresh np
        have n0p := m2.keep.free np
        have hpp : upd H2 p (.dK []) p = some (.dK []) := upd_same
        generalize upd H2 p (.dK []) = Hp1 at kp mp hrap h5p h6p hpp ⊢
        obtain ⟨kvs, hcd, hcode⟩ := mp.codes
        obtain ⟨ca2, hca, hcat⟩ := hcode nn cc ecc
        refine ⟨_, rfl, _, rfl, ra, _, 1, .str nn, rfl, rfl, hrap, atI_nat (j := 1) rfl, kd, _, rfl, hca ▸ DGet.k (k := Sum.inr nn) hcd, _, rfl, _, rfl, ra, _, 2, .int (mm : Int), rfl, rfl, hrap, atI_nat (j := 2) rfl, r.s, mm, ss, rfl, h5p, by omega, by omega, fun t H3 nt k3 e1 e2 => ⟨by decide, fun sl nsl => ?_⟩⟩
        have nps : p ≠ r.s := fun e => nfp (by rw [e, owns_cons]; simp)
        have hp3 := k3.at_ _ _ (by simp [nps]) hpp
        have m3 := m2
        have m3 := mp.pile (ps := f1.pile.take (f1.pile.length - mm)) k3 e1 (by rw [encVs_take, ← hl6]; exact (h6p.keep k3).take _)
        have ks := Keep.new (o := .lst []) nsl (Keep.refl [] H3)
        have m4 := m3.idle ks
        have nts : t ≠ sl := ne_of_none e2 nsl
        have n0t : t ∉ kd :: fl :: owns (r :: rs) := mp.fresh nt
        have n0s : sl ∉ kd :: fl :: owns (r :: rs) := m3.fresh nsl
        refine ⟨ks.at_ _ _ (by simp) hp3, lF (.ref ca2) 0 t sl, rfl, (by show 4 ≤ 15; decide), ?_⟩
        rw [lF_mk]
        have hfl4 := m4.frames
        have nfl : fl ≠ p := fun e => nfp (by rw [e]; simp)
        have hrl := m4.ok.length
        have hz1 := hz.1
        simp only [List.length_cons] at hrl hz1
        have m5 := m4.frame (c := ca2) (ks.at_ _ _ (by simp) hp3) ((hcat.keep k3).keep ks) (ks.at_ _ _ (by simp) e2) (ws := f1.pile.drop (f1.pile.length - mm)) (by rw [encVs_drop, ← hl6]; exact ((h6p.keep k3).keep ks).drop _) upd_same nts (fun a z => by
          simp only [List.mem_cons, List.not_mem_nil, or_false] at z
          rcases z with rfl | rfl | rfl
          · exact nfp
          · exact n0t
          · exact n0s) (fun a z => by
          simp only [List.mem_cons, List.not_mem_nil, or_false] at z
          rcases z with rfl | rfl | rfl
          · exact n0p
          · exact mp.keep.free nt
          · exact m3.keep.free nsl)
        refine ⟨fl, _, _, rfl, rfl, by rw [upd_ne nfl]; exact hfl4, by rw [List.length_map, List.length_reverse, List.length_cons]; omega, ?_⟩
        have fin : ∀ H', Keep [] _ H' → Q .non H' := fun H' k => q H' .non _ (m5.idle k) (fun z => by cases z)
        refine ⟨_, rfl, by decide, fun t9 nt9 => ⟨t9, _, rfl, .inr (.of upd_same), rfl, rfl, _, rfl, iff' (by decide +kernel) ?_⟩⟩
        refine ⟨_, rfl, rfl, _, rfl, iff' (by decide +kernel) ?_⟩
        exact fin _ (Keep.new nt9 (Keep.refl _ _))
      · rw [if_neg hle] at hm2
        cases hm2
    | give =>
      obtain ⟨ra, x0, rfl, hra, q0⟩ := id hrow.t1
      obtain rfl := q0.s
      have cut : ∃ nm cvs ex cc, f1.pile.drop (f1.pile.length - 2) = .clo nm cvs :: ex ∧ ex.length + 1 = 2 ∧ codeIn bs nm = some cc ∧ gs = ⟨cc, 0, cvs ++ ex, []⟩ :: { f1 with pile := f1.pile.take (f1.pile.length - 2) } :: fs ∧ o = none := by
        simp only [mrow] at er
        split at er
        · next nm cvs x e =>
          obtain ⟨cc, e1, e2⟩ := Option.map_eq_some_iff.mp er
          cases e2
          exact ⟨nm, cvs, _, cc, e, rfl, e1, by simp, rfl⟩
        · cases er
      obtain ⟨nm, cvs, ex, cc, edr, exl, ecc, rfl, rfl⟩ := cut
      have hle : 2 ≤ f1.pile.length := by
        have := congrArg List.length edr
        rw [List.length_drop, List.length_cons] at this
        omega
      refine ⟨_, rfl, ra, _, 0, .str "give", rfl, rfl, hra, atI_nat (j := 0) rfl, ?_⟩
      refine ⟨_, rfl, rfl, _, rfl, iff' (by decide +kernel) ?_⟩
      refine ⟨_, rfl, rfl, _, rfl, iff' (by decide +kernel) ?_⟩
      refine ⟨_, rfl, rfl, _, rfl, iff' (by decide +kernel) ?_⟩
      refine ⟨_, rfl, by decide, fun t0 nt0 => ⟨t0, _, rfl, .inr (.of upd_same), rfl, rfl, _, rfl, iff' (by decide +kernel) ?_⟩⟩
      refine ⟨_, rfl, rfl, _, rfl, iff' (by decide +kernel) ?_⟩
      refine ⟨_, rfl, by decide, fun t1 nt1 => ⟨t1, _, rfl, .inr (.of upd_same), rfl, rfl, _, rfl, ift (by decide +kernel) ?_⟩⟩
      have k5 : Keep [] H1 _ := Keep.new (o := .tup [.str "give", .str "go"]) nt1 (Keep.new (o := .tup [.str "shape", .str "close"]) nt0 (Keep.refl _ _))
      have m2 := m1.idle k5
      replace h5 := k5.at_ _ _ (by simp) h5
      replace h6 := h6.keep k5
      generalize upd (upd H1 t0 (.tup [.str "shape", .str "close"])) t1 (.tup [.str "give", .str "go"]) = H2 at m2 h5 h6
      have ew : (if decide (V.str "give" = V.str "give") = true then (1 : Int) else 0) = ((2 : Nat) : Int) - 1 := by rw [if_pos (by decide +kernel)]; rfl
      refine ⟨_, rfl, _, rfl, rfl, .inr ⟨_, rfl, _, _, rfl, rfl, r.s, 2, ss, (by rw [ew]; rfl), h5, by omega, by omega, fun t H3 nt k3 e1 e2 => ?_⟩⟩
      have m3 := m2.pile (ps := f1.pile.take (f1.pile.length - 2)) k3 e1 (by rw [encVs_take, ← hl6]; exact (h6.keep k3).take _)
      have hdr : AtL K H3 (ss.drop (ss.length - 2)) (encVs (.clo nm cvs :: ex)) := by
        rw [← edr, encVs_drop, ← hl6]
        exact (h6.keep k3).drop _
      obtain ⟨y1, ys, eys, hy1, hys⟩ := AtL.cons' hdr
      rw [eys] at e2
      obtain ⟨ya, u0, u1, u2, rfl, hya, z0, z1, z2⟩ := hy1.t3
      obtain rfl := z1.s
      obtain ⟨ua, uv, rfl, hua, huv⟩ := z2.t
      have hysl := hys.length
      rw [encVs_length] at hysl
      have huvl := huv.length
      rw [encVs_length] at huvl
      have hsz := (hz.2 _ (List.mem_cons_self ..)).2
      simp only [List.length_append] at hsz
      refine ⟨_, rfl, t, _, 0, .ref ya, rfl, rfl, .of e2, atI_nat (j := 0) rfl, ya, _, 2, .ref ua, rfl, rfl, hya, atI_nat (j := 2) rfl, ua, uv, rfl, .inr hua, fun g ng => ?_⟩
      have kg := Keep.new (o := .lst uv) ng (Keep.refl [] H3)
      refine ⟨_, rfl, _, rfl, t, _, rfl, .of (kg.at_ _ _ (by simp) e2), fun h nh => ?_⟩
      rw [cut1]
      have kh := kg.new_ (o := .lst ys) nh
      refine ⟨g, h, uv, ys, rfl, rfl, (Keep.new nh (Keep.refl [] _)).at_ _ _ (by simp) upd_same, upd_same, by omega, fun l nl => ?_⟩
      have kl := kh.new_ (o := .lst (uv ++ ys)) nl
      have m4 := m3.idle kl
      have e24 := kl.at_ _ _ (by simp) e2
      have hya4 := kl.sqT hya
      have hx4 := (huv.keep kl).append (hys.keep kl)
      have hl4' : upd (upd (upd H3 g (.lst uv)) h (.lst ys)) l (.lst (uv ++ ys)) l = some (.lst (uv ++ ys)) := upd_same
      have nl3 : l ∉ kd :: fl :: owns (r :: rs) := m3.fresh (new_old (new_old nl))
      have nl0 : H0 l = none := m3.keep.free (new_old (new_old nl))
      generalize upd (upd (upd H3 g (.lst uv)) h (.lst ys)) l (.lst (uv ++ ys)) = H4 at m4 e24 hya4 hx4 hl4'
      have hfl4 := m4.frames
      refine ⟨_, rfl, .inl ⟨rfl, _, .of hfl4⟩, fun p np => ?_⟩
      have kp := Keep.new (o := .dK []) np (Keep.refl [] H4)
      have mp := m4.idle kp
      have nfp := m4.fresh np
      have n0p := m4.keep.free np
      have e2p := kp.at_ _ _ (by simp) e24
      have hyap := kp.sqT hya4
      have hxp := hx4.keep kp
      have hlp := kp.at_ _ _ (by simp) hl4'
      have hpp : upd H4 p (.dK []) p = some (.dK []) := upd_same
      generalize upd H4 p (.dK []) = Hp1 at mp e2p hyap hxp hlp hpp
      obtain ⟨kvs, hcd, hcode⟩ := mp.codes
      obtain ⟨ca2, hca, hcat⟩ := hcode nm cc ecc
      refine ⟨_, rfl, _, rfl, t, _, 0, .ref ya, rfl, rfl, .of e2p, atI_nat (j := 0) rfl, ya, _, 1, .str nm, rfl, rfl, hyap, atI_nat (j := 1) rfl, kd, _, rfl, hca ▸ DGet.k (k := Sum.inr nm) hcd, _, rfl, by decide, fun sl nsl => ?_⟩
      have ks := Keep.new (o := .lst []) nsl (Keep.refl [] Hp1)
      have m5 := mp.idle ks
      have nls : l ≠ sl := ne_of_none hlp nsl
      refine ⟨ks.at_ _ _ (by simp) hpp, lF (.ref ca2) 0 l sl, rfl, (by show 4 ≤ 15; decide), ?_⟩
      rw [lF_mk]
      have hfl5 := m5.frames
      have nfl : fl ≠ p := fun e => nfp (by rw [e]; simp)
      have hrl := m5.ok.length
      have hz1 := hz.1
      simp only [List.length_cons] at hrl hz1
      have m6 := m5.frame (c := ca2) (ws := cvs ++ ex) (ks.at_ _ _ (by simp) hpp) (hcat.keep ks) (ks.at_ _ _ (by simp) hlp) (by rw [encVs_append]; exact hxp.keep ks) upd_same nls (fun a z => by
        simp only [List.mem_cons, List.not_mem_nil, or_false] at z
        rcases z with rfl | rfl | rfl
        · exact nfp
        · exact nl3
        · exact mp.fresh nsl) (fun a z => by
        simp only [List.mem_cons, List.not_mem_nil, or_false] at z
        rcases z with rfl | rfl | rfl
        · exact n0p
        · exact nl0
        · exact mp.keep.free nsl)
      refine ⟨fl, _, _, rfl, rfl, by rw [upd_ne nfl]; exact hfl5, by rw [List.length_map, List.length_reverse, List.length_cons]; omega, ?_⟩
      have fin : ∀ H', Keep [] _ H' → Q .non H' := fun H' k => q H' .non _ (m6.idle k) (fun z => by cases z)
      refine ⟨_, rfl, rfl, _, rfl, iff' (by decide +kernel) ?_⟩
      exact fin _ (Keep.refl _ _)
    | go =>
      obtain ⟨ra, x0, rfl, hra, q0⟩ := id hrow.t1
      obtain rfl := q0.s
      have cut : ∃ nm cvs ex cc, f1.pile.drop (f1.pile.length - 1) = .clo nm cvs :: ex ∧ ex.length + 1 = 1 ∧ codeIn bs nm = some cc ∧ gs = ⟨cc, 0, cvs ++ ex, []⟩ :: { f1 with pile := f1.pile.take (f1.pile.length - 1) } :: fs ∧ o = none := by
        simp only [mrow] at er
        split at er
        · next nm cvs e =>
          obtain ⟨cc, e1, e2⟩ := Option.map_eq_some_iff.mp er
          cases e2
          exact ⟨nm, cvs, _, cc, e, rfl, e1, by simp, rfl⟩
        · cases er
      obtain ⟨nm, cvs, ex, cc, edr, exl, ecc, rfl, rfl⟩ := cut
      have hle : 1 ≤ f1.pile.length := by
        have := congrArg List.length edr
        rw [List.length_drop, List.length_cons] at this
        omega
      refine ⟨_, rfl, ra, _, 0, .str "go", rfl, rfl, hra, atI_nat (j := 0) rfl, ?_⟩
      refine ⟨_, rfl, rfl, _, rfl, iff' (by decide +kernel) ?_⟩
      refine ⟨_, rfl, rfl, _, rfl, iff' (by decide +kernel) ?_⟩
      refine ⟨_, rfl, rfl, _, rfl, iff' (by decide +kernel) ?_⟩
      refine ⟨_, rfl, by decide, fun t0 nt0 => ⟨t0, _, rfl, .inr (.of upd_same), rfl, rfl, _, rfl, iff' (by decide +kernel) ?_⟩⟩
      refine ⟨_, rfl, rfl, _, rfl, iff' (by decide +kernel) ?_⟩
      refine ⟨_, rfl, by decide, fun t1 nt1 => ⟨t1, _, rfl, .inr (.of upd_same), rfl, rfl, _, rfl, ift (by decide +kernel) ?_⟩⟩
      have k5 : Keep [] H1 _ := Keep.new (o := .tup [.str "give", .str "go"]) nt1 (Keep.new (o := .tup [.str "shape", .str "close"]) nt0 (Keep.refl _ _))
      have m2 := m1.idle k5
      replace h5 := k5.at_ _ _ (by simp) h5
      replace h6 := h6.keep k5
      generalize upd (upd H1 t0 (.tup [.str "shape", .str "close"])) t1 (.tup [.str "give", .str "go"]) = H2 at m2 h5 h6
      have ew : (if decide (V.str "go" = V.str "give") = true then (1 : Int) else 0) = ((1 : Nat) : Int) - 1 := by rw [if_neg (by decide +kernel)]; rfl
      refine ⟨_, rfl, _, rfl, rfl, .inr ⟨_, rfl, _, _, rfl, rfl, r.s, 1, ss, (by rw [ew]; rfl), h5, by omega, by omega, fun t H3 nt k3 e1 e2 => ?_⟩⟩
      have m3 := m2.pile (ps := f1.pile.take (f1.pile.length - 1)) k3 e1 (by rw [encVs_take, ← hl6]; exact (h6.keep k3).take _)
      have hdr : AtL K H3 (ss.drop (ss.length - 1)) (encVs (.clo nm cvs :: ex)) := by
        rw [← edr, encVs_drop, ← hl6]
        exact (h6.keep k3).drop _
      obtain ⟨y1, ys, eys, hy1, hys⟩ := AtL.cons' hdr
      rw [eys] at e2
      obtain ⟨ya, u0, u1, u2, rfl, hya, z0, z1, z2⟩ := hy1.t3
      obtain rfl := z1.s
      obtain ⟨ua, uv, rfl, hua, huv⟩ := z2.t
      have hysl := hys.length
      rw [encVs_length] at hysl
      have huvl := huv.length
      rw [encVs_length] at huvl
      have hsz := (hz.2 _ (List.mem_cons_self ..)).2
      simp only [List.length_append] at hsz
      refine ⟨_, rfl, t, _, 0, .ref ya, rfl, rfl, .of e2, atI_nat (j := 0) rfl, ya, _, 2, .ref ua, rfl, rfl, hya, atI_nat (j := 2) rfl, ua, uv, rfl, .inr hua, fun g ng => ?_⟩
      have kg := Keep.new (o := .lst uv) ng (Keep.refl [] H3)
      refine ⟨_, rfl, _, rfl, t, _, rfl, .of (kg.at_ _ _ (by simp) e2), fun h nh => ?_⟩
      rw [cut1]
      have kh := kg.new_ (o := .lst ys) nh
      refine ⟨g, h, uv, ys, rfl, rfl, (Keep.new nh (Keep.refl [] _)).at_ _ _ (by simp) upd_same, upd_same, by omega, fun l nl => ?_⟩
      have kl := kh.new_ (o := .lst (uv ++ ys)) nl
      have m4 := m3.idle kl
      have e24 := kl.at_ _ _ (by simp) e2
      have hya4 := kl.sqT hya
      have hx4 := (huv.keep kl).append (hys.keep kl)
      have hl4' : upd (upd (upd H3 g (.lst uv)) h (.lst ys)) l (.lst (uv ++ ys)) l = some (.lst (uv ++ ys)) := upd_same
      have nl3 : l ∉ kd :: fl :: owns (r :: rs) := m3.fresh (new_old (new_old nl))
      have nl0 : H0 l = none := m3.keep.free (new_old (new_old nl))
      generalize upd (upd (upd H3 g (.lst uv)) h (.lst ys)) l (.lst (uv ++ ys)) = H4 at m4 e24 hya4 hx4 hl4'
      have hfl4 := m4.frames
      refine ⟨_, rfl, .inl ⟨rfl, _, .of hfl4⟩, fun p np => ?_⟩
      have kp := Keep.new (o := .dK []) np (Keep.refl [] H4)
      have mp := m4.idle kp
      have nfp := m4.fresh np
      have n0p := m4.keep.free np
      have e2p := kp.at_ _ _ (by simp) e24
      have hyap := kp.sqT hya4
      have hxp := hx4.keep kp
      have hlp := kp.at_ _ _ (by simp) hl4'
      have hpp : upd H4 p (.dK []) p = some (.dK []) := upd_same
      generalize upd H4 p (.dK []) = Hp1 at mp e2p hyap hxp hlp hpp
      obtain ⟨kvs, hcd, hcode⟩ := mp.codes
      obtain ⟨ca2, hca, hcat⟩ := hcode nm cc ecc
      refine ⟨_, rfl, _, rfl, t, _, 0, .ref ya, rfl, rfl, .of e2p, atI_nat (j := 0) rfl, ya, _, 1, .str nm, rfl, rfl, hyap, atI_nat (j := 1) rfl, kd, _, rfl, hca ▸ DGet.k (k := Sum.inr nm) hcd, _, rfl, by decide, fun sl nsl => ?_⟩
      have ks := Keep.new (o := .lst []) nsl (Keep.refl [] Hp1)
      have m5 := mp.idle ks
      have nls : l ≠ sl := ne_of_none hlp nsl
      refine ⟨ks.at_ _ _ (by simp) hpp, lF (.ref ca2) 0 l sl, rfl, (by show 4 ≤ 15; decide), ?_⟩
      rw [lF_mk]
      have hfl5 := m5.frames
      have nfl : fl ≠ p := fun e => nfp (by rw [e]; simp)
      have hrl := m5.ok.length
      have hz1 := hz.1
      simp only [List.length_cons] at hrl hz1
      have m6 := m5.frame (c := ca2) (ws := cvs ++ ex) (ks.at_ _ _ (by simp) hpp) (hcat.keep ks) (ks.at_ _ _ (by simp) hlp) (by rw [encVs_append]; exact hxp.keep ks) upd_same nls (fun a z => by
        simp only [List.mem_cons, List.not_mem_nil, or_false] at z
        rcases z with rfl | rfl | rfl
        · exact nfp
        · exact nl3
        · exact mp.fresh nsl) (fun a z => by
        simp only [List.mem_cons, List.not_mem_nil, or_false] at z
        rcases z with rfl | rfl | rfl
        · exact n0p
        · exact nl0
        · exact mp.keep.free nsl)
      refine ⟨fl, _, _, rfl, rfl, by rw [upd_ne nfl]; exact hfl5, by rw [List.length_map, List.length_reverse, List.length_cons]; omega, ?_⟩
      have fin : ∀ H', Keep [] _ H' → Q .non H' := fun H' k => q H' .non _ (m6.idle k) (fun z => by cases z)
      refine ⟨_, rfl, rfl, _, rfl, iff' (by decide +kernel) ?_⟩
      exact fin _ (Keep.refl _ _)
end
end K46
/-! K46L5 -/
set_option maxHeartbeats 4000000
namespace K46
open PySem PySem.Spec PyProof.Rows L2 C8
section
variable {K : PySem.W.Frag} {H : Hp}
def encKC (b : Bk) : D := .tup [.str b.name, encC b.code]
theorem codeIn_cons (b : Bk) (bs : List Bk) (n : Str) : codeIn (b :: bs) n = if b.name = n then some b.code else codeIn bs n := by
  unfold codeIn
  by_cases e : b.name = n
  · rw [if_pos e, List.find?_cons_of_pos (by simpa using e)]
    rfl
  · rw [if_neg e, List.find?_cons_of_neg (by simpa using e)]
theorem pairs_of : ∀ {bs : List Bk} {ys : List V}, AtL K H ys (bs.map encKC) → ∃ (ps : List Addr) (kvs : List (Key × V)), ys = ps.map V.ref ∧ Paired (fun p kv => SqT K H p [kV kv.1, kv.2]) ps kvs ∧
    ∀ acc : List (Key × V), ((bs.map (·.name)).Nodup → ∀ n c, codeIn bs n = some c → ∃ a, valV (mergeK acc kvs) (.inr n) = some (.ref a) ∧ At K H (.ref a) (encC c)) ∧ ∀ n, n ∉ bs.map (·.name) → valV (mergeK acc kvs) (.inr n) = valV acc (.inr n)
  | [], _, h => by
    cases h
    exact ⟨[], [], rfl, .nil, fun acc => ⟨fun _ n c e => (by cases e), fun _ _ => rfl⟩⟩
  | b :: bs, _, h => by
    obtain ⟨y, ys, rfl, h1, h2⟩ := AtL.cons' h
    obtain ⟨ps, kvs, rfl, p, r⟩ := pairs_of h2
    obtain ⟨a, x1, x2, rfl, hq, z1, z2⟩ := h1.t2
    obtain rfl := z1.s
    obtain ⟨ca, cs, rfl, _⟩ := id z2.t
    refine ⟨a :: ps, (.inr b.name, .ref ca) :: kvs, rfl, .cons hq p, fun acc => ?_⟩
    obtain ⟨r1, r2⟩ := r (putK acc (.inr b.name) (.ref ca))
    refine ⟨fun nd n c e => ?_, fun n hn => ?_⟩
    · have nd' : b.name ∉ bs.map (·.name) ∧ (bs.map (·.name)).Nodup := List.nodup_cons.mp nd
      rw [codeIn_cons] at e
      by_cases en : b.name = n
      · rw [if_pos en] at e
        cases e
        subst en
        refine ⟨ca, ?_, z2⟩
        show valV (mergeK (putK acc (.inr b.name) (.ref ca)) kvs) _ = _
        rw [r2 _ nd'.1, valV_put, if_pos rfl]
      · rw [if_neg en] at e
        exact r1 nd'.2 n c e
    · simp only [List.map_cons, List.mem_cons, not_or] at hn
      show valV (mergeK (putK acc (.inr b.name) (.ref ca)) kvs) _ = _
      rw [r2 n hn.2, valV_put, if_neg (fun e => hn.1 (Sum.inr.inj e))]
end
end K46
/-! K46L6 -/
set_option maxHeartbeats 4000000
namespace K46
open PySem PySem.Spec PyProof.Rows L2 C8
section
variable {P : Program} {w : World} {K : PySem.W.Frag} {mg : Str → Option Value} {base : Heap}
def sp_machine (K : PySem.W.Frag) : Sp := fun vs H Q _ => ∃ (bv : V) (bs : List Bk) (c : List Ins) (n : Nat) (v : MV), vs = [bv] ∧ At K H bv (encBs bs) ∧ (bs.map (·.name)).Nodup ∧ bs.length < sizeLine ∧ codeIn bs "." = some c ∧ TellsS bs n [⟨c, 0, [], []⟩] v ∧ n ≤ 2000000 ∧
  ∀ t x H', Keep [] H H' → SqT K H' t [x, .int (n : Int)] → At K H' x (encV v) → Q (.ref t) H'
def LawW (K : PySem.W.Frag) (H1 : Hp) (bv : V) (kd fl : Addr) (bs : List Bk) (n : Nat) (v : MV) (j : Nat) (σ : L2.St) (H' : Hp) : Prop :=
  ∃ (g : Nat) (rs : List FA) (fs : List Fr) (x : V) (o2 : Option V), σ = [some bv, some (.ref kd), o2, some (.ref fl), some (.int (g : Int)), some x] ∧ LSt K H1 kd fl bs rs fs H' ∧ Small fs ∧ g ≤ n ∧
    ((j + g = n ∧ TellsS bs j fs v) ∨ (j = 0 ∧ g = n ∧ fs = [] ∧ At K H' x (encV v)))
theorem ok_machine (T : Tx K mg) : Cal P w K mg base 3 "_law_machine" (sp_machine K) [] := by
  refine cal_mk T.f_machine T.g_machine sc_machine (fun _ _ _ _ _ _ us hl => match us, hl with | [_], _ => rfl) (fun vs H Q E h => ?_) (fun cdv A outer s0 H vs Q E hr h => ?_)
  · obtain ⟨bv, bs, c, n, v, rfl, _⟩ := h
    rfl
  · obtain ⟨bv, bs, c, n, v, rfl, hb, nd, hz, hc, ht, hn, q⟩ := h
    have c_gone := ok_gone (P := P) (w := w) (base := base) T
    refine ⟨_, (pss_cons (ps_set (i := 1) sc_machine.nd rfl (Or.inl rfl) (pe_callTy (call_dictP rfl) (by rfl) T.z_dict (by decide +kernel) (pa_cons (pe_lc (g := (gName 2)) rfl sc_machine.nd (pi_tup (pv 0)) (blkOk_by (own := [("_law_block", 2)]) (N := ["_law_blocks", "_law_known", "_law_block", "_law_frames", "_law_many", "_law_told"]) (sc := defScope s_machine) (by decide +kernel)) (fun _ _ _ _ _ => (pg_name (i := 2) sc_machine.nd rfl (Or.inl rfl))) (fun _ _ _ _ _ => pts_nil) (fun _ _ _ _ _ => (pe_tup (pa_cons (pe_ix (ix_tupK (K := K) rfl) (pv 2) pe_int (fun _ _ => rfl)) (pa_cons (pe_ix (ix_tupK (K := K) rfl) (pv 2) pe_int (fun _ _ => rfl)) pa_nil))))) pa_nil)))
      (pss_cons (ps_par3 (i := 3) (j := 4) (l := 5) (by rfl) sc_machine.nd rfl rfl rfl (by decide) (by decide) (by decide) rfl rfl rfl (pa_cons (pe_lst (pa_cons (pe_disp (pps_cons pe_str (pe_dget (hu_of hr) (pv 1) pe_str (fun _ _ => rfl)) (pps_cons pe_str pe_int (pps_cons pe_str (pe_lst pa_nil) (pps_cons pe_str (pe_lst pa_nil) pps_nil)))) (by rfl) (by rfl) (fun z => by cases z) (by decide)) pa_nil)) (pa_cons pe_int (pa_cons pe_non pa_nil))) (by rfl))
      (pss_cons (ps_while PassesOwn.never (PW.pt (pw_and (pt_cmpR (op_ne0 hr.units0) (pv 3) (pe_lst pa_nil) (nomark _)) (pw_and1 (pt_cmpR op_lt (pv 4) pe_int (nomark _))))) (pss_cons (ps_set (i := 5) sc_machine.nd rfl (Or.inl rfl) (pe_c c_gone hr (by omega) rfl (pa_cons (pv 1) (pa_cons (pv 3) pa_nil))))
      (pss_one (ps_set (i := 4) sc_machine.nd rfl (Or.inl rfl) (pe_op op_add (pv 4) pe_int)))))
      (pss_one (ps_ret (pe_tup (pa_cons (pv 5) (pa_cons (pv 4) pa_nil)))))))), ?_⟩
    obtain ⟨ba, bxs, rfl, hba, hbx⟩ := hb.t
    have hbl := hbx.length
    rw [List.length_map] at hbl
    refine ⟨_, rfl, ba, rfl, ⟨bxs, hba⟩, fun D nD => lc_data (K := K) (walk_tup (xs := bxs)) (bs.map encKC) (by rw [List.length_map]; exact hbl.symm) (by omega) nD (fun H k => k.sqT hba) (fun i x H1 H2 d Qn F hi k1 y1 e1 hQ => ?_) (fun ys H1 k1 hD hys => ?_)⟩
    · obtain ⟨rfl, ex⟩ := y1
      obtain ⟨d', e2, hx⟩ := hbx.get' ex
      rw [List.getElem?_map] at e1 e2
      cases eb : bs[i]? with
      | none => rw [eb] at e1; cases e1
      | some b =>
        rw [eb] at e1 e2
        cases e1
        cases e2
        obtain ⟨a, x1, x2, x3, rfl, ha, z1, z2, z3⟩ := (hx.keep k1).t3
        refine ⟨rfl, tyes ?_⟩
        refine ⟨_, rfl, a, _, 0, x1, rfl, rfl, ha, atI_nat (j := 0) rfl, _, rfl, a, _, 2, x3, rfl, rfl, ha, atI_nat (j := 2) rfl, (by show 2 ≤ sizeLine; decide), fun p np => hQ _ _ (Keep.new np (Keep.refl _ _)) (At.new upd_same (.cons (z1.keep (Keep.new np (Keep.refl [] _))) (.cons (z3.keep (Keep.new np (Keep.refl [] _))) .nil)))⟩
    · obtain ⟨ps, kvs, rfl, hpp, hkv⟩ := pairs_of hys
      obtain ⟨kv1, _⟩ := hkv []
      refine ⟨D, ps, kvs, rfl, .of hD, hpp, fun kd nkd => ?_⟩
      have kk := Keep.new (o := .dK (mergeK [] kvs)) nkd (Keep.refl [] H1)
      have hkd : upd H1 kd (.dK (mergeK [] kvs)) kd = some (.dK (mergeK [] kvs)) := upd_same
      have hcodes : CodesOk K (upd H1 kd (.dK (mergeK [] kvs))) kd bs := ⟨_, hkd, fun n c e => by
        obtain ⟨a, z1, z2⟩ := kv1 nd n c e
        exact ⟨a, z1, z2.keep kk⟩⟩
      have k2 := k1.trans kk
      generalize upd H1 kd (.dK (mergeK [] kvs)) = H2 at hkd hcodes k2
      obtain ⟨kvs', hkd', hcode⟩ := id hcodes
      cases hkd.symm.trans hkd'
      obtain ⟨ca, hca, hcat⟩ := hcode _ _ hc
      refine fun p np => ?_
      have npk : kd ≠ p := ne_of_none hkd np
      have hkd1 : upd H2 p (.dK []) kd = some (.dK (mergeK [] kvs)) := by rw [upd_ne npk]; exact hkd
      refine ⟨_, rfl, kd, _, rfl, hca ▸ DGet.k (k := Sum.inr (Str.ofString ".")) hkd1, by decide, fun l nl => ⟨by decide, fun sl nsl => ?_⟩⟩
      have nlp : l ≠ p := new_ne nl
      have nsl1 : sl ≠ l := new_ne nsl
      have nsp : sl ≠ p := fun e => by rw [e, upd_ne nlp.symm, upd_same] at nsl; cases nsl
      have hpp : upd (upd (upd H2 p (.dK [])) l (.lst [])) sl (.lst []) p = some (.dK []) := by rw [upd_ne nsp.symm, upd_ne nlp.symm]; exact upd_same
      refine ⟨hpp, lF (.ref ca) 0 l sl, rfl, (by show 4 ≤ 15; decide), ?_⟩
      rw [lF_mk]
      refine ⟨(by show 1 ≤ sizeLine; decide), fun fl nfl => ⟨_, _, _, rfl, ?_⟩⟩
      have k3 : Keep [] H2 (upd (upd (upd (upd (upd H2 p (.dK [])) l (.lst [])) sl (.lst [])) p (.dK (lF (.ref ca) 0 l sl))) fl (.lst [.ref p])) := by
        refine Keep.new nfl (Keep.dct hpp (.inr np) (Keep.new nsl (Keep.new nl (Keep.new np (Keep.refl _ _)))))
      have n2l : H2 l = none := new_old nl
      have n2s : H2 sl = none := new_old (new_old nsl)
      have n2f : H2 fl = none := new_old (new_old (new_old (new_old nfl)))
      have nfp : fl ≠ p := new_ne nfl
      have nfl0 := new_old nfl
      have nfs : fl ≠ sl := new_ne nfl0
      have nfl1 : fl ≠ l := new_ne (new_old nfl0)
      have e1 : upd (upd (upd (upd (upd H2 p (.dK [])) l (.lst [])) sl (.lst [])) p (.dK (lF (.ref ca) 0 l sl))) fl (.lst [.ref p]) p = some (.dK (lF (.ref ca) ((0 : Nat) : Int) l sl)) := by rw [upd_ne nfp.symm]; exact upd_same
      have e2 : upd (upd (upd (upd (upd H2 p (.dK [])) l (.lst [])) sl (.lst [])) p (.dK (lF (.ref ca) 0 l sl))) fl (.lst [.ref p]) l = some (.lst []) := by rw [upd_ne nfl1.symm, upd_ne nlp, upd_ne nsl1.symm]; exact upd_same
      have e3 : upd (upd (upd (upd (upd H2 p (.dK [])) l (.lst [])) sl (.lst [])) p (.dK (lF (.ref ca) 0 l sl))) fl (.lst [.ref p]) sl = some (.lst []) := by rw [upd_ne nfs.symm, upd_ne nsp]; exact upd_same
      have e4 : upd (upd (upd (upd (upd H2 p (.dK [])) l (.lst [])) sl (.lst [])) p (.dK (lF (.ref ca) 0 l sl))) fl (.lst [.ref p]) fl = some (.lst [.ref p]) := upd_same
      generalize upd (upd (upd (upd (upd H2 p (.dK [])) l (.lst [])) sl (.lst [])) p (.dK (lF (.ref ca) 0 l sl))) fl (.lst [.ref p]) = H6 at k3 e1 e2 e3 e4
      have kl : kd ≠ l := ne_of_none hkd n2l
      have ks : kd ≠ sl := ne_of_none hkd n2s
      have kf : kd ≠ fl := ne_of_none hkd n2f
      have n0k : H kd = none := k1.free nkd
      have m : LSt K H kd fl bs [⟨p, p, l, sl⟩] [⟨c, 0, [], []⟩] H6 := by
        refine ⟨k2.trans k3, ?_, fun a z => ?_, hcodes.keep k3 (by simp), e4, .cons ⟨ca, [], [], e1, hcat.keep k3, e2, .nil, e3, .nil⟩ .nil⟩
        · simp [owns, FA.own, npk, kl, ks, kf, nfp, nfs, nfl1, nlp.symm, nsp.symm, nsl1.symm]
        · simp only [owns, FA.own, List.flatMap_cons, List.flatMap_nil, List.append_nil, List.mem_cons, List.not_mem_nil, or_false] at z
          rcases z with rfl | rfl | rfl | rfl | rfl
          · exact n0k
          · exact k2.free n2f
          · exact k2.free np
          · exact k2.free n2l
          · exact k2.free n2s
      refine ⟨LawW K H (.ref ba) kd fl bs n v, ⟨n, 0, _, _, .non, none, rfl, m, ⟨(by show 1 ≤ sizeLine; decide), fun f hf => by rw [List.mem_singleton.mp hf]; exact ⟨Nat.zero_le _, Nat.zero_le _⟩⟩, Nat.zero_le _, .inl ⟨rfl, ht⟩⟩, ?_⟩
      clear m e1 e2 e3 e4 k3
      rintro j σ H3 ⟨g, rs, fs, x, o2, rfl, m, hsm, hg, hh⟩
      refine ⟨_, rfl, by decide, fun q0 nq => ?_⟩
      have kq := Keep.new (o := .lst []) nq (Keep.refl [] H3)
      have m3 := m.idle kq
      refine ⟨fl, q0, _, rfl, rfl, .inl ⟨.of m3.frames, .of upd_same⟩, _, rfl, ?_⟩
      rcases hh with ⟨hj, ht'⟩ | ⟨rfl, rfl, rfl, htl⟩
      · obtain ⟨hp, hne⟩ := ht'.pos
        have ok3 := m3.ok
        cases ok3 with
        | nil => exact absurd rfl hne
        | @cons r f rs fs hf hfs =>
        refine ift (by simp) ?_
        have hlt : decide ((g : Int) < 2000000) = true := decide_eq_true (by omega)
        refine ⟨_, rfl, (g : Int), (2000000 : Int), rfl, rfl, true, congrArg V.bl hlt, ?_⟩
        refine ift rfl ?_
        refine ⟨fun σ' H' => ∃ m', m' < j ∧ LawW K H (.ref ba) kd fl bs n v m' σ' H', fun _ _ h => h, ?_⟩
        have one : ∃ (j' : Nat) (gs : List Fr) (o : Option MV), mstep bs (f :: fs) = some (gs, o) ∧ Small gs ∧ (gs = [] ∧ j = 1 ∧ o = some v ∨ gs ≠ [] ∧ j = j' + 1 ∧ TellsS bs j' gs v) := by
          cases ht' with
          | last e => exact ⟨0, [], some v, e, ⟨Nat.zero_le _, fun f hf => by cases hf⟩, .inl ⟨rfl, rfl, rfl⟩⟩
          | step e hn hs ht' => exact ⟨_, _, _, e, hs, .inr ⟨hn, rfl, ht'⟩⟩
        obtain ⟨j', gs, o, e1, hs, hcase⟩ := one
        refine ⟨_, rfl, _, rfl, H, kd, fl, bs, r :: rs, f :: fs, gs, o, rfl, m3, e1, hsm, hs, fun H' x' rs' m' hx => ?_⟩
        refine ⟨_, rfl, _, _, rfl, rfl, ?_⟩
        have eg : ((g : Nat) : Int) + 1 = ((g + 1 : Nat) : Int) := by omega
        rcases hcase with ⟨rfl, hj1, rfl⟩ | ⟨hgs, rfl, ht2⟩
        · obtain ⟨v', ev, hat⟩ := hx rfl
          cases ev
          exact ⟨0, hp, g + 1, rs', [], x', o2, by rw [← eg]; rfl, m', hs, by omega, .inr ⟨rfl, by omega, rfl, hat⟩⟩
        · exact ⟨j', Nat.lt_succ_self _, g + 1, rs', gs, x', o2, by rw [← eg]; rfl, m', hs, by omega, .inl ⟨by omega, ht2⟩⟩
      · have hrs : rs = [] := List.eq_nil_of_length_eq_zero m3.ok.length
        subst hrs
        show (if false = true then _ else _)
        refine iff' rfl ?_
        refine ⟨_, rfl, _, rfl, (by show 2 ≤ sizeLine; decide), fun t nt => ?_⟩
        exact q t x _ (m3.keep.trans (Keep.new nt (Keep.refl _ _))) (.of upd_same) ((htl.keep kq).keep (Keep.new nt (Keep.refl [] _)))
end
end K46
/-! K46M3 -/
set_option maxHeartbeats 4000000
namespace K46
open PySem PySem.Spec PyProof.Rows L2 C8
abbrev MS := List Bk × DS
def addAsks (f : Nat) : Nat → List (Nat × Str) → List Ins
  | _, [] => []
  | l, (k, n) :: as => .ask k n (l + 1) f :: addAsks f (l + 1) as
/-- the code of rows, what is made by it -/
def rowsC (many : Nat) : List Rw → MS → List Ins × MS
  | [], s => ([.own .dull 0, .tell], s)
  | r :: others, s =>
    let as := asksL r.ps 0 many
    let c := codeOf as.2.1 r.body s.2
    if as.2.2 = [] then (c.1 ++ [.tell], (s.1, c.2)) else
      let nm := dot (c.2.2 + 1)
      let g := rowsC many others (s.1, (c.2.1, c.2.2 + 1))
      (addAsks (as.2.2.length + (c.1.length + 1)) 0 as.2.2 ++ (c.1 ++ [.tell]) ++ ((List.range many).map .loc ++ [.close nm many, .own .go 0, .tell]), (g.2.1 ++ [⟨nm, many, g.1⟩], g.2.2))
/-- blocks of what is due -/
inductive AddDue : MS → MS → Prop
  | done (m : List Bk) (n : Nat) : AddDue (m, ([], n)) (m, ([], n))
  | step {m : List Bk} {d : List Due} {n many : Nat} {nm : Str} {b : Tm} {s : MS} : AddDue (m ++ [⟨nm, many, (codeOf (List.range many) b (d, n)).1 ++ [.tell]⟩], (codeOf (List.range many) b (d, n)).2) s → AddDue (m, (d ++ [(nm, many, b)], n)) s
def progC : List Df → MS → MS
  | [], s => s
  | d :: ds, s => progC ds ((rowsC d.many d.rows s).2.1 ++ [⟨d.name, d.many, (rowsC d.many d.rows s).1⟩], (rowsC d.many d.rows s).2.2)
/-- what made tells -/
def MadeOf (g : List Df) (t : Tm) (bs : List Bk) : Prop :=
  ∃ n, AddDue ((progC g ([], ([], 0))).1 ++ [⟨"." , 0, (codeOf [] t (progC g ([], ([], 0))).2).1 ++ [.tell]⟩], (codeOf [] t (progC g ([], ([], 0))).2).2) (bs, ([], n))
/-! ### bounds -/
def dueW : List Due → Nat
  | [] => 0
  | (_, _, b) :: d => nodes b + dueW d
theorem dueW_append : ∀ a b : List Due, dueW (a ++ b) = dueW a + dueW b
  | [], b => by simp [dueW]
  | (_, _, t) :: a, b => by
    have := dueW_append a b
    simp only [List.cons_append, dueW, this]
    omega
def DueOk (d : List Due) : Prop := ∀ x ∈ d, TmOk x.2.1 x.2.2 ∧ x.2.1 + nodes x.2.2 ≤ 2000
theorem DueOk.append {a b : List Due} (h : DueOk a) (h2 : DueOk b) : DueOk (a ++ b) := fun x z => (List.mem_append.mp z).elim (h x) (h2 x)
mutual
theorem codeOf_bd (Γ : List Nat) : ∀ (t : Tm) (s : DS), TmOk Γ.length t → Γ.length + nodes t ≤ 2000 → DueOk s.1 →
    (codeOf Γ t s).1.length ≤ nodes t * (Γ.length + 1) ∧ dueW (codeOf Γ t s).2.1 + 1 ≤ dueW s.1 + nodes t ∧ (codeOf Γ t s).2.1.length ≤ s.1.length + nodes t ∧ (codeOf Γ t s).2.2 ≤ s.2 + nodes t ∧ DueOk (codeOf Γ t s).2.1
  | .at i, s, _, _, h => by simp [codeOf, nodes, h]
  | .clo fn b, s, ht, hn, h => by
    have hb := nodes_pos b
    have hf : fn.toNat ≤ 1 := by cases fn <;> decide
    simp only [nodes] at hn
    simp only [codeOf, nodes, List.length_append, List.length_map, List.length_cons, List.length_nil, dueW_append, dueW]
    refine ⟨?_, by omega, by omega, by omega, h.append fun x z => ?_⟩
    · rw [Nat.add_mul, Nat.one_mul]
      exact Nat.le_add_right _ _
    · rw [List.mem_singleton.mp z]
      exact ⟨ht, by show Γ.length + fn.toNat + nodes b ≤ 2000; omega⟩
  | .nd k ts, s, ht, hn, h => by
    simp only [nodes] at hn
    have := codesOf_bd Γ ts s ht (by omega) h
    simp only [codeOf, nodes, List.length_append, List.length_cons, List.length_nil]
    refine ⟨?_, by omega, by omega, by omega, this.2.2.2.2⟩
    have := this.1
    rw [Nat.add_mul, Nat.one_mul]
    omega
theorem codesOf_bd (Γ : List Nat) : ∀ (ts : List Tm) (s : DS), TmsOk Γ.length ts → Γ.length + nodesL ts ≤ 2000 → DueOk s.1 →
    (codesOf Γ ts s).1.length ≤ nodesL ts * (Γ.length + 1) ∧ dueW (codesOf Γ ts s).2.1 ≤ dueW s.1 + nodesL ts ∧ (codesOf Γ ts s).2.1.length ≤ s.1.length + nodesL ts ∧ (codesOf Γ ts s).2.2 ≤ s.2 + nodesL ts ∧ DueOk (codesOf Γ ts s).2.1
  | [], s, _, _, h => by simp [codesOf, nodesL, h]
  | t :: ts, s, ht, hn, h => by
    simp only [nodesL] at hn
    have h1 := codeOf_bd Γ t s ht.1 (by omega) h
    have h2 := codesOf_bd Γ ts (codeOf Γ t s).2 ht.2 (by omega) h1.2.2.2.2
    simp only [codesOf, nodesL, List.length_append]
    refine ⟨?_, by omega, by omega, by omega, h2.2.2.2.2⟩
    rw [Nat.add_mul]
    exact Nat.add_le_add h1.1 h2.1
end
theorem AddDue.ex : ∀ (k : Nat) (s : MS), dueW s.2.1 < k → DueOk s.2.1 → ∃ bs n, AddDue s (bs, ([], n))
  | 0, _, h, _ => absurd h (Nat.not_lt_zero _)
  | k + 1, (m, (d, n)), h, ok => by
    rcases List.eq_nil_or_concat d with rfl | ⟨d', ⟨nm, many, b⟩, e⟩
    · exact ⟨m, n, .done m n⟩
    · rw [List.concat_eq_append] at e
      subst e
      have okb := ok (nm, many, b) (by simp)
      have ok' : DueOk d' := fun x z => ok x (by simp [z])
      have bd := codeOf_bd (List.range many) b (d', n) (by rw [List.length_range]; exact okb.1) (by rw [List.length_range]; exact okb.2) ok'
      have hw : dueW (d' ++ [(nm, many, b)]) < k + 1 := h
      rw [dueW_append] at hw
      simp only [dueW] at hw
      obtain ⟨bs, n', z⟩ := AddDue.ex k (m ++ [⟨nm, many, (codeOf (List.range many) b (d', n)).1 ++ [.tell]⟩], (codeOf (List.range many) b (d', n)).2) (by show dueW (codeOf (List.range many) b (d', n)).2.1 < k; have := bd.2.1; simp only at this; omega) bd.2.2.2.2
      exact ⟨bs, n', .step z⟩
/-- rows that are made: the bodies' names are taken -/
def RwOk (many : Nat) (r : Rw) : Prop := r.ps.length ≤ many ∧ TmOk (asksL r.ps 0 many).2.1.length r.body ∧ pnodesL r.ps + nodes r.body ≤ 2000 ∧ pdeepL r.ps ≤ 2
def rowsW : List Rw → Nat
  | [] => 0
  | r :: rs => 2 + nodes r.body + rowsW rs
theorem rowsC_bd (many : Nat) : ∀ (rs : List Rw) (s : MS), (∀ r ∈ rs, RwOk many r) → DueOk s.2.1 →
    dueW (rowsC many rs s).2.2.1 ≤ dueW s.2.1 + rowsW rs ∧ (rowsC many rs s).2.2.1.length ≤ s.2.1.length + rowsW rs ∧ (rowsC many rs s).2.2.2 ≤ s.2.2 + rowsW rs ∧ (rowsC many rs s).2.1.length ≤ s.1.length + rowsW rs ∧ DueOk (rowsC many rs s).2.2.1
  | [], s, _, h => by simp [rowsC, rowsW, h]
  | r :: rs, s, ok, h => by
    obtain ⟨_, o1, o2, _⟩ := ok r (List.mem_cons_self ..)
    have al := (asksL_len r.ps 0 many).1
    have bd := codeOf_bd (asksL r.ps 0 many).2.1 r.body s.2 o1 (by omega) h
    have ih := rowsC_bd many rs (s.1, ((codeOf (asksL r.ps 0 many).2.1 r.body s.2).2.1, (codeOf (asksL r.ps 0 many).2.1 r.body s.2).2.2 + 1)) (fun r z => ok r (List.mem_cons_of_mem _ z)) bd.2.2.2.2
    simp only [rowsC, rowsW]
    split
    · exact ⟨by dsimp only; omega, by dsimp only; omega, by dsimp only; omega, by dsimp only; omega, bd.2.2.2.2⟩
    · simp only [List.length_append, List.length_cons, List.length_nil] at ih ⊢
      exact ⟨by omega, by omega, by omega, by omega, ih.2.2.2.2⟩
end K46
/-! K46M4 -/
set_option maxHeartbeats 4000000
namespace K46
open PySem PySem.Spec PyProof.Rows L2 C8
mutual
theorem codeOf_sum (Γ : List Nat) : ∀ (t : Tm) (s : DS), (codeOf Γ t s).2.2 + dueW (codeOf Γ t s).2.1 ≤ s.2 + dueW s.1 + nodes t
  | .at i, s => by
    simp only [codeOf, nodes]
    omega
  | .clo fn b, s => by
    simp only [codeOf, nodes, dueW_append, dueW]
    omega
  | .nd k ts, s => by
    have := codesOf_sum Γ ts s
    simp only [codeOf, nodes]
    omega
theorem codesOf_sum (Γ : List Nat) : ∀ (ts : List Tm) (s : DS), (codesOf Γ ts s).2.2 + dueW (codesOf Γ ts s).2.1 ≤ s.2 + dueW s.1 + nodesL ts
  | [], s => by simp [codesOf, nodesL]
  | t :: ts, s => by
    have h1 := codeOf_sum Γ t s
    have h2 := codesOf_sum Γ ts (codeOf Γ t s).2
    simp only [codesOf, nodesL]
    omega
end
theorem dueW_len : ∀ d : List Due, d.length ≤ dueW d
  | [] => Nat.le_refl _
  | (_, _, b) :: d => by
    have := dueW_len d
    have := nodes_pos b
    simp only [dueW, List.length_cons]
    omega
theorem AddDue.nil' {s s' : MS} (h : AddDue s s') : s.2.1 = [] → s = s' := by
  cases h with
  | done m n => intro _; rfl
  | step h => intro z; simp at z
theorem AddDue.snoc' {s s' : MS} (h : AddDue s s') : ∀ (m : List Bk) (d : List Due) (n many : Nat) (nm : Str) (b : Tm), s = (m, (d ++ [(nm, many, b)], n)) → AddDue (m ++ [⟨nm, many, (codeOf (List.range many) b (d, n)).1 ++ [.tell]⟩], (codeOf (List.range many) b (d, n)).2) s' := by
  cases h with
  | done m n => intro _ d _ _ _ _ z; simp at z
  | step h =>
    intro m' d' n' many' nm' b' z
    simp only [Prod.mk.injEq] at z
    obtain ⟨rfl, e, rfl⟩ := z
    obtain ⟨rfl, e2⟩ := List.append_inj' e rfl
    simp only [List.cons.injEq, Prod.mk.injEq, and_true] at e2
    obtain ⟨rfl, rfl, rfl⟩ := e2
    exact h
theorem rowsC_sum (many : Nat) : ∀ (rs : List Rw) (s : MS), (rowsC many rs s).2.2.2 + dueW (rowsC many rs s).2.2.1 ≤ s.2.2 + dueW s.2.1 + rowsW rs
  | [], s => by simp [rowsC, rowsW]
  | r :: rs, s => by
    have bd := codeOf_sum (asksL r.ps 0 many).2.1 r.body s.2
    have ih := rowsC_sum many rs (s.1, ((codeOf (asksL r.ps 0 many).2.1 r.body s.2).2.1, (codeOf (asksL r.ps 0 many).2.1 r.body s.2).2.2 + 1))
    simp only [rowsC, rowsW]
    split
    · dsimp only
      omega
    · dsimp only at ih ⊢
      omega
end K46
/-! K46M5 -/
set_option maxHeartbeats 4000000
namespace K46
open PySem PySem.Spec PyProof.Rows L2 C8
/-! ## the run by worth, plain -/
inductive Wo where
  | shape (n : Str) (ws : List Wo) | clo (fn : Bool) (b : Tm) (env : List Wo) | dull
mutual
def takenP : Pat → Wo → Option (List Wo)
  | .take, w => some [w]
  | .pass, _ => some []
  | .shape n ps, w => match w with
    | .shape m ws => if n = m then takenL ps ws else none
    | _ => none
def takenL : List Pat → List Wo → Option (List Wo)
  | p :: ps, w :: ws => (takenP p w).bind fun a => (takenL ps ws).map fun b => a ++ b
  | _, _ => some []
end
/-- the first row that takes worths: what is taken, the body -/
def pick : List Rw → List Wo → Option (List Wo × Tm)
  | [], _ => none
  | r :: rs, ws => match takenL r.ps ws with
    | some a => some (a, r.body)
    | none => pick rs ws
def rowsOf (g : List Df) (n : Str) : Option (List Rw) := (g.find? fun d => decide (d.name = n)).map (·.rows)
/-- terms run to worths in so many steps, names around being worths -/
inductive EvL (g : List Df) : List Wo → List Tm → List Wo → Nat → Prop
  | nil (env) : EvL g env [] [] 0
  | «at» {env i w ts ws s} : i < env.length → env[env.length - 1 - i]? = some w → EvL g env ts ws s → EvL g env (.at i :: ts) (w :: ws) s
  | clo {env fn b ts ws s} : EvL g env ts ws s → EvL g env (.clo fn b :: ts) (.clo fn b env :: ws) s
  | dull {env as ts ws s} : as = [] → EvL g env ts ws s → EvL g env (.nd .dull as :: ts) (.dull :: ws) s
  | shape {env n as vs ts ws s1 s} : EvL g env as vs s1 → EvL g env ts ws s → EvL g env (.nd (.shape n) as :: ts) (.shape n vs :: ws) (s1 + s)
  | call {env n as vs rows a b w ts ws s1 s2 s} : EvL g env as vs s1 → rowsOf g n = some rows → pick rows vs = some (a, b) → EvL g a [b] [w] s2 → EvL g env ts ws s → EvL g env (.nd (.call n) as :: ts) (w :: ws) (s1 + 1 + s2 + s)
  | give {env as b env' a w ts ws s1 s2 s} : EvL g env as [.clo true b env', a] s1 → EvL g (env' ++ [a]) [b] [w] s2 → EvL g env ts ws s → EvL g env (.nd .give as :: ts) (w :: ws) (s1 + 1 + s2 + s)
  | go {env as b env' w ts ws s1 s2 s} : EvL g env as [.clo false b env'] s1 → EvL g env' [b] [w] s2 → EvL g env ts ws s → EvL g env (.nd .go as :: ts) (w :: ws) (s1 + 1 + s2 + s)
theorem EvL.length {g : List Df} {env : List Wo} {ts : List Tm} {ws : List Wo} {s : Nat} (h : EvL g env ts ws s) : ws.length = ts.length := by
  induction h <;> simp_all
/-! ### shapes by an arity -/
structure Shs where
  sh : Str → Nat
  ca : Str → Nat
mutual
def PatS (S : Shs) : Pat → Prop
  | .shape n ps => ps.length = S.sh n ∧ PatsS S ps
  | _ => True
def PatsS (S : Shs) : List Pat → Prop
  | [] => True
  | p :: ps => PatS S p ∧ PatsS S ps
end
mutual
def TmS (S : Shs) : Tm → Prop
  | .at _ => True
  | .clo _ b => TmS S b
  | .nd (.shape n) ts => ts.length = S.sh n ∧ TmsS S ts
  | .nd (.call n) ts => ts.length = S.ca n ∧ TmsS S ts
  | .nd _ ts => TmsS S ts
def TmsS (S : Shs) : List Tm → Prop
  | [] => True
  | t :: ts => TmS S t ∧ TmsS S ts
end
mutual
def WoS (S : Shs) : Wo → Prop
  | .shape n ws => ws.length = S.sh n ∧ WosS S ws
  | .clo _ b env => TmS S b ∧ WosS S env
  | .dull => True
def WosS (S : Shs) : List Wo → Prop
  | [] => True
  | w :: ws => WoS S w ∧ WosS S ws
end
theorem WosS.get {S : Shs} : ∀ {ws : List Wo} {i : Nat} {w : Wo}, WosS S ws → ws[i]? = some w → WoS S w
  | [], _, _, _, e => by simp at e
  | w :: ws, 0, _, h, e => by
    simp at e
    exact e ▸ h.1
  | w :: ws, i + 1, _, h, e => WosS.get h.2 (by simpa using e)
theorem WosS.append {S : Shs} : ∀ {a b : List Wo}, WosS S a → WosS S b → WosS S (a ++ b)
  | [], _, _, h => h
  | _ :: _, _, h, h2 => ⟨h.1, WosS.append h.2 h2⟩
mutual
theorem takenP_S {S : Shs} : ∀ (p : Pat) (w : Wo) (a : List Wo), takenP p w = some a → WoS S w → WosS S a
  | .take, w, a, e, h => by
    cases e
    exact ⟨h, trivial⟩
  | .pass, w, a, e, h => by
    cases e
    trivial
  | .shape n ps, w, a, e, h => by
    cases w with
    | shape m ws =>
      simp only [takenP] at e
      split at e
      · exact takenL_S ps ws a e h.2
      · cases e
    | clo _ _ _ => cases e
    | dull => cases e
theorem takenL_S {S : Shs} : ∀ (ps : List Pat) (ws : List Wo) (a : List Wo), takenL ps ws = some a → WosS S ws → WosS S a
  | [], ws, a, e, h => by
    cases ws <;> (cases e; trivial)
  | p :: ps, [], a, e, h => by
    cases e
    trivial
  | p :: ps, w :: ws, a, e, h => by
    simp only [takenL] at e
    obtain ⟨x, e1, e2⟩ := Option.bind_eq_some_iff.mp e
    obtain ⟨y, e3, rfl⟩ := Option.map_eq_some_iff.mp e2
    exact (takenP_S p w x e1 h.1).append (takenL_S ps ws y e3 h.2)
end
def RwsS (S : Shs) (rs : List Rw) : Prop := ∀ r ∈ rs, PatsS S r.ps ∧ TmS S r.body
theorem pick_S {S : Shs} : ∀ {rs : List Rw} {ws a : List Wo} {b : Tm}, pick rs ws = some (a, b) → RwsS S rs → WosS S ws → WosS S a ∧ TmS S b
  | [], _, _, _, e, _, _ => by cases e
  | r :: rs, ws, a, b, e, h, hw => by
    simp only [pick] at e
    split at e
    · next x e1 =>
      cases e
      exact ⟨takenL_S _ _ _ e1 hw, (h r (List.mem_cons_self ..)).2⟩
    · exact pick_S e (fun r z => h r (List.mem_cons_of_mem _ z)) hw
def ProgS (S : Shs) (g : List Df) : Prop := ∀ d ∈ g, RwsS S d.rows ∧ d.many = S.ca d.name ∧ ∀ r ∈ d.rows, r.ps.length = d.many
theorem rowsOf_mem {g : List Df} {n : Str} {rows : List Rw} (h : rowsOf g n = some rows) : ∃ d ∈ g, d.name = n ∧ d.rows = rows := by
  obtain ⟨d, e1, e2⟩ := Option.map_eq_some_iff.mp h
  exact ⟨d, List.mem_of_find?_eq_some e1, by simpa using List.find?_some e1, e2⟩
theorem EvL.keepS {S : Shs} {g : List Df} (hg : ProgS S g) {env : List Wo} {ts : List Tm} {ws : List Wo} {s : Nat} (h : EvL g env ts ws s) : WosS S env → TmsS S ts → WosS S ws := by
  induction h with
  | nil => intro _ _; trivial
  | «at» _ e _ ih => intro he ht; exact ⟨he.get e, ih he ht.2⟩
  | clo _ ih => intro he ht; exact ⟨⟨ht.1, he⟩, ih he ht.2⟩
  | dull _ _ ih => intro he ht; exact ⟨trivial, ih he ht.2⟩
  | shape h1 _ ih1 ih => intro he ht; exact ⟨⟨by rw [h1.length]; exact ht.1.1, ih1 he ht.1.2⟩, ih he ht.2⟩
  | call _ hr hp _ _ ih1 ih2 ih =>
    intro he ht
    obtain ⟨d, hd, _, rfl⟩ := rowsOf_mem hr
    have hb := pick_S hp (hg d hd).1 (ih1 he ht.1.2)
    exact ⟨(ih2 hb.1 ⟨hb.2, trivial⟩).1, ih he ht.2⟩
  | give _ _ _ ih1 ih2 ih =>
    intro he ht
    have h1 := ih1 he ht.1
    exact ⟨(ih2 (h1.1.2.append ⟨h1.2.1, trivial⟩) ⟨h1.1.1, trivial⟩).1, ih he ht.2⟩
  | go _ _ _ ih1 ih2 ih =>
    intro he ht
    have h1 := ih1 he ht.1
    exact ⟨(ih2 h1.1.2 ⟨h1.1.1, trivial⟩).1, ih he ht.2⟩
end K46
/-! K46N1 -/
set_option maxHeartbeats 4000000
namespace K46
open PySem PySem.Spec PyProof.Rows L2 C8
open RZ
section
theorem walk_zipT {K : PySem.W.Frag} {a b : Addr} {xs ys : List V} {n : Nat} (hn : n = min xs.length ys.length) : Walk (ItzT K a b) n (fun H => SqT K H a xs ∧ SqT K H b ys) (YPair (fun i => xs[i]?) (fun i => ys[i]?)) := by
  subst hn
  refine ⟨fun i _ hi q => ?_, fun _ q => ⟨xs, ys, q.1, q.2, by omega⟩, fun i H v H' _ q y => ?_⟩
  · have h1 : i < xs.length := by omega
    have h2 : i < ys.length := by omega
    exact ⟨xs, ys, xs[i], ys[i], q.1, q.2, by simp [h1], by simp [h2]⟩
  · obtain ⟨T, x, z, h1, h2, h3, h4, h5⟩ := y
    exact ⟨T, x, z, h1, h2, h3, h4 xs q.1, h5 ys q.2⟩
end
/-! ### worths of the law's run: closures hold the list of what is around -/
mutual
inductive WAt (K : PySem.W.Frag) (S : List Addr) (H : Hp) : V → Wo → Prop
  | shape {a u : Addr} {n : Str} {us : List V} {ws : List Wo} : SqT K H a [.str "shape", .str n, .ref u] → SqT K H u us → WAtL K S H us ws → WAt K S H (.ref a) (.shape n ws)
  | clo {a l : Addr} {w0 : Str} {fn : Bool} {bv : V} {b : Tm} {us : List V} {env : List Wo} : (w0 = if fn then "fun" else "wait") → SqT K H a [.str w0, bv, .ref l] → At K H bv (encT b) → H l = some (.lst us) → l ∉ S → WAtL K S H us env → WAt K S H (.ref a) (.clo fn b env)
  | dull {a : Addr} : SqT K H a [.str "dull"] → WAt K S H (.ref a) .dull
inductive WAtL (K : PySem.W.Frag) (S : List Addr) (H : Hp) : List V → List Wo → Prop
  | nil : WAtL K S H [] []
  | cons {v : V} {vs : List V} {w : Wo} {ws : List Wo} : WAt K S H v w → WAtL K S H vs ws → WAtL K S H (v :: vs) (w :: ws)
end
section
variable {K : PySem.W.Frag} {S : List Addr} {H H1 : Hp}
mutual
theorem WAt.keep (k : Keep S H H1) : ∀ {w : Wo} {v : V}, WAt K S H v w → WAt K S H1 v w
  | .shape n ws, _, h => by
    cases h with
    | shape h1 h2 h3 => exact .shape (k.sqT h1) (k.sqT h2) (WAtL.keep k h3)
  | .clo fn b env, _, h => by
    cases h with
    | clo e h1 h2 h3 h4 h5 => exact .clo e (k.sqT h1) (h2.keep k) (k.at_ _ _ h4 h3) h4 (WAtL.keep k h5)
  | .dull, _, h => by
    cases h with
    | dull h => exact .dull (k.sqT h)
theorem WAtL.keep (k : Keep S H H1) : ∀ {ws : List Wo} {vs : List V}, WAtL K S H vs ws → WAtL K S H1 vs ws
  | [], _, h => by
    cases h
    exact .nil
  | w :: ws, _, h => by
    cases h with
    | cons h1 h2 => exact .cons (WAt.keep k h1) (WAtL.keep k h2)
end
theorem WAtL.length : ∀ {vs : List V} {ws : List Wo}, WAtL K S H vs ws → vs.length = ws.length
  | _, _, .nil => rfl
  | _, _, .cons _ t => congrArg Nat.succ (WAtL.length t)
theorem WAtL.get : ∀ {vs : List V} {ws : List Wo} {i : Nat} {w : Wo}, WAtL K S H vs ws → ws[i]? = some w → ∃ v, vs[i]? = some v ∧ WAt K S H v w
  | _, _, _, _, .nil, e => by simp at e
  | _, _, 0, _, .cons h _, e => by
    simp at e
    subst e
    exact ⟨_, rfl, h⟩
  | _, _, i + 1, _, .cons _ t, e => by
    obtain ⟨v, h1, h2⟩ := WAtL.get t (by simpa using e)
    exact ⟨v, by simpa using h1, h2⟩
theorem WAtL.get' : ∀ {vs : List V} {ws : List Wo} {i : Nat} {v : V}, WAtL K S H vs ws → vs[i]? = some v → ∃ w, ws[i]? = some w ∧ WAt K S H v w
  | _, _, _, _, .nil, e => by simp at e
  | _, _, 0, _, .cons h _, e => by
    simp at e
    subst e
    exact ⟨_, rfl, h⟩
  | _, _, i + 1, _, .cons _ t, e => by
    obtain ⟨v, h1, h2⟩ := WAtL.get' t (by simpa using e)
    exact ⟨v, by simpa using h1, h2⟩
theorem WAtL.append : ∀ {a : List V} {b : List Wo} {c : List V} {d : List Wo}, WAtL K S H a b → WAtL K S H c d → WAtL K S H (a ++ c) (b ++ d)
  | _, _, _, _, .nil, s => s
  | _, _, _, _, .cons h t, s => .cons h (WAtL.append t s)
end
theorem takenL_step {ps : List Pat} {ws : List Wo} {i : Nat} {p : Pat} {w : Wo} (h1 : ps[i]? = some p) (h2 : ws[i]? = some w) : takenL (ps.drop i) (ws.drop i) = (takenP p w).bind fun a => (takenL (ps.drop (i + 1)) (ws.drop (i + 1))).map fun b => a ++ b := by
  have l1 := (List.getElem?_eq_some_iff.mp h1).1
  have l2 := (List.getElem?_eq_some_iff.mp h2).1
  rw [List.drop_eq_getElem_cons l1, List.drop_eq_getElem_cons l2]
  have e1 := (List.getElem?_eq_some_iff.mp h1).2
  have e2 := (List.getElem?_eq_some_iff.mp h2).2
  rw [e1, e2]
  rfl
theorem takenL_end {ps : List Pat} {ws : List Wo} {i : Nat} (h : i = min ps.length ws.length) : takenL (ps.drop i) (ws.drop i) = some [] := by
  by_cases l : ps.length ≤ ws.length
  · rw [List.drop_eq_nil_of_le (show ps.length ≤ i by omega)]
    cases ws.drop i <;> rfl
  · rw [List.drop_eq_nil_of_le (show ws.length ≤ i by omega)]
    cases ps.drop i <;> rfl
mutual
def wnodesW : Wo → Nat
  | .shape _ ws => 1 + wnodesL ws
  | _ => 1
def wnodesL : List Wo → Nat
  | [] => 0
  | w :: ws => wnodesW w + wnodesL ws
end
mutual
theorem takenP_len : ∀ (p : Pat) (w : Wo) (a : List Wo), takenP p w = some a → a.length ≤ pnodes p
  | .take, w, a, e => by
    cases e
    exact Nat.le_refl _
  | .pass, w, a, e => by
    cases e
    exact Nat.zero_le _
  | .shape n ps, w, a, e => by
    cases w with
    | shape m ws =>
      simp only [takenP] at e
      split at e
      · have := takenL_len ps ws a e
        simp only [pnodes]
        omega
      · cases e
    | clo _ _ _ => cases e
    | dull => cases e
theorem takenL_len : ∀ (ps : List Pat) (ws : List Wo) (a : List Wo), takenL ps ws = some a → a.length ≤ pnodesL ps
  | [], ws, a, e => by
    cases ws <;> (cases e; exact Nat.zero_le _)
  | p :: ps, [], a, e => by
    cases e
    exact Nat.zero_le _
  | p :: ps, w :: ws, a, e => by
    simp only [takenL] at e
    obtain ⟨x, e1, e2⟩ := Option.bind_eq_some_iff.mp e
    obtain ⟨y, e3, rfl⟩ := Option.map_eq_some_iff.mp e2
    have h1 := takenP_len p w x e1
    have h2 := takenL_len ps ws y e3
    simp only [List.length_append, pnodesL]
    omega
end
end K46
/-! K46N2 -/
set_option maxHeartbeats 4000000
namespace K46
open PySem PySem.Spec PyProof.Rows L2 C8
section
variable {P : Program} {w : World} {K : PySem.W.Frag} {mg : Str → Option Value} {base : Heap}
def sp_taken (K : PySem.W.Frag) (S : List Addr) (n : Nat) : Sp := fun vs H Q _ => ∃ (Hb : Hp) (px wv : V) (p : Pat) (wo : Wo), vs = [px, wv] ∧ pdeep p < n ∧ At K H px (encP p) ∧ Keep [] Hb H ∧ WAt K S Hb wv wo ∧ pnodes p ≤ 1000 ∧
  (takenP p wo = none → ∀ H', Keep [] H H' → Q .non H') ∧ (∀ a, takenP p wo = some a → ∀ l us H', Keep [] H H' → H l = none → H' l = some (.lst us) → WAtL K S Hb us a → Q (.ref l) H')
theorem WAt.head {S : List Addr} {H : Hp} {v : V} {wo : Wo} (h : WAt K S H v wo) : ∃ (a : Addr) (w0 : Str) (xs : List V), v = .ref a ∧ SqT K H a (.str w0 :: xs) ∧
    ((∃ n u us ws, wo = .shape n ws ∧ w0 = "shape" ∧ xs = [.str n, .ref u] ∧ SqT K H u us ∧ WAtL K S H us ws) ∨ (w0 ≠ "shape" ∧ ∀ n ws, wo ≠ .shape n ws)) := by
  cases h with
  | shape h1 h2 h3 => exact ⟨_, _, _, rfl, h1, .inl ⟨_, _, _, _, rfl, rfl, rfl, h2, h3⟩⟩
  | @clo a l w0 fn bv b us env e h1 h2 h3 h4 h5 =>
    refine ⟨_, _, _, rfl, h1, .inr ⟨?_, fun _ _ z => by cases z⟩⟩
    rw [e]
    cases fn <;> decide +kernel
  | dull h1 => exact ⟨_, _, _, rfl, h1, .inr ⟨by decide +kernel, fun _ _ z => by cases z⟩⟩
theorem ok_taken (T : Tx K mg) (S : List Addr) : ∀ n, Cal P w K mg base (n + 1) "_law_taken" (sp_taken K S n) []
  | 0 => by
    refine cal_mk T.f_taken T.g_taken sc_taken (fun _ _ _ _ _ _ us hl => match us, hl with | [_, _], _ => rfl) (fun vs H Q E h => ?_) (fun cdv A outer s0 H vs Q E hr h => ?_)
    · obtain ⟨Hb, px, wv, p, wo, rfl, _⟩ := h
      rfl
    · obtain ⟨Hb, px, wv, p, wo, rfl, hd, _⟩ := h
      exact absurd hd (Nat.not_lt_zero _)
  | n + 1 => by
    have c_taken := ok_taken T S n
    refine cal_mk T.f_taken T.g_taken sc_taken (fun _ _ _ _ _ _ us hl => match us, hl with | [_, _], _ => rfl) (fun vs H Q E h => ?_) (fun cdv A outer s0 H vs Q E hr h => ?_)
    · obtain ⟨Hb, px, wv, p, wo, rfl, _⟩ := h
      rfl
    · obtain ⟨Hb, px, wv, p, wo, rfl, hd, hp, kb, hw, hz, qn, qs⟩ := h
      refine ⟨_, (pss_cons (ps_if (pt_cmpR op_ne (pe_ix ix_tup (pv 0) pe_int (fun _ _ => rfl)) pe_str (nomark _)) (pss_one (ps_ret (pe_op op_rep (pe_lst (pa_cons (pv 1) pa_nil)) (pe_callTy call_int1 (by rfl) T.z_int (by decide +kernel) (pa_cons (pe_cmpR op_eq (pe_ix ix_tup (pv 0) pe_int (fun _ _ => rfl)) pe_str (nomark _)) pa_nil))))) pss_nil)
      (pss_cons (ps_if (PW.pt (pw_or (pt_cmpR op_ne (pe_ix ix_tup (pv 1) pe_int (fun _ _ => rfl)) pe_str (nomark _)) (pw_or1 (pt_cmpR op_ne (pe_ix ix_tup (pv 1) pe_int (fun _ _ => rfl)) (pe_ix ix_tup (pv 0) pe_int (fun _ _ => rfl)) (nomark _))))) (pss_one (ps_ret pe_non)) pss_nil)
      (pss_cons (ps_set (i := 2) sc_taken.nd rfl (Or.inl rfl) (pe_lst pa_nil))
      (pss_cons (ps_for PassesOwn.never rfl (RZ.pi_zipA rfl T.z_zip (pa_cons (pe_ix ix_tup (pv 0) pe_int (fun _ _ => rfl)) (pa_cons (pe_ix ix_tup (pv 1) pe_int (fun _ _ => rfl)) pa_nil))) (pg_tup rfl (pgs_cons (pg_name (i := 3) sc_taken.nd rfl (Or.inl rfl)) (pgs_cons (pg_name (i := 4) sc_taken.nd rfl (Or.inl rfl)) pgs_nil))) (pss_cons (ps_set (i := 5) sc_taken.nd rfl (Or.inl rfl) (pe_c c_taken hr (by omega) rfl (pa_cons (pv 3) (pa_cons (pv 4) pa_nil))))
      (pss_cons (ps_if (pt_cmpR op_isN (pv 5) pe_non (nomark _)) (pss_one (ps_ret pe_non)) pss_nil)
      (pss_one (ps_expr (pe_bm PySem.F.plainAttrs_list PySem.F.slot_list_extend PySem.F.type_list_extend mt_extend (pv 2) (pa_cons (pv 5) pa_nil)))))))
      (pss_one (ps_ret (pv 2))))))), ?_⟩
      cases p with
      | take =>
        obtain ⟨a, x, rfl, hq, h1⟩ := hp.t1
        obtain rfl := h1.s
        refine ⟨_, rfl, a, _, 0, .str "take", rfl, rfl, hq, atI_nat (j := 0) rfl, rfl, _, rfl, ift (by decide +kernel) ?_⟩
        refine ⟨_, rfl, (by show 1 ≤ sizeLine; decide), fun l nl => ?_⟩
        have k1 := Keep.new (o := .lst [wv]) nl (Keep.refl [] H)
        have e1 : (if decide (V.str "take" = V.str "take") = true then (1 : Int) else 0) = 1 := by rw [if_pos (by decide +kernel)]
        refine ⟨_, rfl, a, _, 0, .str "take", rfl, rfl, k1.sqT hq, atI_nat (j := 0) rfl, rfl, .inr ⟨_, rfl, ?_⟩⟩
        refine ⟨l, 1, [wv], rfl, congrArg V.int e1, upd_same, by decide, by decide, (by show 1 ≤ sizeLine; decide), fun r nr => ?_⟩
        have k2 := k1.new_ (o := .lst (List.replicate (1 : Int).toNat [wv]).flatten) nr
        exact qs _ rfl r [wv] _ k2 (new_old nr) upd_same (.cons hw .nil)
      | pass =>
        obtain ⟨a, x, rfl, hq, h1⟩ := hp.t1
        obtain rfl := h1.s
        refine ⟨_, rfl, a, _, 0, .str "pass", rfl, rfl, hq, atI_nat (j := 0) rfl, rfl, _, rfl, ift (by decide +kernel) ?_⟩
        refine ⟨_, rfl, (by show 1 ≤ sizeLine; decide), fun l nl => ?_⟩
        have k1 := Keep.new (o := .lst [wv]) nl (Keep.refl [] H)
        have e1 : (if decide (V.str "pass" = V.str "take") = true then (1 : Int) else 0) = 0 := by rw [if_neg (by decide +kernel)]
        refine ⟨_, rfl, a, _, 0, .str "pass", rfl, rfl, k1.sqT hq, atI_nat (j := 0) rfl, rfl, .inr ⟨_, rfl, ?_⟩⟩
        refine ⟨l, 0, [wv], rfl, congrArg V.int e1, upd_same, by decide, by decide, (by show 0 ≤ sizeLine; decide), fun r nr => ?_⟩
        have k2 := k1.new_ (o := .lst (List.replicate (0 : Int).toNat [wv]).flatten) nr
        exact qs _ rfl r [] _ k2 (new_old nr) upd_same .nil
      | shape nm ps =>
        obtain ⟨a, x, y, z, rfl, hq, h1, h2, h3⟩ := hp.t3
        obtain rfl := h1.s
        obtain rfl := h2.s
        obtain ⟨b, zs, rfl, hb, hzs⟩ := id h3.t
        have hlz := hzs.length
        rw [encPs_map, List.length_map] at hlz
        refine ⟨_, rfl, a, _, 0, .str "shape", rfl, rfl, hq, atI_nat (j := 0) rfl, rfl, _, rfl, iff' (by decide +kernel) ?_⟩
        obtain ⟨wa, w0, xs, rfl, hwa, hcase⟩ := hw.head
        replace hwa := kb.sqT hwa
        rcases hcase with ⟨nn, u, us, ws, rfl, rfl, rfl, hu, hus⟩ | ⟨ne, nsh⟩
        · replace hu := kb.sqT hu
          refine ⟨_, rfl, wa, _, 0, .str "shape", rfl, rfl, hwa, atI_nat (j := 0) rfl, rfl, _, rfl, iff' (by decide +kernel) ?_⟩
          refine ⟨_, rfl, wa, _, 1, .str nn, rfl, rfl, hwa, atI_nat (j := 1) rfl, _, rfl, a, _, 1, .str nm, rfl, rfl, hq, atI_nat (j := 1) rfl, rfl, _, rfl, ?_⟩
          by_cases en : nm = nn
          · subst en
            refine iff' (by simp) ?_
            refine ⟨by decide, fun f nf => ?_⟩
            have kf := Keep.new (o := .lst []) nf (Keep.refl [] H)
            have etk : takenP (.shape nm ps) (.shape nm ws) = takenL ps ws := if_pos rfl
            rw [etk] at qn qs
            have hlu := hus.length
            refine ⟨_, rfl, a, _, 2, .ref b, rfl, rfl, kf.sqT hq, atI_nat (j := 2) rfl, _, rfl, wa, _, 2, .ref u, rfl, rfl, kf.sqT hwa, atI_nat (j := 2) rfl, b, u, zs, us, rfl, .inr ⟨kf.sqT hb, kf.sqT hu, ?_⟩⟩
            refine for_it (walk_zipT (n := min zs.length us.length) rfl) (fun i σ H' => ∃ (acc : List Wo) (vs : List V) (o3 o4 o5 : Option V), σ = [some (.ref a), some (.ref wa), some (.ref f), o3, o4, o5] ∧ Keep [] H H' ∧ H' f = some (.lst vs) ∧ WAtL K S Hb vs acc ∧ takenL ps ws = (takenL (ps.drop i) (ws.drop i)).map (fun r => acc ++ r) ∧ acc.length ≤ pnodesL (ps.take i))
              ⟨[], [], none, none, none, rfl, kf, upd_same, .nil, by simp, Nat.zero_le _⟩ (fun i σ H' _ ⟨acc, vs, o3, o4, o5, e, k, _⟩ => ⟨k.sqT hb, k.sqT hu⟩) (fun i v σ H' H'' hi ⟨acc, vs, o3, o4, o5, e, k, hfv, hacc, ht, hal⟩ yy => ?_) (fun σ H' ⟨acc, vs, o3, o4, o5, e, k, hfv, hacc, ht, hal⟩ => ?_)
            · subst e
              obtain ⟨T', x1, x2, rfl, nT, rfl, e1, e2⟩ := yy
              obtain ⟨pd, e3, hx1⟩ := hzs.get' e1
              rw [encPs_map, List.getElem?_map] at e3
              obtain ⟨p, e4, rfl⟩ := Option.map_eq_some_iff.mp e3
              obtain ⟨w1, e5, hx2⟩ := hus.get' e2
              have hpm : p ∈ ps := List.mem_of_getElem? e4
              have hpd : pdeep p < n := by
                have := pdeepL_mem hpm
                have : pdeep (Pat.shape nm ps) = 1 + pdeepL ps := by simp [pdeep]
                omega
              have hpt := pnodesL_take e4
              have hpn : pnodes (Pat.shape nm ps) = 1 + pnodesL ps := by simp [pnodes]
              have kT := k.new_ (o := .tup [x1, x2]) nT
              have kT' := Keep.new (o := .tup [x1, x2]) nT (Keep.refl [] H')
              rw [takenL_step e4 e5] at ht
              refine ⟨T', _, rfl, .of upd_same, rfl, _, _, rfl, _, _, rfl, rfl, ?_⟩
              refine ⟨_, rfl, _, rfl, Hb, x1, x2, p, w1, rfl, hpd, hx1.keep kT, kb.trans kT, hx2, by omega, fun en H5 k5 => ?_, fun t et l2 us2 H5 k5 nl2 hl2 hus2 => ?_⟩
              · rw [en] at ht
                refine ⟨_, rfl, rfl, _, rfl, ift rfl ?_⟩
                exact qn ht _ (kT.trans k5)
              · rw [et] at ht
                refine ⟨_, rfl, rfl, _, rfl, iff' rfl ?_⟩
                have hf5 := k5.at_ _ _ (by simp) (kT'.at_ _ _ (by simp) hfv)
                have hvl := hacc.length
                have hu2 := hus2.length
                have htl := takenP_len p w1 t et
                have hz1 : 1000 < sizeLine := by decide
                refine ⟨_, rfl, .inl ⟨rfl, _, .of hf5⟩, _, rfl, f, l2, _, _, rfl, rfl, hf5, hl2, by omega, ?_⟩
                have kk := kT.trans k5
                have k6 : Keep [f] H5 (upd H5 f (.lst (vs ++ us2))) := Keep.lst hf5 (.inl (by simp)) (Keep.refl _ _)
                refine ⟨acc ++ t, vs ++ us2, _, _, _, rfl, Keep.lst hf5 (.inr nf) kk, upd_same, ?_, ?_, ?_⟩
                · exact hacc.append hus2
                · rw [ht]
                  simp [Option.map_map, Function.comp_def]
                · rw [take_snoc e4, pnodesL_append]
                  simp only [List.length_append, pnodesL]
                  omega
            · subst e
              rw [takenL_end (by rw [hlz, hlu])] at ht
              have : takenL ps ws = some acc := by simpa using ht
              exact ⟨_, rfl, qs acc this f vs _ k nf hfv hacc⟩
          · refine ift (by simpa using fun e => en e.symm) ?_
            exact qn (if_neg en) H (Keep.refl _ _)
        · refine ⟨_, rfl, wa, _, 0, .str w0, rfl, rfl, hwa, atI_nat (j := 0) rfl, rfl, _, rfl, ?_⟩
          have hb0 : (!decide (V.str w0 = V.str "shape")) = true := by simpa using ne
          rw [hb0]
          refine ift rfl (ift rfl ?_)
          refine qn ?_ H (Keep.refl _ _)
          cases wo with
          | shape n ws => exact absurd rfl (nsh n ws)
          | clo _ _ _ => rfl
          | dull => rfl
end
end K46
/-! K46P1 -/
set_option maxHeartbeats 4000000
namespace K46
open PySem PySem.Spec PyProof.Rows L2 C8
/-! ### the deck: cells, a number, how many draws -/
structure DeckOk (H : Hp) (dk cs : Addr) : Prop where
  ex : ∃ (m k : Int) (ns : List Int), H dk = some (.lst [.ref cs, .int m, .int k]) ∧ H cs = some (.lst (ns.map V.int)) ∧ ns.length ≤ 100
  ne : dk ≠ cs
section
variable {H H1 : Hp} {dk cs p : Addr} {S : List Addr} {o : HO}
theorem DeckOk.keep (k : Keep S H H1) (h1 : dk ∉ S) (h2 : cs ∉ S) (d : DeckOk H dk cs) : DeckOk H1 dk cs := by
  obtain ⟨m, c, ns, e1, e2, e3⟩ := d.ex
  exact ⟨⟨m, c, ns, k.at_ _ _ h1 e1, k.at_ _ _ h2 e2, e3⟩, d.ne⟩
theorem DeckOk.keep0 (k : Keep [] H H1) (d : DeckOk H dk cs) : DeckOk H1 dk cs := d.keep k (by simp) (by simp)
theorem DeckOk.no (d : DeckOk H dk cs) (n : H p = none) : p ≠ dk ∧ p ≠ cs := by
  obtain ⟨m, c, ns, e1, e2, e3⟩ := d.ex
  exact ⟨(ne_of_none e1 n).symm, (ne_of_none e2 n).symm⟩
end
theorem AtL.ints {K : PySem.W.Frag} {H : Hp} : ∀ {ns : List Int} {f : Int → Int} {ys : List V}, AtL K H ys (ns.map fun i => D.int (f i)) → ys = (ns.map f).map V.int
  | [], _, _, h => by
    cases h
    rfl
  | n :: ns, f, _, h => by
    obtain ⟨y, ys, rfl, h1, h2⟩ := AtL.cons' (show AtL K H _ (D.int (f n) :: ns.map fun i => D.int (f i)) from h)
    rw [h1.i, AtL.ints (f := f) h2]
    rfl
theorem mod_64 (x m : Int) (h : 0 < m) (h2 : m ≤ 2 ^ 64) : -(2 ^ 64) < x % m ∧ x % m < 2 ^ 64 := by
  have h3 := Int.emod_nonneg x (show m ≠ 0 by omega)
  have h4 := Int.emod_lt_of_pos x h
  constructor <;> omega
section
variable {P : Program} {w : World} {K : PySem.W.Frag} {mg : Str → Option Value} {base : Heap}
def sp_deck (K : PySem.W.Frag) : Sp := fun vs H Q _ => ∃ (a : Addr) (ns : List Int), vs = [.ref a] ∧ SqL K H a (ns.map V.int) ∧ ns.length ≤ 63 ∧ ∀ dk cs H', Keep [] H H' → H dk = none → H cs = none → DeckOk H' dk cs → Q (.ref dk) H'
theorem ok_deck (T : Tx K mg) : Cal P w K mg base 1 "_law_deck" (sp_deck K) [] := by
  refine cal_mk T.f_deck T.g_deck sc_deck (fun _ _ _ _ _ _ us hl => match us, hl with | [_], _ => rfl) (fun vs H Q E h => ?_) (fun cdv A outer s0 H vs Q E hr h => ?_)
  · obtain ⟨a, ns, rfl, _⟩ := h
    rfl
  · obtain ⟨a, ns, rfl, ha, hl, q⟩ := h
    refine ⟨_, (pss_cons (ps_set (i := 1) sc_deck.nd rfl (Or.inl rfl) (pe_callTy call_list_of (by rfl) T.z_list (by decide +kernel) (pa_cons (pe_slice sl_list (pv 0) po_none (po_some pe_int)) pa_nil)))
      (pss_one (ps_ret (pe_lst (pa_cons (pe_revL (pv 1)) (pa_cons (pe_op op_add (pe_callB (cr_sum rfl) (by rfl) T.z_sum (by decide +kernel) (pa_cons (pe_lc (g := (gName 2)) rfl sc_deck.nd (pi_list (pv 1)) (blkOk_by (own := [("_law_cell", 2)]) (N := ["_law_script", "_law_cells", "_law_cell"]) (sc := defScope s_deck) (by decide +kernel)) (fun _ _ _ _ _ => (pg_name (i := 2) sc_deck.nd rfl (Or.inl rfl))) (fun _ _ _ _ _ => pts_nil) (fun _ _ _ _ _ => (pe_op op_mod (pv 2) pe_int))) pa_nil)) (pe_op op_mul pe_int (pe_callB call_len_seq (by rfl) T.z_len PySem.boot_len (pa_cons (pv 1) pa_nil)))) (pa_cons pe_int pa_nil))))))), ?_⟩
    have ecut : cutV (ns.map V.int) none (some 63) = ns.map V.int := by
      show ((ns.map V.int).drop 0).take (min 63 (ns.map V.int).length - 0) = _
      rw [List.drop_zero, List.length_map, Nat.min_eq_right hl, Nat.sub_zero]
      exact List.take_of_length_le (by rw [List.length_map]; exact Nat.le_refl _)
    refine ⟨_, rfl, _, rfl, a, _, rfl, ha, fun p np => ?_⟩
    rw [ecut]
    refine ⟨p, _, rfl, .inl (.of upd_same), fun l nl => ?_⟩
    have k1 := (Keep.new (o := .lst (ns.map V.int)) np (Keep.refl [] H)).new_ (o := .lst (ns.map V.int)) nl
    have hl1 : upd (upd H p (.lst (ns.map V.int))) l (.lst (ns.map V.int)) l = some (.lst (ns.map V.int)) := upd_same
    generalize upd (upd H p (.lst (ns.map V.int))) l (.lst (ns.map V.int)) = H1 at k1 hl1
    refine ⟨_, rfl, l, _, rfl, .of hl1, fun r nr => ?_⟩
    have k2 := Keep.new (o := .lst (ns.map V.int).reverse) nr (Keep.refl [] H1)
    have hr2 : upd H1 r (.lst (ns.map V.int).reverse) r = some (.lst (ns.map V.int).reverse) := upd_same
    generalize upd H1 r (.lst (ns.map V.int).reverse) = H2 at k2 hr2
    have hl2 := k2.at_ _ _ (by simp) hl1
    refine ⟨_, rfl, l, rfl, ⟨_, .of hl2⟩, fun D nD => lc_data (K := K) (walk_list (xs := ns.map V.int)) (ns.map fun i => K46.D.int (i % 1000033)) (by simp) (by rw [List.length_map]; exact Nat.le_trans hl (by decide)) nD (fun H k => .of (k.at_ _ _ (by simp) hl2)) (fun i x H3 H4 d Qn F hi k3 y1 e1 hQ => ?_) (fun ys H3 k3 hD hys => ?_)⟩
    · obtain ⟨rfl, ex⟩ := y1
      rw [List.getElem?_map] at ex e1
      obtain ⟨z, ez, rfl⟩ := Option.map_eq_some_iff.mp ex
      rw [ez] at e1
      cases e1
      refine ⟨rfl, tyes ?_⟩
      exact ⟨_, rfl, _, _, rfl, rfl, (by show (0 : Int) < _; decide), hQ _ _ (Keep.refl _ _) (.int _)⟩
    · obtain rfl := hys.ints
      have hl3 := k3.at_ _ _ (by simp) hl2
      refine ⟨D, _, rfl, .of hD, _, rfl, l, _, rfl, .inl (.of hl3), _, _, rfl, rfl, .inl ⟨by decide, by decide⟩, _, _, rfl, rfl, (by show 3 ≤ sizeLine; decide), fun dk ndk => ?_⟩
      have k4 := Keep.new (o := .lst [.ref r, .int ((ns.map fun i => i % 1000033).sum + 6007 * ((ns.map V.int).length : Int)), .int 0]) ndk (Keep.refl [] H3)
      have hr3 := k3.at_ _ _ (by simp) hr2
      refine q dk r _ (k1.trans (k2.trans (k3.trans k4))) ((k1.trans (k2.trans k3)).free ndk) (k1.free nr) ⟨⟨_, _, ns.reverse, upd_same, ?_, by rw [List.length_reverse]; omega⟩, (ne_of_none hr3 ndk).symm⟩
      rw [upd_ne (ne_of_none hr3 ndk), hr3, List.map_reverse]
def sp_draw (K : PySem.W.Frag) : Sp := fun vs H Q _ => ∃ (dk cs : Addr) (n : Nat), vs = [.ref dk, .int (n : Int)] ∧ DeckOk H dk cs ∧ (1 ≤ n ∧ n ≤ 1000) ∧ ∀ (v : Nat) H', v < n → Keep [dk, cs] H H' → DeckOk H' dk cs → Q (.int (v : Int)) H'
theorem ok_draw (T : Tx K mg) : Cal P w K mg base 1 "_law_draw" (sp_draw K) [] := by
  refine cal_mk T.f_draw T.g_draw sc_draw (fun _ _ _ _ _ _ us hl => match us, hl with | [_, _], _ => rfl) (fun vs H Q E h => ?_) (fun cdv A outer s0 H vs Q E hr h => ?_)
  · obtain ⟨dk, cs, n, rfl, _⟩ := h
    rfl
  · obtain ⟨dk, cs, n, rfl, hd, hn, q⟩ := h
    obtain ⟨⟨m, k, ns, e1, e2, e3⟩, ne⟩ := id hd
    refine ⟨_, (pss_cons (ps_asg (pe_op op_add (pe_ix ix_list (pv 0) pe_int (fun _ _ => rfl)) pe_int) (pg_sub (pv 0) pe_int set_list))
      (pss_cons (ps_set (i := 2) sc_draw.nd rfl (Or.inl rfl) (pe_ix ix_list (pv 0) pe_int (fun _ _ => rfl)))
      (pss_cons (ps_if (pt_cmpR (op_ne0 hr.units0) (pe_ix ix_list (pv 0) pe_int (fun _ _ => rfl)) (pe_lst pa_nil) (nomark _)) (pss_cons (ps_set (i := 2) sc_draw.nd rfl (Or.inl rfl) (pe_bm0 PySem.F.plainAttrs_list PySem.F.slot_list_pop PySem.F.type_list_pop mt_pop (pe_ix ix_list (pv 0) pe_int (fun _ _ => rfl))))
      (pss_one (ps_if (pt_cmpR op_ge (pv 2) (pe_op op_pow pe_int pe_int) (nomark _)) (pss_cons (ps_expr (pe_bm PySem.F.plainAttrs_list PySem.F.slot_list_append PySem.F.type_list_append mt_append (pe_ix ix_list (pv 0) pe_int (fun _ _ => rfl)) (pa_cons (pe_op op_fdiv (pv 2) (pv 1)) pa_nil)))
      (pss_one (ps_ret (pe_op op_mod (pv 2) (pv 1))))) pss_nil))) pss_nil)
      (pss_cons (ps_set (i := 3) sc_draw.nd rfl (Or.inl rfl) (pe_op op_mod (pe_op op_mul (pe_op op_add (pe_op op_add (pe_op op_mod (pv 2) pe_int) (pe_op op_mul pe_int (pe_ix ix_list (pv 0) pe_int (fun _ _ => rfl)))) pe_int) pe_int) pe_int))
      (pss_cons (ps_set (i := 3) sc_draw.nd rfl (Or.inl rfl) (pe_op op_mod (pe_op op_add (pe_op op_add (pe_op op_mul (pv 3) (pv 3)) (pe_op op_mul pe_int (pe_ix ix_list (pv 0) pe_int (fun _ _ => rfl)))) pe_int) pe_int))
      (pss_one (ps_ret (pe_op op_mod (pe_op op_fdiv (pe_op op_mod (pe_op op_add (pe_op op_mul (pv 3) (pv 3)) (pe_op op_mul pe_int (pv 3))) pe_int) pe_int) (pv 1))))))))), ?_⟩
    have hn0 : (0 : Int) < (n : Int) := by omega
    have fin : ∀ (x : Int) (H' : Hp), Keep [dk, cs] H H' → DeckOk H' dk cs → Q (.int (x % (n : Int))) H' := fun x H' k2 d2 => by
      have h1 : 0 ≤ x % (n : Int) := Int.emod_nonneg _ (by omega)
      have h2 : x % (n : Int) < n := Int.emod_lt_of_pos _ hn0
      rw [← Int.toNat_of_nonneg h1]
      exact q _ H' (by omega) k2 d2
    refine ⟨_, rfl, dk, _, 2, .int k, rfl, rfl, .of e1, atI_nat (j := 2) rfl, _, _, rfl, rfl, ?_⟩
    refine ⟨_, rfl, dk, _, 2, 2, rfl, rfl, e1, rfl, ?_⟩
    rw [show ([V.ref cs, V.int m, V.int k].set 2 ((fun i j => V.int (i + j)) k 1)) = [V.ref cs, V.int m, V.int (k + 1)] from rfl]
    have k1 : Keep [dk, cs] H (upd H dk (.lst [V.ref cs, V.int m, V.int (k + 1)])) := Keep.lst e1 (.inl (by simp)) (Keep.refl _ _)
    have f1 : upd H dk (.lst [V.ref cs, V.int m, V.int (k + 1)]) dk = some (.lst [V.ref cs, V.int m, V.int (k + 1)]) := upd_same
    have f2 : upd H dk (.lst [V.ref cs, V.int m, V.int (k + 1)]) cs = some (.lst (ns.map V.int)) := by rw [upd_ne ne.symm]; exact e2
    generalize upd H dk (.lst [V.ref cs, V.int m, V.int (k + 1)]) = H1 at k1 f1 f2
    refine ⟨_, rfl, dk, _, 1, .int m, rfl, rfl, .of f1, atI_nat (j := 1) rfl, ?_⟩
    refine ⟨_, rfl, dk, _, 0, .ref cs, rfl, rfl, .of f1, atI_nat (j := 0) rfl, (by decide), fun q0 nq => ?_⟩
    have k2 := Keep.new (o := .lst []) nq (Keep.refl [] H1)
    have g1 := k2.at_ _ _ (by simp) f1
    have g2 := k2.at_ _ _ (by simp) f2
    have hq0 : upd H1 q0 (.lst []) q0 = some (.lst []) := upd_same
    generalize upd H1 q0 (.lst []) = H2 at k2 g1 g2 hq0
    have k12 := k1.trans (k2.mono (S' := [dk, cs]) (by simp))
    refine ⟨cs, q0, _, rfl, rfl, .inl ⟨.of g2, .of hq0⟩, _, rfl, ?_⟩
    rcases List.eq_nil_or_concat ns with rfl | ⟨ns', c, e⟩
    · refine iff' (by simp) ?_
      refine ⟨_, rfl, _, _, rfl, rfl, (by show (0 : Int) < _; decide), _, rfl, dk, _, 2, .int (k + 1), rfl, rfl, .of g1, atI_nat (j := 2) rfl, _, _, rfl, rfl, .inl ⟨by decide, by decide⟩, _, _, rfl, rfl, _, _, rfl, rfl, _, _, rfl, rfl, .inr ⟨by decide, by decide⟩, _, _, rfl, rfl, (by show (0 : Int) < _; decide), ?_⟩
      refine ⟨_, rfl, _, rfl, _, _, rfl, rfl, .inl (mod_64 _ _ (by decide) (by decide)), _, rfl, dk, _, 2, .int (k + 1), rfl, rfl, .of g1, atI_nat (j := 2) rfl, _, _, rfl, rfl, .inl ⟨by decide, by decide⟩, _, _, rfl, rfl, _, _, rfl, rfl, _, _, rfl, rfl, (by show (0 : Int) < _; decide), ?_⟩
      refine ⟨_, rfl, _, rfl, _, _, rfl, rfl, .inl (mod_64 _ _ (by decide) (by decide)), _, rfl, _, _, rfl, rfl, .inl ⟨by decide, by decide⟩, _, _, rfl, rfl, _, _, rfl, rfl, (by show (0 : Int) < _; decide), _, _, rfl, rfl, ⟨by decide, by decide⟩, _, rfl, _, _, rfl, rfl, hn0, ?_⟩
      exact fin _ H2 k12 ⟨⟨_, _, [], g1, g2, Nat.zero_le _⟩, ne⟩
    · rw [List.concat_eq_append] at e
      subst e
      refine ift (by simp) ?_
      have elast : ((ns' ++ [c]).map V.int)[((ns' ++ [c]).map V.int).length - 1]? = some (.int c) := by simp
      refine ⟨_, rfl, dk, _, 0, .ref cs, rfl, rfl, .of g1, atI_nat (j := 0) rfl, .inl ⟨rfl, _, .of g2⟩, cs, _, .int c, rfl, rfl, g2, elast, ?_⟩
      rw [show ((ns' ++ [c]).map V.int).dropLast = ns'.map V.int by simp]
      have k3 : Keep [dk, cs] H2 (upd H2 cs (.lst (ns'.map V.int))) := Keep.lst g2 (.inl (by simp)) (Keep.refl _ _)
      have i1 : upd H2 cs (.lst (ns'.map V.int)) dk = some (.lst [V.ref cs, V.int m, V.int (k + 1)]) := by rw [upd_ne ne]; exact g1
      have i2 : upd H2 cs (.lst (ns'.map V.int)) cs = some (.lst (ns'.map V.int)) := upd_same
      generalize upd H2 cs (.lst (ns'.map V.int)) = H3 at k3 i1 i2
      have k13 := k12.trans k3
      have hl3 : ns'.length + 1 ≤ 100 := by simpa using e3
      refine ⟨_, rfl, _, _, rfl, rfl, ⟨by decide, by decide, by decide⟩, _, _, rfl, rfl, _, rfl, ?_⟩
      refine ite2 (fun hb => ?_) (fun hb => ?_)
      · refine ⟨_, rfl, dk, _, 0, .ref cs, rfl, rfl, .of i1, atI_nat (j := 0) rfl, .inl ⟨rfl, _, .of i2⟩, _, rfl, _, rfl, _, _, rfl, rfl, ⟨hn0, by omega⟩, cs, _, _, rfl, rfl, i2, ?_, ?_⟩
        · rw [List.length_map]
          exact Nat.lt_of_lt_of_le (show ns'.length < 100 by omega) (by decide)
        · have k4 : Keep [dk, cs] H3 (upd H3 cs (.lst (ns'.map V.int ++ [V.int (c / (n : Int))]))) := Keep.lst i2 (.inl (by simp)) (Keep.refl _ _)
          refine ⟨_, rfl, _, rfl, _, _, rfl, rfl, hn0, ?_⟩
          refine fin _ _ (k13.trans k4) ⟨⟨m, k + 1, ns' ++ [c / (n : Int)], ?_, ?_, by simp; omega⟩, ne⟩
          · rw [upd_ne ne]
            exact i1
          · rw [upd_same, List.map_append]
            rfl
      · 
        refine ⟨_, rfl, _, _, rfl, rfl, (by show (0 : Int) < _; decide), _, rfl, dk, _, 2, .int (k + 1), rfl, rfl, .of i1, atI_nat (j := 2) rfl, _, _, rfl, rfl, .inl ⟨by decide, by decide⟩, _, _, rfl, rfl, _, _, rfl, rfl, _, _, rfl, rfl, .inr ⟨by decide, by decide⟩, _, _, rfl, rfl, (by show (0 : Int) < _; decide), ?_⟩
        refine ⟨_, rfl, _, rfl, _, _, rfl, rfl, .inl (mod_64 _ _ (by decide) (by decide)), _, rfl, dk, _, 2, .int (k + 1), rfl, rfl, .of i1, atI_nat (j := 2) rfl, _, _, rfl, rfl, .inl ⟨by decide, by decide⟩, _, _, rfl, rfl, _, _, rfl, rfl, _, _, rfl, rfl, (by show (0 : Int) < _; decide), ?_⟩
        refine ⟨_, rfl, _, rfl, _, _, rfl, rfl, .inl (mod_64 _ _ (by decide) (by decide)), _, rfl, _, _, rfl, rfl, .inl ⟨by decide, by decide⟩, _, _, rfl, rfl, _, _, rfl, rfl, (by show (0 : Int) < _; decide), _, _, rfl, rfl, ⟨by decide, by decide⟩, _, rfl, _, _, rfl, rfl, hn0, ?_⟩
        exact fin _ H3 k13 ⟨⟨_, _, ns', i1, i2, by omega⟩, ne⟩
def sp_pick (K : PySem.W.Frag) : Sp := fun vs H Q _ => ∃ (dk cs l : Addr) (xs : List V), vs = [.ref dk, .ref l] ∧ DeckOk H dk cs ∧ SqL K H l xs ∧ l ≠ dk ∧ l ≠ cs ∧ (1 ≤ xs.length ∧ xs.length ≤ 1000) ∧ ∀ (i : Nat) v H', xs[i]? = some v → Keep [dk, cs] H H' → DeckOk H' dk cs → Q v H'
theorem ok_pick (T : Tx K mg) : Cal P w K mg base 2 "_law_pick" (sp_pick K) [] := by
  have c_draw := ok_draw (P := P) (w := w) (base := base) T
  refine cal_mk T.f_pick T.g_pick sc_pick (fun _ _ _ _ _ _ us hl => match us, hl with | [_, _], _ => rfl) (fun vs H Q E h => ?_) (fun cdv A outer s0 H vs Q E hr h => ?_)
  · obtain ⟨dk, cs, l, xs, rfl, _⟩ := h
    rfl
  · obtain ⟨dk, cs, l, xs, rfl, hd, hl, n1, n2, hx, q⟩ := h
    refine ⟨_, (pss_one (ps_ret (pe_ix ix_list (pv 1) (pe_c c_draw hr (by omega) rfl (pa_cons (pv 0) (pa_cons (pe_callB call_len_seq (by rfl) T.z_len PySem.boot_len (pa_cons (pv 1) pa_nil)) pa_nil))) (fun _ _ => rfl)))), ?_⟩
    refine ⟨_, rfl, _, rfl, _, rfl, l, _, rfl, .inl hl, dk, cs, xs.length, rfl, hd, hx, fun v H' hv k d => ?_⟩
    have e := List.getElem?_eq_getElem hv
    exact ⟨l, xs, (v : Int), xs[v], rfl, rfl, k.sqL (by simp [n1, n2]) hl, atI_nat e, q v _ H' e k d⟩
end
end K46
/-! K46M6 -/
set_option maxHeartbeats 4000000
namespace K46
open PySem PySem.Spec PyProof.Rows L2 C8
/-! ## what is made runs as the law's run does -/
inductive CodesFor (bs : List Bk) : List Nat → List Tm → List Ins → Prop
  | nil (Γ) : CodesFor bs Γ [] []
  | «at» {Γ i ts c} : CodesFor bs Γ ts c → CodesFor bs Γ (.at i :: ts) (.loc (Γ.getD (Γ.length - 1 - i) 0) :: c)
  | clo {Γ fn b ts nm cb c} : codeIn bs nm = some (cb ++ [.tell]) → CodesFor bs (List.range (Γ.length + fn.toNat)) [b] cb → CodesFor bs Γ ts c → CodesFor bs Γ (.clo fn b :: ts) (Γ.map .loc ++ .close nm Γ.length :: c)
  | nd {Γ k as ts ca c} : CodesFor bs Γ as ca → CodesFor bs Γ ts c → CodesFor bs Γ (.nd k as :: ts) (ca ++ .own k as.length :: c)
inductive RowsFor (bs : List Bk) (many : Nat) : List Rw → List Ins → Prop
  | nil : RowsFor bs many [] [.own .dull 0, .tell]
  | last {r rs c} : (asksL r.ps 0 many).2.2 = [] → CodesFor bs (asksL r.ps 0 many).2.1 [r.body] c → RowsFor bs many (r :: rs) (c ++ [.tell])
  | more {r rs c nm c2} : CodesFor bs (asksL r.ps 0 many).2.1 [r.body] c → codeIn bs nm = some c2 → RowsFor bs many rs c2 →
      RowsFor bs many (r :: rs) (addAsks ((asksL r.ps 0 many).2.2.length + (c.length + 1)) 0 (asksL r.ps 0 many).2.2 ++ (c ++ [.tell]) ++ ((List.range many).map .loc ++ [.close nm many, .own .go 0, .tell]))
mutual
inductive Wv (bs : List Bk) : Wo → MV → Prop
  | shape (n : Str) {ws : List Wo} {vs : List MV} : WvL bs ws vs → Wv bs (.shape n ws) (.shape n vs)
  | clo {fn : Bool} {b : Tm} {env : List Wo} {nm : Str} {vs : List MV} {cb : List Ins} : WvL bs env vs → codeIn bs nm = some (cb ++ [.tell]) → CodesFor bs (List.range (env.length + fn.toNat)) [b] cb → env.length ≤ 10000 → Wv bs (.clo fn b env) (.clo nm vs)
  | dull : Wv bs .dull .dull
inductive WvL (bs : List Bk) : List Wo → List MV → Prop
  | nil : WvL bs [] []
  | cons {w : Wo} {v : MV} {ws : List Wo} {vs : List MV} : Wv bs w v → WvL bs ws vs → WvL bs (w :: ws) (v :: vs)
end
section
variable {bs : List Bk}
theorem WvL.length : ∀ {ws : List Wo} {vs : List MV}, WvL bs ws vs → ws.length = vs.length
  | _, _, .nil => rfl
  | _, _, .cons _ t => congrArg Nat.succ (WvL.length t)
theorem WvL.get : ∀ {ws : List Wo} {vs : List MV} {i : Nat} {w : Wo}, WvL bs ws vs → ws[i]? = some w → ∃ v, vs[i]? = some v ∧ Wv bs w v
  | _, _, _, _, .nil, e => by simp at e
  | _, _, 0, _, .cons h _, e => by
    simp at e
    subst e
    exact ⟨_, rfl, h⟩
  | _, _, i + 1, _, .cons _ t, e => by
    obtain ⟨v, h1, h2⟩ := WvL.get t (by simpa using e)
    exact ⟨v, by simpa using h1, h2⟩
theorem WvL.append : ∀ {a : List Wo} {b : List MV} {c : List Wo} {d : List MV}, WvL bs a b → WvL bs c d → WvL bs (a ++ c) (b ++ d)
  | _, _, _, _, .nil, s => s
  | _, _, _, _, .cons h t, s => .cons h (WvL.append t s)
/-- names around, at places of the locals -/
def EnvAt (bs : List Bk) (Γ : List Nat) (env : List Wo) (L : List MV) : Prop := Γ.length = env.length ∧ ∀ (i : Nat) (w : Wo), env[i]? = some w → ∃ (k : Nat) (v : MV), Γ[i]? = some k ∧ L[k]? = some v ∧ Wv bs w v
theorem EnvAt.range {env : List Wo} {L : List MV} (h : WvL bs env L) : EnvAt bs (List.range env.length) env L := by
  refine ⟨by simp, fun i w e => ?_⟩
  obtain ⟨v, h1, h2⟩ := h.get e
  exact ⟨i, v, List.getElem?_range (List.getElem?_eq_some_iff.mp e).1, h1, h2⟩
theorem EnvAt.nil (L : List MV) : EnvAt bs [] [] L := ⟨rfl, fun i w e => by simp at e⟩
theorem EnvAt.append {Γ Γ' : List Nat} {a b : List Wo} {L : List MV} (h : EnvAt bs Γ a L) (h' : EnvAt bs Γ' b L) : EnvAt bs (Γ ++ Γ') (a ++ b) L := by
  obtain ⟨l, h⟩ := h
  obtain ⟨l', h'⟩ := h'
  refine ⟨by simp [l, l'], fun i w e => ?_⟩
  by_cases hi : i < a.length
  · rw [List.getElem?_append_left hi] at e
    obtain ⟨k, v, h1, h2, h3⟩ := h i w e
    exact ⟨k, v, by rw [List.getElem?_append_left (by omega)]; exact h1, h2, h3⟩
  · rw [List.getElem?_append_right (by omega)] at e
    obtain ⟨k, v, h1, h2, h3⟩ := h' _ w e
    exact ⟨k, v, by rw [List.getElem?_append_right (by omega), l]; exact h1, h2, h3⟩
theorem EnvAt.grow {Γ : List Nat} {a : List Wo} {L X : List MV} (h : EnvAt bs Γ a L) : EnvAt bs Γ a (L ++ X) := by
  obtain ⟨l, h⟩ := h
  refine ⟨l, fun i w e => ?_⟩
  obtain ⟨k, v, h1, h2, h3⟩ := h i w e
  exact ⟨k, v, h1, by rw [List.getElem?_append_left (List.getElem?_eq_some_iff.mp h2).1]; exact h2, h3⟩
/-! ### asks -/
mutual
theorem asksIn_mono : ∀ (p : Pat) (pl kn : Nat), kn ≤ (asksIn p pl kn).1
  | .take, _, _ => Nat.le_refl _
  | .pass, _, _ => Nat.le_refl _
  | .shape n ps, pl, kn => Nat.le_trans (Nat.le_add_right _ _) (asksL_mono ps kn (kn + ps.length))
theorem asksL_mono : ∀ (ps : List Pat) (pl kn : Nat), kn ≤ (asksL ps pl kn).1
  | [], _, _ => Nat.le_refl _
  | p :: ps, pl, kn => Nat.le_trans (asksIn_mono p pl kn) (asksL_mono ps _ _)
end
mutual
theorem asksIn_known : ∀ (p : Pat) (pl kn : Nat), (asksIn p pl kn).1 + 1 ≤ kn + pnodes p
  | .take, _, _ => Nat.le_refl _
  | .pass, _, _ => Nat.le_refl _
  | .shape n ps, pl, kn => by
    have := asksL_known ps kn (kn + ps.length)
    simp only [asksIn, pnodes]
    omega
theorem asksL_known : ∀ (ps : List Pat) (pl kn : Nat), (asksL ps pl kn).1 + ps.length ≤ kn + pnodesL ps
  | [], _, _ => Nat.le_refl _
  | p :: ps, pl, kn => by
    have h1 := asksIn_known p pl kn
    have h2 := asksL_known ps (pl + 1) (asksIn p pl kn).1
    simp only [asksL, pnodesL, List.length_cons]
    omega
end
/-- asks that all find their shape -/
inductive AskRun : List MV → List (Nat × Str) → List MV → Prop
  | nil (L) : AskRun L [] L
  | cons {L k n vs as L'} : L[k]? = some (.shape n vs) → AskRun (L ++ vs) as L' → AskRun L ((k, n) :: as) L'
theorem AskRun.append {L L1 L2 : List MV} {as bs : List (Nat × Str)} (h : AskRun L as L1) (h2 : AskRun L1 bs L2) : AskRun L (as ++ bs) L2 := by
  induction h with
  | nil => exact h2
  | cons e _ ih => exact .cons e (ih h2)
theorem AskRun.grow {L L1 : List MV} {as : List (Nat × Str)} (h : AskRun L as L1) : ∃ X, L1 = L ++ X := by
  induction h with
  | nil L => exact ⟨[], by simp⟩
  | cons e _ ih =>
    obtain ⟨X, rfl⟩ := ih
    exact ⟨_, List.append_assoc ..⟩
/-- asks of which one does not -/
def AskFail (L : List MV) (as : List (Nat × Str)) (b : Nat) : Prop := ∃ (as1 as2 : List (Nat × Str)) (k : Nat) (n : Str) (L1 : List MV) (v : MV), as = as1 ++ (k, n) :: as2 ∧ AskRun L as1 L1 ∧ L1[k]? = some v ∧ (∀ vs, v ≠ .shape n vs) ∧ L1.length ≤ b
theorem AskFail.left {L : List MV} {as bs : List (Nat × Str)} {x y : Nat} (h : AskFail L as x) (l : x ≤ y) : AskFail L (as ++ bs) y := by
  obtain ⟨a, b, k, n, L1, v, rfl, h1, h2, h3, h4⟩ := h
  exact ⟨a, b ++ bs, k, n, L1, v, by simp, h1, h2, h3, Nat.le_trans h4 l⟩
theorem AskFail.right {L L1 : List MV} {as bs : List (Nat × Str)} {x : Nat} (r : AskRun L as L1) (h : AskFail L1 bs x) : AskFail L (as ++ bs) x := by
  obtain ⟨a, b, k, n, L2, v, rfl, h1, h2, h3⟩ := h
  exact ⟨as ++ a, b, k, n, L2, v, by simp, r.append h1, h2, h3⟩
/-- worths that stand in the locals from a place on -/
def At' (bs : List Bk) (L : List MV) (place : Nat) (ws : List Wo) : Prop := ∀ (j : Nat) (w : Wo), ws[j]? = some w → ∃ v, L[place + j]? = some v ∧ Wv bs w v
theorem At'.grow {L X : List MV} {place : Nat} {ws : List Wo} (h : At' bs L place ws) : At' bs (L ++ X) place ws := fun j w e => by
  obtain ⟨v, h1, h2⟩ := h j w e
  exact ⟨v, by rw [List.getElem?_append_left (List.getElem?_eq_some_iff.mp h1).1]; exact h1, h2⟩
theorem At'.tail {L : List MV} {place : Nat} {w : Wo} {ws : List Wo} (h : At' bs L place (w :: ws)) : At' bs L (place + 1) ws := fun j x e => by
  obtain ⟨v, h1, h2⟩ := h (j + 1) x (by simpa using e)
  exact ⟨v, by rw [← h1]; congr 1; omega, h2⟩
theorem At'.behind {L vs : List MV} {ws : List Wo} (h : WvL bs ws vs) : At' bs (L ++ vs) L.length ws := fun j w e => by
  obtain ⟨v, h1, h2⟩ := h.get e
  exact ⟨v, by rw [List.getElem?_append_right (by omega), ← h1]; congr 1; omega, h2⟩
/-- what asks come to -/
def AskRes (bs : List Bk) (L : List MV) (r : Nat × List Nat × List (Nat × Str)) (o : Option (List Wo)) : Prop :=
  match o with
  | some a => ∃ L', AskRun L r.2.2 L' ∧ L'.length = r.1 ∧ EnvAt bs r.2.1 a L'
  | none => AskFail L r.2.2 r.1
variable {S : Shs}
mutual
theorem askP : ∀ (p : Pat) (w : Wo) (L : List MV) (place : Nat), PatS S p → WoS S w → (∃ v, L[place]? = some v ∧ Wv bs w v) → AskRes bs L (asksIn p place L.length) (takenP p w)
  | .take, w, L, place, _, _, ⟨v, h1, h2⟩ => by
    refine ⟨L, .nil L, rfl, rfl, fun i x e => ?_⟩
    cases i with
    | zero =>
      cases e
      exact ⟨place, v, rfl, h1, h2⟩
    | succ i => simp at e
  | .pass, w, L, place, _, _, _ => ⟨L, .nil L, rfl, EnvAt.nil L⟩
  | .shape n ps, w, L, place, hp, hw, ⟨v, h1, h2⟩ => by
    cases w with
    | shape m ws =>
      cases h2 with
      | shape _ hv =>
      simp only [takenP]
      by_cases e : n = m
      · subst e
        rw [if_pos rfl]
        have hl : ps.length = ws.length := by rw [hp.1, hw.1]
        rename_i vs
        have := askL ps ws (L ++ vs) L.length hp.2 hw.2 hl (At'.behind hv)
        rw [List.length_append, ← hv.length, ← hl] at this
        cases et : takenL ps ws with
        | some a =>
          rw [et] at this
          obtain ⟨L', r1, r2, r3⟩ := this
          exact ⟨L', .cons h1 r1, r2, r3⟩
        | none =>
          rw [et] at this
          obtain ⟨a, b, k, n', L2, v, e, z1, z2, z3, z4⟩ := this
          exact ⟨(place, n) :: a, b, k, n', L2, v, by simp only [asksIn]; rw [e]; rfl, .cons h1 z1, z2, z3, z4⟩
      · rw [if_neg e]
        exact ⟨[], _, place, n, L, _, rfl, .nil L, h1, fun vs z => e (by cases z; rfl), Nat.le_trans (Nat.le_add_right _ _) (asksL_mono ..)⟩
    | clo _ _ _ =>
      cases h2
      exact ⟨[], _, place, n, L, _, rfl, .nil L, h1, (fun vs z => by cases z), Nat.le_trans (Nat.le_add_right _ _) (asksL_mono ..)⟩
    | dull =>
      cases h2
      exact ⟨[], _, place, n, L, _, rfl, .nil L, h1, (fun vs z => by cases z), Nat.le_trans (Nat.le_add_right _ _) (asksL_mono ..)⟩
theorem askL : ∀ (ps : List Pat) (ws : List Wo) (L : List MV) (place : Nat), PatsS S ps → WosS S ws → ps.length = ws.length → At' bs L place ws → AskRes bs L (asksL ps place L.length) (takenL ps ws)
  | [], ws, L, place, _, _, hl, _ => by
    cases ws with
    | nil => exact ⟨L, .nil L, rfl, EnvAt.nil L⟩
    | cons _ _ => cases hl
  | p :: ps, [], _, _, _, _, hl, _ => by cases hl
  | p :: ps, w :: ws, L, place, hp, hw, hl, ha => by
    have h1 := askP p w L place hp.1 hw.1 (by obtain ⟨v, z1, z2⟩ := ha 0 w rfl; exact ⟨v, z1, z2⟩)
    simp only [takenL]
    cases ep : takenP p w with
    | none =>
      rw [ep] at h1
      exact AskFail.left h1 (asksL_mono ..)
    | some a =>
      rw [ep] at h1
      obtain ⟨L1, r1, r2, r3⟩ := h1
      obtain ⟨X, rfl⟩ := r1.grow
      have h2 := askL ps ws (L ++ X) (place + 1) hp.2 hw.2 (by simpa using hl) ha.tail.grow
      rw [r2] at h2
      cases el : takenL ps ws with
      | none =>
        rw [el] at h2
        exact AskFail.right r1 h2
      | some b =>
        rw [el] at h2
        obtain ⟨L2, q1, q2, q3⟩ := h2
        obtain ⟨Y, rfl⟩ := q1.grow
        exact ⟨_, r1.append q1, q2, r3.grow.append q3⟩
end
end
end K46
/-! K46M7 -/
set_option maxHeartbeats 4000000
namespace K46
open PySem PySem.Spec PyProof.Rows L2 C8
inductive RowsS (bs : List Bk) : Nat → List Fr → List Fr → Prop
  | done (fs) : RowsS bs 0 fs fs
  | step {n fs gs hs o} : mstep bs fs = some (gs, o) → gs ≠ [] → Small gs → RowsS bs n gs hs → RowsS bs (n + 1) fs hs
/-- no block's code is longer -/
abbrev MaxC : Nat := 6400
/-- what frames wait may take a worth more -/
def Ok (fs : List Fr) : Prop := ∀ f ∈ fs, f.pile.length + 1 ≤ sizeLine ∧ f.loc.length ≤ sizeLine
section
variable {bs : List Bk}
theorem RowsS.trans {n m : Nat} {a b c : List Fr} (h : RowsS bs n a b) (h2 : RowsS bs m b c) : RowsS bs (n + m) a c := by
  induction h with
  | done => rw [Nat.zero_add]; exact h2
  | step e ne sm _ ih => rw [Nat.add_right_comm]; exact .step e ne sm (ih h2)
theorem Ok.small {f : Fr} {below : List Fr} (h : Ok below) (h1 : f.pile.length ≤ sizeLine) (h2 : f.loc.length ≤ sizeLine) (h3 : below.length + 1 ≤ sizeLine) : Small (f :: below) :=
  ⟨h3, fun g hg => (List.mem_cons.mp hg).elim (fun e => e ▸ ⟨h1, h2⟩) fun m => ⟨by have := (h g m).1; omega, (h g m).2⟩⟩
theorem Ok.cons {f : Fr} {below : List Fr} (h : Ok below) (h1 : f.pile.length + 1 ≤ sizeLine) (h2 : f.loc.length ≤ sizeLine) : Ok (f :: below) := fun g hg => (List.mem_cons.mp hg).elim (fun e => e ▸ ⟨h1, h2⟩) fun m => h g m
theorem max_line : MaxC + 2 ≤ sizeLine := by decide
/-- a row at its line -/
theorem at_row {pre post : List Ins} {r : Ins} {L pile : List MV} {below : List Fr} : mstep bs (⟨pre ++ r :: post, pre.length, L, pile⟩ :: below) = mrow bs r (⟨pre ++ r :: post, pre.length + 1, L, pile⟩ :: below) := by
  show ((pre ++ r :: post)[pre.length]?).bind _ = _
  rw [List.getElem?_append_right (Nat.le_refl _), Nat.sub_self]
  rfl
theorem one {pre post : List Ins} {r : Ins} {L pile : List MV} {below : List Fr} {gs : List Fr} {o : Option MV} (h : mrow bs r (⟨pre ++ r :: post, pre.length + 1, L, pile⟩ :: below) = some (gs, o)) (ne : gs ≠ []) (sm : Small gs) : RowsS bs 1 (⟨pre ++ r :: post, pre.length, L, pile⟩ :: below) gs :=
  .step (at_row.trans h) ne sm (.done _)
/-- locals put on the stack -/
theorem sim_locs {below : List Fr} (hb : Ok below) (hl : below.length + 1 ≤ sizeLine) {L : List MV} (hL : L.length ≤ sizeLine) : ∀ (ks : List Nat) (vs : List MV) (pre post : List Ins) (pile : List MV), ks.map (fun k => L[k]?) = vs.map some → pile.length + ks.length ≤ sizeLine →
    RowsS bs ks.length (⟨pre ++ (ks.map .loc ++ post), pre.length, L, pile⟩ :: below) (⟨pre ++ (ks.map .loc ++ post), pre.length + ks.length, L, pile ++ vs⟩ :: below)
  | [], vs, pre, post, pile, e, _ => by
    cases vs with
    | nil =>
      rw [List.append_nil]
      exact .done _
    | cons _ _ => cases e
  | k :: ks, vs, pre, post, pile, e, hz => by
    cases vs with
    | nil => cases e
    | cons v vs =>
      simp only [List.map_cons, List.cons.injEq] at e
      simp only [List.length_cons] at hz
      have h1 : RowsS bs 1 (⟨pre ++ (.loc k :: (ks.map .loc ++ post)), pre.length, L, pile⟩ :: below) (⟨pre ++ (.loc k :: (ks.map .loc ++ post)), pre.length + 1, L, pile ++ [v]⟩ :: below) := by
        refine one (o := none) ?_ (by simp) (hb.small (by simp only [List.length_append, List.length_singleton]; omega) hL hl)
        show Option.map _ L[k]? = _
        rw [e.1]
        rfl
      have h2 := sim_locs hb hl hL ks vs (pre ++ [.loc k]) post (pile ++ [v]) e.2 (by simp only [List.length_append, List.length_singleton]; omega)
      simp only [List.append_assoc, List.length_append, List.length_singleton, List.singleton_append] at h2
      have h3 := h1.trans h2
      rw [Nat.add_comm 1] at h3
      have e2 : pre.length + 1 + ks.length = pre.length + (ks.length + 1) := by omega
      rw [e2] at h3
      exact h3
/-- asks that all find their shape -/
theorem sim_asks {below : List Fr} (hb : Ok below) (hl : below.length + 1 ≤ sizeLine) {f : Nat} {post : List Ins} {L L' : List MV} {as : List (Nat × Str)} (h : AskRun L as L') : ∀ (pre : List Ins), L'.length ≤ sizeLine →
    RowsS bs as.length (⟨pre ++ (addAsks f pre.length as ++ post), pre.length, L, []⟩ :: below) (⟨pre ++ (addAsks f pre.length as ++ post), pre.length + as.length, L', []⟩ :: below) := by
  induction h with
  | nil L => intro pre _; exact .done _
  | @cons L k n vs as L' e r ih =>
    intro pre hz
    have hg := r.grow
    obtain ⟨X, rfl⟩ := hg
    have h1 : RowsS bs 1 (⟨pre ++ (.ask k n (pre.length + 1) f :: (addAsks f (pre.length + 1) as ++ post)), pre.length, L, []⟩ :: below) (⟨pre ++ (.ask k n (pre.length + 1) f :: (addAsks f (pre.length + 1) as ++ post)), pre.length + 1, L ++ vs, []⟩ :: below) := by
      refine one (o := none) ?_ (by simp) (hb.small (by simp) (by simp only [List.length_append] at hz ⊢; omega) hl)
      show Option.map _ L[k]? = _
      rw [e]
      show some (if n = n then _ else _) = _
      rw [if_pos rfl]
    have h2 := ih (pre ++ [.ask k n (pre.length + 1) f]) hz
    simp only [List.append_assoc, List.length_append, List.length_singleton, List.singleton_append] at h2
    have h3 := h1.trans h2
    rw [Nat.add_comm 1] at h3
    have e2 : pre.length + 1 + as.length = pre.length + (as.length + 1) := by omega
    rw [e2, ← List.append_assoc] at h3
    exact h3
theorem addAsks_append (f : Nat) : ∀ (a b : List (Nat × Str)) (l : Nat), addAsks f l (a ++ b) = addAsks f l a ++ addAsks f (l + a.length) b
  | [], _, _ => rfl
  | (k, n) :: a, b, l => by
    have := addAsks_append f a b (l + 1)
    simp only [List.cons_append, addAsks, this, List.length_cons]
    have e : l + 1 + a.length = l + (a.length + 1) := by omega
    rw [e]
theorem addAsks_length (f : Nat) : ∀ (as : List (Nat × Str)) (l : Nat), (addAsks f l as).length = as.length
  | [], _ => rfl
  | (k, n) :: as, l => congrArg Nat.succ (addAsks_length f as (l + 1))
/-- asks of which one does not -/
theorem sim_fail {below : List Fr} (hb : Ok below) (hl : below.length + 1 ≤ sizeLine) {f b : Nat} {post : List Ins} {L : List MV} {as : List (Nat × Str)} (h : AskFail L as b) (hz : b ≤ sizeLine) :
    ∃ m X, m ≤ as.length ∧ (L ++ X).length ≤ b ∧ RowsS bs m (⟨addAsks f 0 as ++ post, 0, L, []⟩ :: below) (⟨addAsks f 0 as ++ post, f, L ++ X, []⟩ :: below) := by
  obtain ⟨as1, as2, k, n, L1, v, rfl, r, e, hv, hb1⟩ := h
  obtain ⟨X, rfl⟩ := r.grow
  refine ⟨as1.length + 1, X, by simp, hb1, ?_⟩
  have ec : addAsks f 0 (as1 ++ (k, n) :: as2) ++ post = addAsks f 0 as1 ++ (.ask k n (as1.length + 1) f :: (addAsks f (as1.length + 1) as2 ++ post)) := by
    rw [addAsks_append]
    simp [addAsks]
  rw [ec]
  have h1 := sim_asks (bs := bs) hb hl (f := f) (post := .ask k n (as1.length + 1) f :: (addAsks f (as1.length + 1) as2 ++ post)) r [] (by omega)
  simp only [List.nil_append, List.length_nil, Nat.zero_add] at h1
  refine h1.trans ?_
  have h2 := one (bs := bs) (pre := addAsks f 0 as1) (post := addAsks f (as1.length + 1) as2 ++ post) (r := .ask k n (as1.length + 1) f) (L := L ++ X) (pile := []) (below := below) (gs := ⟨addAsks f 0 as1 ++ (.ask k n (as1.length + 1) f :: (addAsks f (as1.length + 1) as2 ++ post)), f, L ++ X, []⟩ :: below) (o := none) ?_ (by simp) (hb.small (by simp) (Nat.le_trans hb1 hz) hl)
  · rw [addAsks_length] at h2
    exact h2
  · show Option.map _ (L ++ X)[k]? = _
    rw [e]
    cases v with
    | shape n' vs =>
      have ne : n ≠ n' := fun z => hv vs (by rw [z])
      show some (if n = n' then _ else _) = _
      rw [if_neg ne]
    | clo _ _ => rfl
    | dull => rfl
/-- a tell, another frame below -/
theorem sim_tell {pre post : List Ins} {L : List MV} {v : MV} {f : Fr} {below : List Fr} (hf : Ok (f :: below)) (hl : below.length + 1 ≤ sizeLine) :
    RowsS bs 1 (⟨pre ++ .tell :: post, pre.length, L, [v]⟩ :: f :: below) ({ f with pile := f.pile ++ [v] } :: below) := by
  have h1 := hf f (List.mem_cons_self ..)
  exact one rfl (by simp) (Ok.small (fun g hg => hf g (List.mem_cons_of_mem _ hg)) (by simp only [List.length_append, List.length_singleton]; omega) h1.2 hl)
end
end K46
/-! K46M8 -/
set_option maxHeartbeats 4000000
namespace K46
open PySem PySem.Spec PyProof.Rows L2 C8
def Bst (M : Nat) : Nat := 4 * M
theorem Bst_le (M : Nat) : 4 * M ≤ Bst M := Nat.le_refl _
def BodyRun (M : Nat) (bs : List Bk) (a : List Wo) (b : Tm) (w : Wo) (s : Nat) : Prop :=
  ∀ (Γ : List Nat) (cb pre post : List Ins) (L : List MV) (below : List Fr), CodesFor bs Γ [b] cb → EnvAt bs Γ a L → L.length ≤ 20000 → (pre ++ (cb ++ post)).length ≤ M → Ok below → below.length + 1 + 6 * s ≤ sizeLine →
    ∃ n v, Wv bs w v ∧ n ≤ cb.length + s * Bst M ∧ RowsS bs n (⟨pre ++ (cb ++ post), pre.length, L, []⟩ :: below) (⟨pre ++ (cb ++ post), pre.length + cb.length, L, [v]⟩ :: below)
theorem map_range_get (L X : List MV) : (List.range L.length).map (fun k => (L ++ X)[k]?) = L.map some := by
  refine List.ext_getElem? fun i => ?_
  rw [List.getElem?_map, List.getElem?_map]
  by_cases h : i < L.length
  · rw [List.getElem?_range h, List.getElem?_eq_getElem h]
    show some (L ++ X)[i]? = _
    rw [List.getElem?_append_left h, List.getElem?_eq_getElem h]
    rfl
  · rw [List.getElem?_eq_none (by rw [List.length_range]; omega), List.getElem?_eq_none (by omega)]
    rfl
theorem big : 20000 + 2 ≤ sizeLine := by decide
theorem runRows {M : Nat} (hM : M ≤ MaxC) {bs : List Bk} {S : Shs} (hlen : ∀ n c, codeIn bs n = some c → c.length ≤ M) {many : Nat} {rows : List Rw} {code : List Ins} (h : RowsFor bs many rows code) :
    ∀ (ws a : List Wo) (b : Tm) (w : Wo) (s : Nat) (vs : List MV) (f : Fr) (below : List Fr), pick rows ws = some (a, b) → WosS S ws → RwsS S rows → (∀ r ∈ rows, r.ps.length = many ∧ many + pnodesL r.ps ≤ 10000) → ws.length = many → WvL bs ws vs → code.length ≤ M → BodyRun M bs a b w s → Ok (f :: below) → (f :: below).length + rows.length + 1 + 6 * s ≤ sizeLine →
      ∃ n v, Wv bs w v ∧ n ≤ rows.length * M + s * Bst M ∧ RowsS bs n (⟨code, 0, vs, []⟩ :: f :: below) ({ f with pile := f.pile ++ [v] } :: below) := by
  induction h with
  | nil => intro ws a b w s vs f below hp; cases hp
  | @last r rs c hno hc =>
    intro ws a b w s vs f below hp hw hr hm hwl hv hcl hbody hok hz
    have hb := big
    have hml := max_line
    have hBB := Bst_le M
    obtain ⟨hrl, hrp⟩ := hm r (List.mem_cons_self ..)
    have har := askL (bs := bs) r.ps ws vs 0 (hr r (List.mem_cons_self ..)).1 hw (by omega) (fun j x e => by obtain ⟨v, z1, z2⟩ := hv.get e; exact ⟨v, by rw [Nat.zero_add]; exact z1, z2⟩)
    have hvl := hv.length
    rw [← hvl, hwl] at har
    simp only [List.length_cons] at hz ⊢
    simp only [pick] at hp
    cases et : takenL r.ps ws with
    | none =>
      rw [et] at har
      obtain ⟨a1, a2, k, n, L1, v, e, _⟩ := har
      rw [hno] at e
      simp at e
    | some t =>
      rw [et] at hp har
      cases hp
      obtain ⟨L', r1, r2, r3⟩ := har
      rw [hno] at r1
      cases r1
      have hq : (c ++ [Ins.tell]).length ≤ M := hcl
      obtain ⟨n, v, v1, v2, v3⟩ := hbody _ c [] [.tell] vs (f :: below) hc r3 (by omega) (by simpa using hq) hok (by simp only [List.length_cons]; omega)
      simp only [List.nil_append, List.length_nil, Nat.zero_add] at v3
      have h2 := sim_tell (bs := bs) (pre := c) (post := []) (L := vs) (v := v) hok (by omega)
      refine ⟨n + 1, v, v1, ?_, v3.trans h2⟩
      rw [Nat.add_mul]
      simp only [List.length_append, List.length_singleton] at hq
      omega
  | @more r rs c nm c2 hc hc2 hrest ih =>
    intro ws a b w s vs f below hp hw hr hm hwl hv hcl hbody hok hz
    have hb := big
    have hml := max_line
    have hBB := Bst_le M
    obtain ⟨hrl, hrp⟩ := hm r (List.mem_cons_self ..)
    have har := askL (bs := bs) r.ps ws vs 0 (hr r (List.mem_cons_self ..)).1 hw (by omega) (fun j x e => by obtain ⟨v, z1, z2⟩ := hv.get e; exact ⟨v, by rw [Nat.zero_add]; exact z1, z2⟩)
    have hvl := hv.length
    rw [← hvl, hwl] at har
    have hkn := asksL_known r.ps 0 many
    simp only [List.length_cons] at hz ⊢
    simp only [pick] at hp
    generalize hA : (asksL r.ps 0 many).2.2 = as at har hcl ⊢
    have hl : (f :: below).length + 1 ≤ sizeLine := by simp only [List.length_cons]; omega
    have hq := hcl
    simp only [List.length_append, addAsks_length, List.length_map, List.length_range, List.length_cons, List.length_nil] at hq
    cases et : takenL r.ps ws with
    | some t =>
      rw [et] at hp har
      cases hp
      obtain ⟨L', r1, r2, r3⟩ := har
      rw [hA] at r1
      have h1 := sim_asks (bs := bs) hok hl (f := as.length + (c.length + 1)) (post := c ++ [Ins.tell] ++ ((List.range many).map Ins.loc ++ [Ins.close nm many, Ins.own Nd.go 0, Ins.tell])) r1 [] (by omega)
      obtain ⟨n, v, v1, v2, v3⟩ := hbody _ c (addAsks (as.length + (c.length + 1)) 0 as) ([Ins.tell] ++ ((List.range many).map Ins.loc ++ [Ins.close nm many, Ins.own Nd.go 0, Ins.tell])) L' (f :: below) hc r3 (by omega) (by simpa [addAsks_length, Nat.add_assoc] using hcl) hok (by simp only [List.length_cons]; omega)
      have h2 := sim_tell (bs := bs) (pre := addAsks (as.length + (c.length + 1)) 0 as ++ c) (post := (List.range many).map Ins.loc ++ [Ins.close nm many, Ins.own Nd.go 0, Ins.tell]) (L := L') (v := v) hok (by omega)
      simp only [List.nil_append, List.length_nil, Nat.zero_add, List.append_assoc, List.length_append, List.singleton_append, addAsks_length] at h1 v3 h2 ⊢
      refine ⟨as.length + (n + 1), v, v1, ?_, h1.trans (v3.trans h2)⟩
      rw [Nat.add_mul]
      omega
    | none =>
      rw [et] at hp har
      have har' : AskFail vs as (asksL r.ps 0 many).1 := by rw [← hA]; exact har
      obtain ⟨m, X, m1, m2, h1⟩ := sim_fail (bs := bs) hok hl (f := as.length + (c.length + 1)) (post := c ++ [Ins.tell] ++ ((List.range many).map Ins.loc ++ [Ins.close nm many, Ins.own Nd.go 0, Ins.tell])) har' (by omega)
      have hmv : vs.length = many := by omega
      have h2 := sim_locs (bs := bs) hok hl (L := vs ++ X) (by omega) (List.range many) vs (addAsks (as.length + (c.length + 1)) 0 as ++ (c ++ [Ins.tell])) [Ins.close nm many, Ins.own Nd.go 0, Ins.tell] [] (by rw [← hmv]; exact map_range_get vs X) (by simp only [List.length_nil, List.length_range]; omega)
      have h3 := one (bs := bs) (pre := addAsks (as.length + (c.length + 1)) 0 as ++ (c ++ [Ins.tell]) ++ (List.range many).map Ins.loc) (r := Ins.close nm many) (post := [Ins.own Nd.go 0, Ins.tell]) (L := vs ++ X) (pile := vs) (below := f :: below) (o := none)
        (gs := ⟨addAsks (as.length + (c.length + 1)) 0 as ++ (c ++ [Ins.tell]) ++ (List.range many).map Ins.loc ++ Ins.close nm many :: [Ins.own Nd.go 0, Ins.tell], (addAsks (as.length + (c.length + 1)) 0 as ++ (c ++ [Ins.tell]) ++ (List.range many).map Ins.loc).length + 1, vs ++ X, [.clo nm vs]⟩ :: f :: below) (by
          show (if many ≤ vs.length then _ else _) = _
          rw [if_pos (by omega)]
          have : vs.length - many = 0 := by omega
          simp [this]) (by simp) (hok.small (by simp; omega) (by show (vs ++ X).length ≤ sizeLine; omega) hl)
      have h4 := one (bs := bs) (pre := addAsks (as.length + (c.length + 1)) 0 as ++ (c ++ [Ins.tell]) ++ (List.range many).map Ins.loc ++ [Ins.close nm many]) (r := Ins.own Nd.go 0) (post := [Ins.tell]) (L := vs ++ X) (pile := [.clo nm vs]) (below := f :: below) (o := none)
        (gs := ⟨c2, 0, vs, []⟩ :: ⟨addAsks (as.length + (c.length + 1)) 0 as ++ (c ++ [Ins.tell]) ++ (List.range many).map Ins.loc ++ [Ins.close nm many] ++ Ins.own Nd.go 0 :: [Ins.tell], (addAsks (as.length + (c.length + 1)) 0 as ++ (c ++ [Ins.tell]) ++ (List.range many).map Ins.loc ++ [Ins.close nm many]).length + 1, vs ++ X, []⟩ :: f :: below) (by
          show (codeIn bs nm).map _ = _
          rw [hc2]
          rfl) (by simp) ((hok.cons (by simp; omega) (by show (vs ++ X).length ≤ sizeLine; omega)).small (by simp) (by show vs.length ≤ sizeLine; omega) (by simp only [List.length_cons]; omega))
      have hok2 : Ok (⟨addAsks (as.length + (c.length + 1)) 0 as ++ (c ++ [Ins.tell]) ++ (List.range many).map Ins.loc ++ [Ins.close nm many] ++ Ins.own Nd.go 0 :: [Ins.tell], (addAsks (as.length + (c.length + 1)) 0 as ++ (c ++ [Ins.tell]) ++ (List.range many).map Ins.loc ++ [Ins.close nm many]).length + 1, vs ++ X, []⟩ :: f :: below) := hok.cons (by simp; omega) (by show (vs ++ X).length ≤ sizeLine; omega)
      obtain ⟨n, v, v1, v2, v3⟩ := ih ws a b w s vs _ (f :: below) hp hw (fun r z => hr r (List.mem_cons_of_mem _ z)) (fun r z => hm r (List.mem_cons_of_mem _ z)) hwl hv (hlen _ _ hc2) hbody hok2 (by simp only [List.length_cons]; omega)
      have h5 := sim_tell (bs := bs) (pre := addAsks (as.length + (c.length + 1)) 0 as ++ (c ++ [Ins.tell]) ++ (List.range many).map Ins.loc ++ [Ins.close nm many] ++ [Ins.own Nd.go 0]) (post := []) (L := vs ++ X) (v := v) hok (by omega)
      simp only [List.nil_append, List.length_nil, Nat.zero_add, List.append_assoc, List.length_append, List.length_cons, List.cons_append, List.singleton_append, addAsks_length, List.length_map, List.length_range, Nat.add_assoc] at h1 h2 h3 h4 v3 h5 ⊢
      rw [Nat.add_comm many 1] at h3
      refine ⟨m + (many + (1 + (1 + (n + 1)))), v, v1, ?_, h1.trans (h2.trans (h3.trans (h4.trans (v3.trans h5))))⟩
      rw [Nat.add_mul]
      omega
end K46
/-! K46M9 -/
set_option maxHeartbeats 4000000
namespace K46
open PySem PySem.Spec PyProof.Rows L2 C8
structure Good (M : Nat) (bs : List Bk) (g : List Df) (S : Shs) : Prop where
  le : M ≤ MaxC
  len : ∀ n c, codeIn bs n = some c → c.length ≤ M
  rows : ∀ d ∈ g, ∃ c, codeIn bs d.name = some c ∧ RowsFor bs d.many d.rows c
  few : ∀ d ∈ g, d.rows.length ≤ 4 ∧ ∀ r ∈ d.rows, d.many + pnodesL r.ps ≤ 10000
  sh : ProgS S g
theorem EnvAt.vals {bs : List Bk} {Γ : List Nat} {env : List Wo} {L : List MV} (h : EnvAt bs Γ env L) : ∃ vs, WvL bs env vs ∧ Γ.map (fun k => L[k]?) = vs.map some := by
  obtain ⟨hl, h⟩ := h
  induction env generalizing Γ with
  | nil =>
    cases Γ with
    | nil => exact ⟨[], .nil, rfl⟩
    | cons _ _ => cases hl
  | cons w env ih =>
    cases Γ with
    | nil => cases hl
    | cons k Γ =>
      obtain ⟨k', v, h1, h2, h3⟩ := h 0 w rfl
      cases h1
      obtain ⟨vs, z1, z2⟩ := ih (by simpa using hl) (fun i w e => by
        obtain ⟨k, v, a, b, c⟩ := h (i + 1) w (by simpa using e)
        exact ⟨k, v, by simpa using a, b, c⟩)
      exact ⟨v :: vs, .cons h3 z1, by simp [h2, z2]⟩
theorem cutLast (pile vs : List MV) (m : Nat) (h : vs.length = m) : (pile ++ vs).take ((pile ++ vs).length - m) = pile ∧ (pile ++ vs).drop ((pile ++ vs).length - m) = vs := by
  have : (pile ++ vs).length - m = pile.length := by rw [List.length_append]; omega
  rw [this]
  simp
theorem CodesFor.len {bs : List Bk} {Γ : List Nat} {ts : List Tm} {c : List Ins} (h : CodesFor bs Γ ts c) : ts.length ≤ c.length := by
  induction h with
  | nil => exact Nat.le_refl _
  | «at» _ ih => simp only [List.length_cons]; omega
  | clo _ _ _ _ ih => simp only [List.length_cons, List.length_append]; omega
  | nd _ _ _ ih => simp only [List.length_cons, List.length_append]; omega
theorem sim {M : Nat} {bs : List Bk} {g : List Df} {S : Shs} (G : Good M bs g S) {env : List Wo} {ts : List Tm} {ws : List Wo} {s : Nat} (h : EvL g env ts ws s) :
    ∀ (Γ : List Nat) (c pre post : List Ins) (L pile : List MV) (below : List Fr), CodesFor bs Γ ts c → EnvAt bs Γ env L → TmsS S ts → WosS S env → L.length ≤ 20000 → pile.length ≤ pre.length → (pre ++ (c ++ post)).length ≤ M → Ok below → below.length + 1 + 6 * s ≤ sizeLine →
      ∃ n vs, WvL bs ws vs ∧ n ≤ c.length + s * Bst M ∧ RowsS bs n (⟨pre ++ (c ++ post), pre.length, L, pile⟩ :: below) (⟨pre ++ (c ++ post), pre.length + c.length, L, pile ++ vs⟩ :: below) := by
  have hbig := big
  have hbm := max_line
  have hle := G.le
  have hBB := Bst_le M
  induction h with
  | nil env =>
    intro Γ c pre post L pile below hc he ht hw hL hp hz hok hf
    cases hc
    exact ⟨0, [], .nil, Nat.zero_le _, by rw [List.append_nil]; exact .done _⟩
  | @«at» env i w ts ws s hi e h ih =>
    intro Γ c pre post L pile below hc he ht hw hL hp hz hok hf
    cases hc with
    | @«at» _ _ _ c hc =>
      obtain ⟨k, v, k1, k2, k3⟩ := he.2 _ w e
      have ek : Γ.getD (Γ.length - 1 - i) 0 = k := by rw [he.1, List.getD_eq_getElem?_getD, k1]; rfl
      rw [ek] at hz ⊢
      simp only [List.length_append, List.length_cons] at hz
      have h1 : RowsS bs 1 (⟨pre ++ (.loc k :: (c ++ post)), pre.length, L, pile⟩ :: below) (⟨pre ++ (.loc k :: (c ++ post)), pre.length + 1, L, pile ++ [v]⟩ :: below) := by
        refine one (o := none) ?_ (by simp) (hok.small (by simp only [List.length_append, List.length_singleton]; omega) (by show L.length ≤ sizeLine; omega) (by omega))
        show Option.map _ L[k]? = _
        rw [k2]
        rfl
      obtain ⟨n, vs, v1, v2, v3⟩ := ih Γ c (pre ++ [.loc k]) post L (pile ++ [v]) below hc he ht.2 hw hL (by simp only [List.length_append, List.length_singleton]; omega) (by simp only [List.length_append, List.length_singleton]; omega) hok hf
      simp only [List.append_assoc, List.length_append, List.length_singleton, List.singleton_append, Nat.add_assoc] at h1 v3
      refine ⟨1 + n, v :: vs, .cons k3 v1, by simp only [List.length_cons]; omega, ?_⟩
      have := h1.trans v3
      rw [Nat.add_comm 1 c.length] at this
      exact this
  | @clo env fn b ts ws s h ih =>
    intro Γ c pre post L pile below hc he ht hw hL hp hz hok hf
    cases hc with
    | @clo _ _ _ _ nm cb c h1 h2 hc =>
      obtain ⟨cvs, w1, w2⟩ := he.vals
      have hcl : cvs.length = Γ.length := by have := congrArg List.length w2; simpa using this.symm
      simp only [List.length_append, List.length_cons, List.length_map] at hz
      have a1 := sim_locs (bs := bs) hok (by omega) (L := L) (by omega) Γ cvs pre (.close nm Γ.length :: (c ++ post)) pile w2 (by omega)
      have a2 := one (bs := bs) (pre := pre ++ Γ.map .loc) (r := .close nm Γ.length) (post := c ++ post) (L := L) (pile := pile ++ cvs) (below := below) (o := none)
        (gs := ⟨pre ++ Γ.map Ins.loc ++ (Ins.close nm Γ.length :: (c ++ post)), (pre ++ Γ.map Ins.loc).length + 1, L, pile ++ [.clo nm cvs]⟩ :: below) (by
          show (if Γ.length ≤ (pile ++ cvs).length then _ else _) = _
          rw [if_pos (by rw [List.length_append]; omega)]
          have e := cutLast pile cvs Γ.length hcl
          rw [e.1, e.2]) (by simp) (hok.small (by simp only [List.length_append, List.length_singleton]; omega) (by show L.length ≤ sizeLine; omega) (by omega))
      obtain ⟨n, vs, v1, v2, v3⟩ := ih Γ c (pre ++ Γ.map .loc ++ [.close nm Γ.length]) post L (pile ++ [.clo nm cvs]) below hc he ht.2 hw hL (by simp only [List.length_append, List.length_singleton, List.length_map]; omega) (by simp only [List.length_append, List.length_singleton, List.length_map]; omega) hok hf
      simp only [List.append_assoc, List.length_append, List.length_singleton, List.singleton_append, List.length_map, Nat.add_assoc, List.cons_append] at a1 a2 v3 ⊢
      refine ⟨Γ.length + (1 + n), .clo nm cvs :: vs, .cons (.clo w1 h1 (by rw [← he.1]; exact h2) (by rw [← he.1]; simp only [MaxC] at hle; omega)) v1, by simp only [List.length_cons]; omega, ?_⟩
      have := a1.trans (a2.trans v3)
      simp only [List.length_cons]
      rw [Nat.add_comm 1 c.length] at this
      exact this
  | @dull env as ts ws s e h ih =>
    intro Γ c pre post L pile below hc he ht hw hL hp hz hok hf
    subst e
    cases hc with
    | @nd _ _ _ _ ca c h1 hc =>
      cases h1
      simp only [List.length_append, List.length_cons, List.length_nil, List.nil_append] at hz ⊢
      have a2 := one (bs := bs) (pre := pre) (r := .own .dull 0) (post := c ++ post) (L := L) (pile := pile) (below := below) (o := none)
        (gs := ⟨pre ++ (Ins.own .dull 0 :: (c ++ post)), pre.length + 1, L, pile ++ [.dull]⟩ :: below) rfl (by simp) (hok.small (by simp only [List.length_append, List.length_singleton]; omega) (by show L.length ≤ sizeLine; omega) (by omega))
      obtain ⟨n, vs, v1, v2, v3⟩ := ih Γ c (pre ++ [.own .dull 0]) post L (pile ++ [.dull]) below hc he ht.2 hw hL (by simp only [List.length_append, List.length_singleton]; omega) (by simp only [List.length_append, List.length_singleton]; omega) hok hf
      simp only [List.append_assoc, List.length_append, List.length_singleton, List.singleton_append, Nat.add_assoc] at a2 v3
      refine ⟨1 + n, .dull :: vs, .cons .dull v1, by omega, ?_⟩
      have := a2.trans v3
      rw [Nat.add_comm 1 c.length] at this
      exact this
  | @shape env nm as us ts ws s1 s h1 h2 ih1 ih =>
    intro Γ c pre post L pile below hc he ht hw hL hp hz hok hf
    cases hc with
    | @nd _ _ _ _ ca c hca hc =>
      have hcl := hca.len
      simp only [List.length_append, List.length_cons] at hz
      obtain ⟨n1, uv, u1, u2, u3⟩ := ih1 Γ ca pre (.own (.shape nm) as.length :: (c ++ post)) L pile below hca he ht.1.2 hw hL hp (by simp only [List.length_append, List.length_cons]; omega) hok (by omega)
      have hul : uv.length = as.length := by rw [← u1.length, h1.length]
      have a2 := one (bs := bs) (pre := pre ++ ca) (r := .own (.shape nm) as.length) (post := c ++ post) (L := L) (pile := pile ++ uv) (below := below) (o := none)
        (gs := ⟨pre ++ ca ++ (Ins.own (.shape nm) as.length :: (c ++ post)), (pre ++ ca).length + 1, L, pile ++ [.shape nm uv]⟩ :: below) (by
          show (if as.length ≤ (pile ++ uv).length then _ else _) = _
          rw [if_pos (by rw [List.length_append]; omega)]
          have e := cutLast pile uv as.length hul
          rw [e.1, e.2]) (by simp) (hok.small (by simp only [List.length_append, List.length_singleton]; omega) (by show L.length ≤ sizeLine; omega) (by omega))
      obtain ⟨n, vs, v1, v2, v3⟩ := ih Γ c (pre ++ ca ++ [.own (.shape nm) as.length]) post L (pile ++ [.shape nm uv]) below hc he ht.2 hw hL (by simp only [List.length_append, List.length_singleton]; omega) (by simp only [List.length_append, List.length_singleton]; omega) hok (by omega)
      simp only [List.append_assoc, List.length_append, List.length_singleton, List.singleton_append, Nat.add_assoc, List.cons_append] at u3 a2 v3 ⊢
      refine ⟨n1 + (1 + n), .shape nm uv :: vs, .cons (.shape nm u1) v1, by simp only [List.length_cons]; rw [Nat.add_mul]; omega, ?_⟩
      have := u3.trans (a2.trans v3)
      simp only [List.length_cons]
      rw [Nat.add_comm 1 c.length] at this
      exact this
  | @call env nm as us rows a b w ts ws s1 s2 s h1 hr hpk h2 h3 ih1 ih2 ih =>
    intro Γ c pre post L pile below hc he ht hw hL hp hz hok hf
    cases hc with
    | @nd _ _ _ _ ca c hca hc =>
      have hcl := hca.len
      simp only [List.length_append, List.length_cons] at hz
      obtain ⟨n1, uv, u1, u2, u3⟩ := ih1 Γ ca pre (.own (.call nm) as.length :: (c ++ post)) L pile below hca he ht.1.2 hw hL hp (by simp only [List.length_append, List.length_cons]; omega) hok (by omega)
      have hul : uv.length = as.length := by rw [← u1.length, h1.length]
      obtain ⟨d, hd, hdn, hdr⟩ := rowsOf_mem hr
      obtain ⟨code, c1, c2⟩ := G.rows d hd
      obtain ⟨f1, f2⟩ := G.few d hd
      obtain ⟨p1, p2, p3⟩ := G.sh d hd
      have hus := h1.keepS G.sh hw ht.1.2
      rw [hdn] at c1
      have hcode := G.len _ _ c1
      have hmany : us.length = d.many := by rw [h1.length, p2, hdn]; exact ht.1.1
      have ab := pick_S hpk (hdr ▸ p1) hus
      have a2 := one (bs := bs) (pre := pre ++ ca) (r := .own (.call nm) as.length) (post := c ++ post) (L := L) (pile := pile ++ uv) (below := below) (o := none)
        (gs := ⟨code, 0, uv, []⟩ :: ⟨pre ++ ca ++ (Ins.own (.call nm) as.length :: (c ++ post)), (pre ++ ca).length + 1, L, pile⟩ :: below) (by
          show (if as.length ≤ (pile ++ uv).length then _ else _) = _
          rw [if_pos (by rw [List.length_append]; omega), c1]
          have e := cutLast pile uv as.length hul
          rw [e.1, e.2]
          rfl) (by simp) ((hok.cons (by show pile.length + 1 ≤ sizeLine; omega) (by show L.length ≤ sizeLine; omega)).small (by simp) (by show uv.length ≤ sizeLine; omega) (by simp only [List.length_cons]; omega))
      have hbody : BodyRun M bs a b w s2 := by
        intro Γ' cb pre' post' L' below' k1 k2 k3 k4 k5 k6
        obtain ⟨n, vs, v1, v2, v3⟩ := ih2 Γ' cb pre' post' L' [] below' k1 k2 ⟨ab.2, trivial⟩ ab.1 k3 (Nat.zero_le _) k4 k5 k6
        cases v1 with
        | cons v1 v1' =>
          cases v1'
          exact ⟨n, _, v1, v2, v3⟩
      have hok2 : Ok (⟨pre ++ ca ++ (Ins.own (.call nm) as.length :: (c ++ post)), (pre ++ ca).length + 1, L, pile⟩ :: below) := hok.cons (by show pile.length + 1 ≤ sizeLine; omega) (by show L.length ≤ sizeLine; omega)
      have hrl : rows.length ≤ 4 := hdr ▸ f1
      obtain ⟨n2, v, v1, v2, v3⟩ := runRows G.le (S := S) G.len (hdr ▸ c2) us a b w s2 uv _ below hpk hus (hdr ▸ p1) (fun r z => ⟨p3 r (hdr ▸ z), f2 r (hdr ▸ z)⟩) hmany u1 hcode hbody hok2 (by simp only [List.length_cons]; omega)
      obtain ⟨n, vs, x1, x2, x3⟩ := ih Γ c (pre ++ ca ++ [.own (.call nm) as.length]) post L (pile ++ [v]) below hc he ht.2 hw hL (by simp only [List.length_append, List.length_singleton]; omega) (by simp only [List.length_append, List.length_singleton]; omega) hok (by omega)
      simp only [List.append_assoc, List.length_append, List.length_singleton, List.singleton_append, Nat.add_assoc, List.cons_append] at u3 a2 v3 x3 ⊢
      refine ⟨n1 + (1 + (n2 + n)), v :: vs, .cons v1 x1, ?_, ?_⟩
      · have : rows.length * M ≤ 4 * M := Nat.mul_le_mul_right _ hrl
        simp only [List.length_cons, Nat.add_mul, Nat.one_mul] at *
        omega
      · have := u3.trans (a2.trans (v3.trans x3))
        simp only [List.length_cons]
        rw [Nat.add_comm 1 c.length] at this
        exact this
  | @give env as b env' a w ts ws s1 s2 s h1 h2 h3 ih1 ih2 ih =>
    intro Γ c pre post L pile below hc he ht hw hL hp hz hok hf
    cases hc with
    | @nd _ _ _ _ ca c hca hc =>
      have hcl := hca.len
      simp only [List.length_append, List.length_cons] at hz
      obtain ⟨n1, uv, u1, u2, u3⟩ := ih1 Γ ca pre (.own .give as.length :: (c ++ post)) L pile below hca he ht.1 hw hL hp (by simp only [List.length_append, List.length_cons]; omega) hok (by omega)
      have hus := h1.keepS G.sh hw ht.1
      cases u1 with
      | cons q1 q2 =>
      cases q2 with
      | cons q2 q3 =>
      cases q3
      rename_i x
      cases q1 with
      | @clo _ _ _ nm cvs cb y1 y2 y3 y4 =>
      have hcode := G.len _ _ y2
      have hyl := y1.length
      have hal : as.length = 2 := by have := h1.length; simpa using this.symm
      have a2 := one (bs := bs) (pre := pre ++ ca) (r := .own .give as.length) (post := c ++ post) (L := L) (pile := pile ++ [.clo nm cvs, x]) (below := below) (o := none)
        (gs := ⟨cb ++ [.tell], 0, cvs ++ [x], []⟩ :: ⟨pre ++ ca ++ (Ins.own .give as.length :: (c ++ post)), (pre ++ ca).length + 1, L, pile⟩ :: below) (by
          have e := cutLast pile [.clo nm cvs, x] 2 rfl
          simp only [mrow, e.1, e.2, y2]
          rfl) (by simp) ((hok.cons (by show pile.length + 1 ≤ sizeLine; omega) (by show L.length ≤ sizeLine; omega)).small (by simp) (by simp only [List.length_append, List.length_singleton]; omega) (by simp only [List.length_cons]; omega))
      have hok2 : Ok (⟨pre ++ ca ++ (Ins.own .give as.length :: (c ++ post)), (pre ++ ca).length + 1, L, pile⟩ :: below) := hok.cons (by show pile.length + 1 ≤ sizeLine; omega) (by show L.length ≤ sizeLine; omega)
      have hx : WvL bs (env' ++ [a]) (cvs ++ [x]) := y1.append (.cons q2 .nil)
      have hxe := EnvAt.range hx
      rw [List.length_append] at hxe
      obtain ⟨n2, vs2, v1, v2, v3⟩ := ih2 _ cb [] [.tell] (cvs ++ [x]) [] _ y3 hxe ⟨hus.1.1, trivial⟩ (hus.1.2.append ⟨hus.2.1, trivial⟩) (by simp only [List.length_append, List.length_singleton]; omega) (Nat.le_refl _) (by simpa using hcode) hok2 (by simp only [List.length_cons]; omega)
      cases v1 with
      | cons v1 v1' =>
      cases v1'
      rename_i v
      have a4 := sim_tell (bs := bs) (pre := cb) (post := []) (L := cvs ++ [x]) (v := v) hok2 (by omega)
      obtain ⟨n, vs, x1, x2, x3⟩ := ih Γ c (pre ++ ca ++ [.own .give as.length]) post L (pile ++ [v]) below hc he ht.2 hw hL (by simp only [List.length_append, List.length_singleton]; omega) (by simp only [List.length_append, List.length_singleton]; omega) hok (by omega)
      simp only [List.append_assoc, List.length_append, List.length_singleton, List.singleton_append, Nat.add_assoc, List.cons_append, List.nil_append, List.length_nil, Nat.zero_add] at u3 a2 v3 a4 x3 hcode ⊢
      refine ⟨n1 + (1 + (n2 + (1 + n))), v :: vs, .cons v1 x1, ?_, ?_⟩
      · simp only [List.length_cons, Nat.add_mul, Nat.one_mul] at *
        omega
      · have := u3.trans (a2.trans (v3.trans (a4.trans x3)))
        simp only [List.length_cons]
        rw [Nat.add_comm 1 c.length] at this
        exact this
  | @go env as b env' w ts ws s1 s2 s h1 h2 h3 ih1 ih2 ih =>
    intro Γ c pre post L pile below hc he ht hw hL hp hz hok hf
    cases hc with
    | @nd _ _ _ _ ca c hca hc =>
      have hcl := hca.len
      simp only [List.length_append, List.length_cons] at hz
      obtain ⟨n1, uv, u1, u2, u3⟩ := ih1 Γ ca pre (.own .go as.length :: (c ++ post)) L pile below hca he ht.1 hw hL hp (by simp only [List.length_append, List.length_cons]; omega) hok (by omega)
      have hus := h1.keepS G.sh hw ht.1
      cases u1 with
      | cons q1 q2 =>
      cases q2
      cases q1 with
      | @clo _ _ _ nm cvs cb y1 y2 y3 y4 =>
      have hcode := G.len _ _ y2
      have hyl := y1.length
      have hal : as.length = 1 := by have := h1.length; simpa using this.symm
      have a2 := one (bs := bs) (pre := pre ++ ca) (r := .own .go as.length) (post := c ++ post) (L := L) (pile := pile ++ [.clo nm cvs]) (below := below) (o := none)
        (gs := ⟨cb ++ [.tell], 0, cvs, []⟩ :: ⟨pre ++ ca ++ (Ins.own .go as.length :: (c ++ post)), (pre ++ ca).length + 1, L, pile⟩ :: below) (by
          have e := cutLast pile [.clo nm cvs] 1 rfl
          simp only [mrow, e.1, e.2, y2]
          rfl) (by simp) ((hok.cons (by show pile.length + 1 ≤ sizeLine; omega) (by show L.length ≤ sizeLine; omega)).small (by simp) (by show cvs.length ≤ sizeLine; omega) (by simp only [List.length_cons]; omega))
      have hok2 : Ok (⟨pre ++ ca ++ (Ins.own .go as.length :: (c ++ post)), (pre ++ ca).length + 1, L, pile⟩ :: below) := hok.cons (by show pile.length + 1 ≤ sizeLine; omega) (by show L.length ≤ sizeLine; omega)
      obtain ⟨n2, vs2, v1, v2, v3⟩ := ih2 _ cb [] [.tell] cvs [] _ y3 (EnvAt.range y1) ⟨hus.1.1, trivial⟩ hus.1.2 (by omega) (Nat.le_refl _) (by simpa using hcode) hok2 (by simp only [List.length_cons]; omega)
      cases v1 with
      | cons v1 v1' =>
      cases v1'
      rename_i v
      have a4 := sim_tell (bs := bs) (pre := cb) (post := []) (L := cvs) (v := v) hok2 (by omega)
      obtain ⟨n, vs, x1, x2, x3⟩ := ih Γ c (pre ++ ca ++ [.own .go as.length]) post L (pile ++ [v]) below hc he ht.2 hw hL (by simp only [List.length_append, List.length_singleton]; omega) (by simp only [List.length_append, List.length_singleton]; omega) hok (by omega)
      simp only [List.append_assoc, List.length_append, List.length_singleton, List.singleton_append, Nat.add_assoc, List.cons_append, List.nil_append, List.length_nil, Nat.zero_add] at u3 a2 v3 a4 x3 hcode ⊢
      refine ⟨n1 + (1 + (n2 + (1 + n))), v :: vs, .cons v1 x1, ?_, ?_⟩
      · simp only [List.length_cons, Nat.add_mul, Nat.one_mul] at *
        omega
      · have := u3.trans (a2.trans (v3.trans (a4.trans x3)))
        simp only [List.length_cons]
        rw [Nat.add_comm 1 c.length] at this
        exact this
/-- the term's own block tells its worth -/
theorem RowsS.tells {bs : List Bk} {n m : Nat} {a b : List Fr} {v : MV} (h : RowsS bs n a b) (h2 : TellsS bs m b v) : TellsS bs (n + m) a v := by
  induction h with
  | done => rw [Nat.zero_add]; exact h2
  | step e ne sm _ ih => rw [Nat.add_right_comm]; exact .step e ne sm (ih h2)
theorem sim_all {M : Nat} {bs : List Bk} {g : List Df} {S : Shs} (G : Good M bs g S) {t : Tm} {c : List Ins} {w : Wo} {s : Nat} (h : EvL g [] [t] [w] s) (hc : CodesFor bs [] [t] c) (hm : codeIn bs "." = some (c ++ [.tell])) (ht : TmS S t) (hs : 6 * s + 1 ≤ sizeLine) :
    ∃ n v, Wv bs w v ∧ n ≤ c.length + s * Bst M + 1 ∧ TellsS bs n [⟨c ++ [.tell], 0, [], []⟩] v := by
  obtain ⟨n, vs, v1, v2, v3⟩ := sim G h [] c [] [.tell] [] [] [] hc (EnvAt.nil _) ⟨ht, trivial⟩ trivial (Nat.zero_le _) (Nat.le_refl _) (by simpa using G.len _ _ hm) (fun f z => by cases z) (by simp only [List.length_nil]; omega)
  cases v1 with
  | cons v1 v1' =>
  cases v1'
  rename_i v
  simp only [List.nil_append, List.length_nil, Nat.zero_add] at v3
  refine ⟨n + 1, v, v1, by omega, v3.tells (.last ?_)⟩
  show ((c ++ [Ins.tell])[c.length]?).bind _ = _
  rw [List.getElem?_append_right (Nat.le_refl _), Nat.sub_self]
  rfl
end K46
/-! K46G2 -/
set_option maxHeartbeats 4000000
namespace K46
open PySem PySem.Spec PyProof.Rows L2 C8
def encA (x : Nat × Str) : D := .tup [.int (x.1 : Int), .str x.2]
abbrev intsV (l : List Nat) : List V := l.map fun (k : Nat) => V.int (k : Int)
section
variable {P : Program} {w : World} {K : PySem.W.Frag} {mg : Str → Option Value} {base : Heap}
def sp_asks_in (K : PySem.W.Frag) (n : Nat) : Sp := fun vs H Q _ => ∃ (px : V) (p : Pat) (place known : Nat) (rl : Addr) (xs : List V) (as : List (Nat × Str)), vs = [px, .int (place : Int), .int (known : Int), .ref rl] ∧ pdeep p < n ∧ At K H px (encP p) ∧ H rl = some (.lst xs) ∧ AtL K H xs (as.map encA) ∧
  xs.length + pnodes p ≤ sizeLine ∧ ∀ t l ys H', Keep [rl] H H' → H' rl = some (.lst ys) → AtL K H' ys ((as ++ (asksIn p place known).2.2).map encA) → SqT K H' t [.int ((asksIn p place known).1 : Int), .ref l] → H l = none → H' l = some (.lst (intsV (asksIn p place known).2.1)) → Q (.ref t) H'
theorem ok_asks_in (T : Tx K mg) : ∀ n, Cal P w K mg base (n + 1) "asks_in" (sp_asks_in K n) []
  | 0 => by
    refine cal_mk T.f_asks_in T.g_asks_in sc_asks_in (fun _ _ _ _ _ _ us hl => match us, hl with | [_, _, _, _], _ => rfl) (fun vs H Q E h => ?_) (fun cdv A outer s H vs Q E hr h => ?_)
    · obtain ⟨px, p, place, known, rl, xs, as, rfl, _⟩ := h
      rfl
    · obtain ⟨px, p, place, known, rl, xs, as, rfl, hd, _⟩ := h
      exact absurd hd (Nat.not_lt_zero _)
  | n + 1 => by
    have c_asks_in := ok_asks_in T n
    refine cal_mk T.f_asks_in T.g_asks_in sc_asks_in (fun _ _ _ _ _ _ us hl => match us, hl with | [_, _, _, _], _ => rfl) (fun vs H Q E h => ?_) (fun cdv A outer s H vs Q E hr h => ?_)
    · obtain ⟨px, p, place, known, rl, xs, as, rfl, _⟩ := h
      rfl
    · obtain ⟨px, p, place, known, rl, xs, as, rfl, hd, hp, hrl, hxs, hz, q⟩ := h
      obtain ⟨tSHk, kSHk⟩ := T.k_SHAPE_making
      obtain ⟨tTAKE, kTAKE⟩ := T.k_TAKE
      refine ⟨_, (pss_cons (ps_if (pt_cmpR op_ne (pe_ix ix_tup (pv 0) pe_int (fun _ _ => rfl)) (pe_glob (v := .str "shape") rfl kSHk ⟨_, rfl⟩) (nomark _)) (pss_one (ps_ret (pe_tup (pa_cons (pv 2) (pa_cons (pe_ifExp (pt_cmpR op_eq (pe_ix ix_tup (pv 0) pe_int (fun _ _ => rfl)) (pe_glob (v := .str "take") rfl kTAKE ⟨_, rfl⟩) (nomark _)) (pe_lst (pa_cons (pv 1) pa_nil)) (pe_lst pa_nil)) pa_nil))))) pss_nil)
      (pss_cons (ps_asg (pv 0) (pg_tup rfl (pgs_cons (pg_name (i := 4) sc_asks_in.nd rfl (Or.inl rfl)) (pgs_cons (pg_name (i := 5) sc_asks_in.nd rfl (Or.inl rfl)) (pgs_cons (pg_name (i := 6) sc_asks_in.nd rfl (Or.inl rfl)) pgs_nil)))))
      (pss_cons (ps_expr (pe_bm PySem.F.plainAttrs_list PySem.F.slot_list_append PySem.F.type_list_append mt_append (pv 3) (pa_cons (pe_tup (pa_cons (pv 1) (pa_cons (pv 5) pa_nil))) pa_nil)))
      (pss_cons (ps_par (i := 7) (j := 2) (by rfl) sc_asks_in.nd rfl rfl (by decide) rfl rfl (pa_cons (pv 2) (pa_cons (pe_op op_add (pv 2) (pe_callB call_len_seq (by rfl) T.z_len PySem.boot_len (pa_cons (pv 6) pa_nil))) pa_nil)) (by rfl))
      (pss_cons (ps_set (i := 8) sc_asks_in.nd rfl (Or.inl rfl) (pe_lst pa_nil))
      (pss_cons (ps_for PassesOwn.never rfl (pi_enumT rfl T.z_enumerate (pa_cons (pv 6) pa_nil)) (pg_tup rfl (pgs_cons (pg_name (i := 9) sc_asks_in.nd rfl (Or.inl rfl)) (pgs_cons (pg_name (i := 10) sc_asks_in.nd rfl (Or.inl rfl)) pgs_nil))) (pss_cons (ps_asg (pe_c c_asks_in hr (by omega) rfl (pa_cons (pv 10) (pa_cons (pe_op op_add (pv 7) (pv 9)) (pa_cons (pv 2) (pa_cons (pv 3) pa_nil))))) (pg_tup rfl (pgs_cons (pg_name (i := 2) sc_asks_in.nd rfl (Or.inl rfl)) (pgs_cons (pg_name (i := 11) sc_asks_in.nd rfl (Or.inl rfl)) pgs_nil))))
      (pss_one (ps_expr (pe_bm PySem.F.plainAttrs_list PySem.F.slot_list_extend PySem.F.type_list_extend mt_extend (pv 8) (pa_cons (pv 11) pa_nil))))))
      (pss_one (ps_ret (pe_tup (pa_cons (pv 2) (pa_cons (pv 8) pa_nil))))))))))), ?_⟩
      cases p with
      | take =>
        obtain ⟨a, x, rfl, hq, h1⟩ := hp.t1
        obtain rfl := h1.s
        refine ⟨_, rfl, a, _, 0, .str "take", rfl, rfl, hq, atI_nat (j := 0) rfl, rfl, _, rfl, ift (by decide +kernel) ?_⟩
        refine ⟨_, rfl, _, rfl, a, _, 0, .str "take", rfl, rfl, hq, atI_nat (j := 0) rfl, rfl, _, rfl, ift (by decide +kernel) ?_⟩
        refine ⟨_, rfl, (by show 1 ≤ sizeLine; decide), fun l nl => ⟨(by show 2 ≤ sizeLine; decide), fun t nt => ?_⟩⟩
        have k2 : Keep [rl] H (upd (upd H l (.lst [.int (place : Int)])) t (.tup [.int (known : Int), .ref l])) := Keep.new nt (Keep.new nl (Keep.refl _ _))
        have h2 := Keep.new (o := .tup [.int (known : Int), .ref l]) nt (Keep.new (o := .lst [.int (place : Int)]) nl (Keep.refl [] H))
        refine q t l xs _ k2 (h2.at_ _ _ (by simp) hrl) ?_ (.of upd_same) nl ?_
        · simp only [asksIn, List.append_nil]
          exact hxs.keep h2
        · rw [upd_ne (new_ne nt).symm]
          exact upd_same
      | pass =>
        obtain ⟨a, x, rfl, hq, h1⟩ := hp.t1
        obtain rfl := h1.s
        refine ⟨_, rfl, a, _, 0, .str "pass", rfl, rfl, hq, atI_nat (j := 0) rfl, rfl, _, rfl, ift (by decide +kernel) ?_⟩
        refine ⟨_, rfl, _, rfl, a, _, 0, .str "pass", rfl, rfl, hq, atI_nat (j := 0) rfl, rfl, _, rfl, iff' (by decide +kernel) ?_⟩
        refine ⟨(by show 0 ≤ sizeLine; decide), fun l nl => ⟨(by show 2 ≤ sizeLine; decide), fun t nt => ?_⟩⟩
        have k2 : Keep [rl] H (upd (upd H l (.lst [])) t (.tup [.int (known : Int), .ref l])) := Keep.new nt (Keep.new nl (Keep.refl _ _))
        have h2 := Keep.new (o := .tup [.int (known : Int), .ref l]) nt (Keep.new (o := .lst []) nl (Keep.refl [] H))
        refine q t l xs _ k2 (h2.at_ _ _ (by simp) hrl) ?_ (.of upd_same) nl ?_
        · simp only [asksIn, List.append_nil]
          exact hxs.keep h2
        · rw [upd_ne (new_ne nt).symm]
          exact upd_same
      | shape nm ps =>
        obtain ⟨a, x, y, z, rfl, hq, h1, h2, h3⟩ := hp.t3
        obtain rfl := h1.s
        obtain rfl := h2.s
        obtain ⟨b, zs, rfl, hb, hzs⟩ := id h3.t
        have hlz := hzs.length
        rw [encPs_map, List.length_map] at hlz
        refine ⟨_, rfl, a, _, 0, .str "shape", rfl, rfl, hq, atI_nat (j := 0) rfl, rfl, _, rfl, iff' (by decide +kernel) ?_⟩
        refine ⟨_, rfl, a, _, rfl, hq, rfl, _, _, rfl, _, _, rfl, _, _, rfl, rfl, ?_⟩
        have hzl : xs.length < sizeLine := by
          have : 1 ≤ pnodes (Pat.shape nm ps) := by simp [pnodes]
          omega
        refine ⟨_, rfl, .inl ⟨rfl, _, .of hrl⟩, _, rfl, _, rfl, (by show 2 ≤ sizeLine; decide), fun t1 nt1 => ?_⟩
        have nrt : rl ≠ t1 := ne_of_none hrl nt1
        refine ⟨rl, xs, _, rfl, rfl, (by rw [upd_ne nrt]; exact hrl), hzl, ?_⟩
        have k1 : Keep [rl] H (upd (upd H t1 (.tup [.int (place : Int), .str nm])) rl (.lst (xs ++ [.ref t1]))) := Keep.lst (by rw [upd_ne nrt]; exact hrl) (.inl (by simp)) (Keep.new nt1 (Keep.refl _ _))
        have hx1 : AtL K (upd (upd H t1 (.tup [.int (place : Int), .str nm])) rl (.lst (xs ++ [.ref t1]))) (xs ++ [.ref t1]) ((as ++ [(place, nm)]).map encA) := by
          rw [List.map_append]
          refine (hxs.keep k1).snoc (At.new (by rw [upd_ne nrt.symm]; exact upd_same) (.cons (.int _) (.cons (.str _) .nil)))
        refine ⟨_, rfl, _, rfl, _, rfl, b, zs, rfl, .inr (k1.sqT hb), _, _, rfl, rfl, _, _, rfl, by decide, fun tk ntk => ?_⟩
        have nrk : rl ≠ tk := ne_of_none (H := (upd (upd H t1 (.tup [.int (place : Int), .str nm])) rl (.lst (xs ++ [.ref t1])))) upd_same ntk
        have htk : H tk = none := k1.none_of (by simpa using nrk.symm) ntk
        have hxl := hxs.length
        rw [List.length_map] at hxl
        have hpn : pnodes (Pat.shape nm ps) = 1 + pnodesL ps := by simp [pnodes]
        have hh3 := k1.new_ (o := .lst []) ntk
        generalize eH : upd (upd (upd H t1 (.tup [.int (place : Int), .str nm])) rl (.lst (xs ++ [.ref t1]))) tk (.lst []) = H3 at hh3
        have k3 : Keep [rl] H H3 := eH ▸ Keep.new ntk k1
        have hx3 : AtL K H3 (xs ++ [.ref t1]) ((as ++ [(place, nm)]).map encA) := eH ▸ hx1.keep (Keep.new ntk (Keep.refl [] _))
        have hr3 : H3 rl = some (.lst (xs ++ [.ref t1])) := by rw [← eH, upd_ne nrk]; exact upd_same
        have ht3 : H3 tk = some (.lst []) := by rw [← eH]; exact upd_same
        refine ⟨_, rfl, b, zs, rfl, k3.sqT hb, for_it (walk_enumT (xs := zs)) (fun i σ H' => ∃ ys o9 o10 o11, σ = [some (.ref a), some (.int (place : Int)), some (.int ((asksL (ps.take i) known (known + ps.length)).1 : Int)), some (.ref rl), some (.str "shape"), some (.str nm), some (.ref b), some (.int (known : Int)), some (.ref tk), o9, o10, o11] ∧ Keep [rl, tk] H3 H' ∧ H' rl = some (.lst ys) ∧
          AtL K H' ys ((as ++ (place, nm) :: (asksL (ps.take i) known (known + ps.length)).2.2).map encA) ∧ H' tk = some (.lst (intsV (asksL (ps.take i) known (known + ps.length)).2.1)))
          ⟨_, none, none, none, ?_, Keep.refl _ _, hr3, hx3, ht3⟩ (fun i σ H' _ ⟨ys, o9, o10, o11, e, k, _⟩ => k.sqT (k3.sqT hb)) (fun i x σ H' H'' hi ⟨ys, o9, o10, o11, e, k4, hy1, hy2, hy3⟩ hy => ?_) (fun σ H' ⟨ys, o9, o10, o11, e, k4, hy1, hy2, hy3⟩ => ?_)⟩
        · show [_, _, _, _, _, _, _, _, _, none, none, none] = _
          simp only [List.take_zero, asksL, hlz]
          rfl
        · subst e
          obtain ⟨T', xk, xp, rfl, nT, rfl, e1, e2⟩ := hy
          cases e1
          obtain ⟨pd, e3, hxp⟩ := hzs.get' e2
          rw [encPs_map, List.getElem?_map] at e3
          obtain ⟨p, e4, rfl⟩ := Option.map_eq_some_iff.mp e3
          have hpm : p ∈ ps := List.mem_of_getElem? e4
          have hpd : pdeep p < n := by
            have := pdeepL_mem hpm
            have : pdeep (Pat.shape nm ps) = 1 + pdeepL ps := by simp [pdeep]
            omega
          have kT : Keep [rl, tk] H3 (upd H' T' (.tup [.int (i : Int), xp])) := Keep.new nT k4
          have nrT : rl ≠ T' := ne_of_none hy1 nT
          have ntT : tk ≠ T' := ne_of_none hy3 nT
          have hyl := hy2.length
          have hal := asksL_len (ps.take i) known (known + ps.length)
          have hpt := pnodesL_take e4
          simp only [List.length_map, List.length_append, List.length_cons] at hyl
          have eas := asksL_snoc (ps.take i) p known (known + ps.length)
          have hli : (ps.take i).length = i := by rw [List.length_take]; have := (List.getElem?_eq_some_iff.mp e4).1; omega
          rw [hli, ← take_snoc e4] at eas
          refine ⟨T', _, rfl, .of upd_same, rfl, _, _, rfl, _, _, rfl, rfl, ?_⟩
          refine ⟨_, rfl, _, rfl, _, rfl, _, _, rfl, rfl, _, rfl, _, rfl, ?_⟩
          have kk : Keep [rl, tk] H' (upd H' T' (.tup [.int (i : Int), xp])) := Keep.new nT (Keep.refl _ _)
          have kk0 : Keep [] H' (upd H' T' (.tup [.int (i : Int), xp])) := Keep.new nT (Keep.refl _ _)
          refine ⟨xp, p, known + i, (asksL (ps.take i) known (known + ps.length)).1, rl, ys, _, rfl, hpd, ((hxp.keep k3).keep kT), (by rw [upd_ne nrT]; exact hy1), hy2.keep kk0, by omega, fun t l ys' H5 k5 hr5 hy5 hq5 nl hl5 => ?_⟩
          refine ⟨t, _, rfl, hq5, rfl, _, _, rfl, _, _, rfl, rfl, ?_⟩
          have ntr : tk ≠ rl := by
            have : rl ≠ tk := nrk
            exact this.symm
          have ht5 : H5 tk = some (.lst (intsV (asksL (ps.take i) known (known + ps.length)).2.1)) := k5.at_ _ _ (by simp [ntr]) (by rw [upd_ne ntT]; exact hy3)
          have hal2 := asksIn_len p (known + i) (asksL (ps.take i) known (known + ps.length)).1
          refine ⟨_, rfl, .inl ⟨rfl, _, .of ht5⟩, _, rfl, tk, l, _, _, rfl, rfl, ht5, hl5, by simp only [List.length_map]; omega, ?_⟩
          have k6 : Keep [rl, tk] H3 (upd H5 tk (.lst (intsV (asksL (ps.take i) known (known + ps.length)).2.1 ++ intsV (asksIn p (known + i) (asksL (ps.take i) known (known + ps.length)).1).2.1))) :=
            Keep.lst ht5 (.inl (by simp)) (kT.trans (k5.mono (by simp)))
          have k7 : Keep [tk] H5 (upd H5 tk (.lst (intsV (asksL (ps.take i) known (known + ps.length)).2.1 ++ intsV (asksIn p (known + i) (asksL (ps.take i) known (known + ps.length)).1).2.1))) := Keep.lst ht5 (.inl (by simp)) (Keep.refl _ _)
          refine ⟨ys', some (.int (i : Int)), some xp, some (.ref l), ?_, k6, by rw [upd_ne nrk]; exact hr5, ?_, ?_⟩
          · rw [eas]
            rfl
          · rw [eas]
            have := hy5.keep k7
            simpa [List.append_assoc] using this
          · rw [eas, upd_same]
            simp [intsV]
        · subst e
          rw [hlz, List.take_length] at hy2 hy3 ⊢
          refine ⟨_, rfl, _, rfl, (by show 2 ≤ sizeLine; decide), fun t nt => ?_⟩
          have k5 : Keep [rl, tk] H3 (upd H' t (.tup [.int ((asksL ps known (known + ps.length)).1 : Int), .ref tk])) := Keep.new nt k4
          have k6 := Keep.new (o := .tup [.int ((asksL ps known (known + ps.length)).1 : Int), .ref tk]) nt (Keep.refl [] H')
          refine q t tk ys _ (k5.call (fun b z => ?_) k3) (k6.at_ _ _ (by simp) hy1) ?_ (.of ?_) htk ?_
          · rcases List.mem_cons.mp z with rfl | z
            · exact .inl (by simp)
            · exact .inr (by rw [List.mem_singleton.mp z]; exact htk)
          · simp only [asksIn]
            exact hy2.keep k6
          · simp only [asksIn]
            exact upd_same
          · simp only [asksIn]
            exact k6.at_ _ _ (by simp) hy3
end
end K46
/-! K46G3 -/
set_option maxHeartbeats 4000000
namespace K46
open PySem PySem.Spec PyProof.Rows L2 C8
abbrev CK (K : PySem.W.Frag) : Addr := He.ga K "Maker"
abbrev kF (bm bd : Addr) (n : Int) : List (Str × V) := [("blocks_made", .ref bm), ("blocks_due", .ref bd), ("many_named", .int n)]
section
variable {bm bd : Addr} {n k : Int} {y : V}
theorem kF_made : (kF bm bd n).lookup ("blocks_made" : Str) = some (.ref bm) := by kernel_rfl
theorem kF_due : (kF bm bd n).lookup ("blocks_due" : Str) = some (.ref bd) := by kernel_rfl
theorem kF_many : (kF bm bd n).lookup ("many_named" : Str) = some (.int n) := by kernel_rfl
theorem kF_put : putF "many_named" (.int k) (kF bm bd n) = kF bm bd k := by kernel_rfl
theorem kF_mk : putF "many_named" (.int n) (putF "blocks_due" (.ref bd) (putF "blocks_made" (.ref bm) [])) = kF bm bd n := by kernel_rfl
theorem kF_no1 : (kF bm bd n).lookup ("new_name" : Str) = none := by kernel_rfl
theorem kF_no2 : (kF bm bd n).lookup ("add_block" : Str) = none := by kernel_rfl
theorem kF_no3 : (kF bm bd n).lookup ("code_of" : Str) = none := by kernel_rfl
theorem kF_no4 : (kF bm bd n).lookup ("closed_code" : Str) = none := by kernel_rfl
theorem kF_no5 : (kF bm bd n).lookup ("add_due" : Str) = none := by kernel_rfl
theorem kF_no6 : (kF bm bd n).lookup ("rows_code" : Str) = none := by kernel_rfl
theorem kF_no7 : (kF bm bd n).lookup ("further_code" : Str) = none := by kernel_rfl
end
def encU (x : Due) : D := .tup [.str x.1, .int (x.2.1 : Int), encT x.2.2]
structure MkOk (K : PySem.W.Frag) (H : Hp) (x dx bm bd : Addr) (s : MS) : Prop where
  at_ : H x = some (.ins (CK K) dx (kF bm bd (s.2.2 : Int)))
  ne : bm ≠ bd
  made : ∃ vs, H bm = some (.lst vs) ∧ AtL K H vs (s.1.map encB)
  due : ∃ vs, H bd = some (.lst vs) ∧ AtL K H vs (s.2.1.map encU)
section
variable {K : PySem.W.Frag} {H H1 : Hp} {S : List Addr} {x dx bm bd a : Addr} {s : MS}
theorem MkOk.keep (k : Keep S H H1) (n1 : x ∉ S) (n2 : bm ∉ S) (n3 : bd ∉ S) (m : MkOk K H x dx bm bd s) : MkOk K H1 x dx bm bd s := by
  obtain ⟨h1, h2, ⟨vs, h3, h4⟩, us, h5, h6⟩ := m
  exact ⟨k.at_ _ _ n1 h1, h2, ⟨vs, k.at_ _ _ n2 h3, h4.keep k⟩, us, k.at_ _ _ n3 h5, h6.keep k⟩
theorem MkOk.keep0 (k : Keep [] H H1) (m : MkOk K H x dx bm bd s) : MkOk K H1 x dx bm bd s := m.keep k (by simp) (by simp) (by simp)
theorem MkOk.nx (m : MkOk K H x dx bm bd s) : x ≠ bm ∧ x ≠ bd := by
  obtain ⟨_, h3, _⟩ := m.made
  obtain ⟨_, h5, _⟩ := m.due
  exact ⟨ne_of m.at_ h3 (by intro z; cases z), ne_of m.at_ h5 (by intro z; cases z)⟩
theorem MkOk.no (m : MkOk K H x dx bm bd s) (n : H a = none) : a ≠ x ∧ a ≠ bm ∧ a ≠ bd := by
  obtain ⟨_, h3, _⟩ := m.made
  obtain ⟨_, h5, _⟩ := m.due
  exact ⟨(ne_of_none m.at_ n).symm, (ne_of_none h3 n).symm, (ne_of_none h5 n).symm⟩
/-- a block more -/
theorem MkOk.push {vs : List V} {v : V} {b : Bk} (m : MkOk K H x dx bm bd s) (e : H bm = some (.lst vs)) (hv : At K H v (encB b)) : MkOk K (upd H bm (.lst (vs ++ [v]))) x dx bm bd (s.1 ++ [b], s.2) := by
  have nx := m.nx
  obtain ⟨h1, h2, ⟨vs', h3, h4⟩, us, h5, h6⟩ := m
  cases e.symm.trans h3
  have k : Keep [bm] H (upd H bm (.lst (vs ++ [v]))) := Keep.lst h3 (.inl (by simp)) (Keep.refl _ _)
  refine ⟨k.at_ _ _ (by simp [nx.1]) h1, h2, ⟨_, upd_same, ?_⟩, us, k.at_ _ _ (by simp [h2.symm]) h5, h6.keep k⟩
  rw [List.map_append]
  exact (h4.keep k).snoc (hv.keep k)
/-- one more that is due -/
theorem MkOk.owe {vs : List V} {v : V} {u : Due} (m : MkOk K H x dx bm bd s) (e : H bd = some (.lst vs)) (hv : At K H v (encU u)) : MkOk K (upd H bd (.lst (vs ++ [v]))) x dx bm bd (s.1, (s.2.1 ++ [u], s.2.2)) := by
  have nx := m.nx
  obtain ⟨h1, h2, ⟨us, h3, h4⟩, vs', h5, h6⟩ := m
  cases e.symm.trans h5
  have k : Keep [bd] H (upd H bd (.lst (vs ++ [v]))) := Keep.lst h5 (.inl (by simp)) (Keep.refl _ _)
  refine ⟨k.at_ _ _ (by simp [nx.2]) h1, h2, ⟨us, k.at_ _ _ (by simp [h2]) h3, h4.keep k⟩, _, upd_same, ?_⟩
  rw [List.map_append]
  exact (h6.keep k).snoc (hv.keep k)
theorem MkOk.pay {vs : List V} {d : List Due} {u : Due} {m0 : List Bk} {n : Nat} (m : MkOk K H x dx bm bd (m0, (d ++ [u], n))) (e : H bd = some (.lst vs)) : MkOk K (upd H bd (.lst vs.dropLast)) x dx bm bd (m0, (d, n)) ∧ ∃ v, vs[vs.length - 1]? = some v ∧ At K H v (encU u) := by
  have nx := m.nx
  obtain ⟨h1, h2, ⟨us, h3, h4⟩, vs', h5, h6⟩ := m
  cases e.symm.trans h5
  have k : Keep [bd] H (upd H bd (.lst vs.dropLast)) := Keep.lst h5 (.inl (by simp)) (Keep.refl _ _)
  have h6' : AtL K H vs (d.map encU ++ [encU u]) := by simpa using h6
  obtain ⟨ys, zs, rfl, a, b⟩ := h6'.split
  obtain ⟨v, ws, rfl, c, c2⟩ := b.cons'
  cases c2
  refine ⟨⟨k.at_ _ _ (by simp [nx.2]) h1, h2, ⟨us, k.at_ _ _ (by simp [h2]) h3, h4.keep k⟩, ys, ?_, a.keep k⟩, v, by simp, c⟩
  rw [upd_same]
  simp
end
section
variable {P : Program} {w : World} {K : PySem.W.Frag} {mg : Str → Option Value} {base : Heap}
def sp_Maker_init (K : PySem.W.Frag) : Sp := fun vs H Q _ => ∃ (x dx : Addr), vs = [.ref x] ∧ H x = some (.ins (CK K) dx []) ∧ ∀ bm bd H', H bm = none → H bd = none → Keep [x] H H' → MkOk K H' x dx bm bd ([], ([], 0)) → Q .non H'
theorem ok_Maker_init (T : Tx K mg) : Mak P w K mg base 1 "Maker" (CK K) (sp_Maker_init K) [] := by
  refine mak_mk T.f_Maker_init T.mk_Maker T.g_Maker sc_Maker_init (fun _ _ _ _ _ _ us hl => match us, hl with | [_], _ => rfl) (fun vs H Q E h => ?_) (fun cdv A outer s H vs Q E hr h => ?_)
  · obtain ⟨x, dx, rfl, _⟩ := h
    rfl
  · obtain ⟨x, dx, rfl, hx, q⟩ := h
    refine ⟨_, (pss_cons (ps_fld (pv 0) (pe_lst pa_nil) rfl)
      (pss_cons (ps_fld (pv 0) (pe_lst pa_nil) rfl)
      (pss_one (ps_fld (pv 0) pe_int rfl)))), ?_⟩
    refine ⟨by decide, fun m nm => ?_⟩
    have n1 : x ≠ m := ne_of_none hx nm
    refine ⟨_, rfl, x, _, dx, _, rfl, (by rw [upd_ne n1]; exact hx), T.c_Maker, T.n_Maker_blocks_made, (by decide), by decide, fun d nd => ?_⟩
    have n2 : x ≠ d := ne_of_none upd_same nd
    have n3 : m ≠ d := ne_of_none (by rw [upd_ne n1.symm]; exact upd_same) nd
    refine ⟨_, rfl, x, _, dx, _, rfl, (by rw [upd_ne n2]; exact upd_same), T.c_Maker, T.n_Maker_blocks_due, (by show 1 < 1000; decide), _, rfl, x, _, dx, _, rfl, upd_same, T.c_Maker, T.n_Maker_many_named, (by show 2 < 1000; decide), ?_⟩
    refine q m d _ nm (new_old (new_old nd)) ?_ ?_
    · exact Keep.ins upd_same (.inl (by simp)) (Keep.ins (by rw [upd_ne n2]; exact upd_same) (.inl (by simp)) (Keep.new nd (Keep.ins (by rw [upd_ne n1]; exact hx) (.inl (by simp)) (Keep.new nm (Keep.refl _ _)))))
    · refine ⟨by rw [upd_same]; exact congrArg (fun z => some (HO.ins (CK K) dx z)) kF_mk, n3, ⟨[], ?_, .nil⟩, [], ?_, .nil⟩
      · rw [upd_ne n1.symm, upd_ne n1.symm, upd_ne n3, upd_ne n1.symm]
        exact upd_same
      · rw [upd_ne n2.symm, upd_ne n2.symm]
        exact upd_same
def sp_new_name (K : PySem.W.Frag) : Sp := fun vs H Q _ => ∃ (x dx bm bd : Addr) (s : MS), vs = [.ref x] ∧ MkOk K H x dx bm bd s ∧ s.2.2 + 1 ≤ 1000000 ∧ ∀ H', Keep [x] H H' → MkOk K H' x dx bm bd (s.1, (s.2.1, s.2.2 + 1)) → Q (.str (dot (s.2.2 + 1))) H'
theorem log2_small {n : Nat} (h : n ≤ 1000000) : ((n : Nat) : Int).natAbs.log2 < 1920 := by
  have : n.log2 < 1920 := by
    by_cases e : n = 0
    · rw [e]; decide
    · exact (Nat.log2_lt e).mpr (Nat.lt_of_le_of_lt h (by decide))
  simpa using this
theorem ok_new_name (T : Tx K mg) : Met P w K mg base 1 (CK K) "new_name" (sp_new_name K) [] := by
  refine met_mk T.f_Maker_new_name T.c_Maker T.m_Maker_new_name sc_Maker_new_name (fun _ _ _ _ _ _ us hl => match us, hl with | [_], _ => rfl) (fun vs H Q E h => ?_) (fun cdv A outer s0 H vs Q E hr h => ?_)
  · obtain ⟨x, dx, bm, bd, s, rfl, _⟩ := h
    rfl
  · obtain ⟨x, dx, bm, bd, s, rfl, m, hs, q⟩ := h
    obtain ⟨tOWk, kOWk⟩ := T.k_OWN_making
    refine ⟨_, (pss_cons (ps_fldaug (pv 0) pe_int in_add)
      (pss_one (ps_ret (pe_op op_add_str (pe_glob (v := .str ".") rfl kOWk ⟨_, rfl⟩) (pe_callTy call_str_int (by rfl) T.z_str (by decide +kernel) (pa_cons (pe_fld (pv 0) rfl) pa_nil)))))), ?_⟩
    refine ⟨_, rfl, x, _, dx, _, _, rfl, m.at_, T.c_Maker, T.n_Maker_many_named, kF_many, _, _, rfl, rfl, dx, _, m.at_, (by show 3 < 1000; decide), ?_⟩
    rw [kF_put]
    have k1 : Keep [x] H (upd H x (.ins (CK K) dx (kF bm bd ((s.2.2 : Int) + 1)))) := Keep.ins m.at_ (.inl (by simp)) (Keep.refl _ _)
    have nx := m.nx
    obtain ⟨vs, h3, h4⟩ := m.made
    obtain ⟨us, h5, h6⟩ := m.due
    have m2 : MkOk K (upd H x (.ins (CK K) dx (kF bm bd ((s.2.2 : Int) + 1)))) x dx bm bd (s.1, (s.2.1, s.2.2 + 1)) := ⟨upd_same, m.ne, ⟨vs, k1.at_ _ _ (by simp [nx.1.symm]) h3, h4.keep k1⟩, us, k1.at_ _ _ (by simp [nx.2.symm]) h5, h6.keep k1⟩
    have e : ((s.2.2 : Int) + 1) = ((s.2.2 + 1 : Nat) : Int) := by omega
    have hlog := log2_small hs
    refine ⟨_, rfl, x, _, dx, _, _, rfl, upd_same, T.c_Maker, T.n_Maker_many_named, kF_many, _, rfl, by rw [e]; exact hlog, _, _, rfl, rfl, ?_, ?_⟩
    · have := PyProof.Rows.int_text_len_1921 hlog
      rw [e]
      have : (Str.ofString ".").length = 1 := by decide
      have : 1922 ≤ sizeLine := by decide
      omega
    · rw [e]
      exact q _ k1 m2
def sp_add_block (K : PySem.W.Frag) : Sp := fun vs H Q _ => ∃ (x dx bm bd l : Addr) (s : MS) (nm : Str) (many : Nat) (xs : List V) (c : List Ins), vs = [.ref x, .str nm, .int (many : Int), .ref l] ∧ MkOk K H x dx bm bd s ∧ H l = some (.lst xs) ∧ AtL K H xs (c.map encI) ∧ s.1.length < sizeLine ∧ ∀ H', Keep [bm] H H' → MkOk K H' x dx bm bd (s.1 ++ [⟨nm, many, c⟩], s.2) → Q .non H'
theorem ok_add_block (T : Tx K mg) : Met P w K mg base 1 (CK K) "add_block" (sp_add_block K) [] := by
  refine met_mk T.f_Maker_add_block T.c_Maker T.m_Maker_add_block sc_Maker_add_block (fun _ _ _ _ _ _ us hl => match us, hl with | [_, _, _, _], _ => rfl) (fun vs H Q E h => ?_) (fun cdv A outer s0 H vs Q E hr h => ?_)
  · obtain ⟨x, dx, bm, bd, l, s, nm, many, xs, c, rfl, _⟩ := h
    rfl
  · obtain ⟨x, dx, bm, bd, l, s, nm, many, xs, c, rfl, m, hl, hx, hz, q⟩ := h
    refine ⟨_, (pss_one (ps_expr (pe_bm PySem.F.plainAttrs_list PySem.F.slot_list_append PySem.F.type_list_append mt_append (pe_fld (pv 0) rfl) (pa_cons (pe_tup (pa_cons (pv 1) (pa_cons (pv 2) (pa_cons (pe_callTy call_tuple_of (by rfl) T.z_tuple (by decide +kernel) (pa_cons (pv 3) pa_nil)) pa_nil)))) pa_nil)))), ?_⟩
    obtain ⟨vs, h3, h4⟩ := id m.made
    refine ⟨_, rfl, x, _, dx, _, _, rfl, m.at_, T.c_Maker, T.n_Maker_blocks_made, kF_made, .inl ⟨rfl, _, .of h3⟩, _, rfl, _, rfl, _, rfl, l, xs, rfl, .inl ⟨.of hl, fun a na => ⟨(by show 3 ≤ sizeLine; decide), fun t nt => ?_⟩⟩⟩
    have k1 : Keep [] H (upd (upd H a (.tup xs)) t (.tup [.str nm, .int (many : Int), .ref a])) := Keep.new nt (Keep.new na (Keep.refl _ _))
    have m1 := m.keep0 k1
    have h3' := k1.at_ _ _ (by simp) h3
    have hc : At K (upd (upd H a (.tup xs)) t (.tup [.str nm, .int (many : Int), .ref a])) (.ref a) (encC c) := At.new (by rw [upd_ne (new_ne nt).symm]; exact upd_same) (hx.keep k1)
    have hb : At K (upd (upd H a (.tup xs)) t (.tup [.str nm, .int (many : Int), .ref a])) (.ref t) (encB ⟨nm, many, c⟩) := At.new upd_same (.cons (.str _) (.cons (.int _) (.cons hc .nil)))
    have hl4 := h4.length
    rw [List.length_map] at hl4
    refine ⟨bm, vs, _, rfl, rfl, h3', by omega, ?_⟩
    exact q _ (Keep.lst h3' (.inl (by simp)) (k1.mono (by simp))) (m1.push h3' hb)
end
end K46
/-! K46G4 -/
set_option maxHeartbeats 4000000
namespace K46
open PySem PySem.Spec PyProof.Rows L2 C8
section
variable {P : Program} {w : World} {K : PySem.W.Frag} {mg : Str → Option Value} {base : Heap}
def sp_closed_code (K : PySem.W.Frag) : Sp := fun vs H Q _ => ∃ (x dx bm bd g : Addr) (s : MS) (tv : V) (fn : Bool) (b : Tm) (Γ : List Nat), vs = [.ref x, tv, .ref g] ∧ MkOk K H x dx bm bd s ∧ At K H tv (encT (.clo fn b)) ∧ H g = some (.lst (intsV Γ)) ∧ g ≠ bm ∧ g ≠ bd ∧ s.2.2 + 1 ≤ 1000000 ∧ s.2.1.length < sizeLine ∧ Γ.length + 1 < sizeLine ∧
  ∀ l ys H', Keep [x, bm, bd] H H' → H l = none → H' l = some (.lst ys) → AtL K H' ys ((codeOf Γ (.clo fn b) s.2).1.map encI) → MkOk K H' x dx bm bd (s.1, (codeOf Γ (.clo fn b) s.2).2) → Q (.ref l) H'
theorem ok_closed_code (T : Tx K mg) : Met P w K mg base 2 (CK K) "closed_code" (sp_closed_code K) [] := by
  refine met_mk T.f_Maker_closed_code T.c_Maker T.m_Maker_closed_code sc_Maker_closed_code (fun _ _ _ _ _ _ us hl => match us, hl with | [_, _, _], _ => rfl) (fun vs H Q E h => ?_) (fun cdv A outer s0 H vs Q E hr h => ?_)
  · obtain ⟨x, dx, bm, bd, g, s, tv, fn, b, Γ, rfl, _⟩ := h
    rfl
  · obtain ⟨x, dx, bm, bd, g, s, tv, fn, b, Γ, rfl, m, ht, hg, ngm, ngd, hs, hd, hΓ, q⟩ := h
    obtain ⟨tFUN, kFUN⟩ := T.k_FUN
    have c_Maker_new_name := ok_new_name (P := P) (w := w) (base := base) T
    refine ⟨_, (pss_cons (ps_set (i := 3) sc_Maker_closed_code.nd rfl (Or.inl rfl) (pe_op op_add (pe_callB call_len_seq (by rfl) T.z_len PySem.boot_len (pa_cons (pv 2) pa_nil)) (pe_callTy call_int1 (by rfl) T.z_int (by decide +kernel) (pa_cons (pe_cmpR op_eq (pe_ix ix_tup (pv 1) pe_int (fun _ _ => rfl)) (pe_glob (v := .str "fun") rfl kFUN ⟨_, rfl⟩) (nomark _)) pa_nil))))
      (pss_cons (ps_set (i := 4) sc_Maker_closed_code.nd rfl (Or.inl rfl) (pe_mt0 c_Maker_new_name hr (by omega) (pv 0)))
      (pss_cons (ps_expr (pe_bm PySem.F.plainAttrs_list PySem.F.slot_list_append PySem.F.type_list_append mt_append (pe_fld (pv 0) rfl) (pa_cons (pe_tup (pa_cons (pv 4) (pa_cons (pv 3) (pa_cons (pe_ix ix_tup (pv 1) pe_int (fun _ _ => rfl)) pa_nil)))) pa_nil)))
      (pss_one (ps_ret (pe_op op_cat (pe_lc (g := (gName 5)) rfl sc_Maker_closed_code.nd (pi_list (pv 2)) (blkOk_by (own := [("k", 5)]) (N := ["self", "term", "around", "many", "name", "k"]) (sc := defScope s_Maker_closed_code) (by decide +kernel)) (fun _ _ _ _ _ => (pg_name (i := 5) sc_Maker_closed_code.nd rfl (Or.inl rfl))) (fun _ _ _ _ _ => pts_nil) (fun _ _ _ _ _ => (pe_tup (pa_cons pe_str (pa_cons (pv 5) pa_nil))))) (pe_lst (pa_cons (pe_tup (pa_cons pe_str (pa_cons (pv 4) (pa_cons (pe_callB call_len_seq (by rfl) T.z_len PySem.boot_len (pa_cons (pv 2) pa_nil)) pa_nil)))) pa_nil)))))))), ?_⟩
    have cut : ∃ (a : Addr) (y : V) (w0 : Str), tv = .ref a ∧ SqT K H a [.str w0, y] ∧ At K H y (encT b) ∧ decide (V.str w0 = V.str "fun") = fn := by
      cases fn with
      | true =>
        obtain ⟨a, z, y, rfl, hq, h1, h2⟩ := ht.t2
        obtain rfl := h1.s
        exact ⟨a, y, _, rfl, hq, h2, by decide +kernel⟩
      | false =>
        obtain ⟨a, z, y, rfl, hq, h1, h2⟩ := ht.t2
        obtain rfl := h1.s
        exact ⟨a, y, _, rfl, hq, h2, by decide +kernel⟩
    obtain ⟨a, y, w0, rfl, hq, hy, hfn⟩ := cut
    refine ⟨_, rfl, g, _, rfl, .inl (.of hg), _, rfl, a, _, 0, .str w0, rfl, rfl, hq, atI_nat (j := 0) rfl, rfl, .inr ⟨_, rfl, _, _, rfl, rfl, ?_⟩⟩
    have efn : (if decide (V.str w0 = V.str "fun") = true then (1 : Int) else 0) = (fn.toNat : Int) := by
      rw [hfn]
      cases fn <;> rfl
    refine ⟨_, rfl, x, dx, _, rfl, m.at_, kF_no1, ?_⟩
    refine ⟨x, dx, bm, bd, s, rfl, m, hs, fun H1 k1 m1 => ?_⟩
    have nx := m.nx
    obtain ⟨us, h5, h6⟩ := id m1.due
    have hg1 : H1 g = some (.lst (intsV Γ)) := k1.at_ _ _ (by
      have : g ≠ x := (ne_of m.at_ hg (by intro z; cases z)).symm
      simp [this]) hg
    have hq1 := k1.sqT hq
    refine ⟨_, rfl, x, _, dx, _, _, rfl, m1.at_, T.c_Maker, T.n_Maker_blocks_due, kF_due, .inl ⟨rfl, _, .of h5⟩, _, rfl, _, rfl, _, rfl, a, _, 1, y, rfl, rfl, hq1, atI_nat (j := 1) rfl, (by show 3 ≤ sizeLine; decide), fun t nt => ?_⟩
    have hl6 := h6.length
    rw [List.length_map] at hl6
    replace hl6 : us.length = s.2.1.length := hl6
    have h5' : upd H1 t (.tup [.str (dot (s.2.2 + 1)), .int (((intsV Γ).length : Int) + (if decide (V.str w0 = V.str "fun") = true then (1 : Int) else 0)), y]) bd = some (.lst us) := (Keep.new nt (Keep.refl [] _)).at_ _ _ (by simp) h5
    refine ⟨bd, us, _, rfl, rfl, h5', by omega, ?_⟩
    have kt := Keep.new (o := .tup [.str (dot (s.2.2 + 1)), .int (((intsV Γ).length : Int) + (if decide (V.str w0 = V.str "fun") = true then (1 : Int) else 0)), y]) nt (Keep.refl [] H1)
    have m2 : MkOk K _ x dx bm bd (codeOf Γ (.clo fn b) s.2 |>.2 |> fun z => (s.1, z)) := (m1.keep0 kt).owe (u := (dot (s.2.2 + 1), Γ.length + fn.toNat, b)) (v := .ref t) h5' (by
      refine At.new upd_same (.cons (.str _) (.cons ?_ (.cons (((hy.keep (k1.mono (S' := [x]) (by simp))).keep kt)) .nil)))
      rw [efn, List.length_map]
      exact .int ((Γ.length + fn.toNat : Nat) : Int))
    generalize eH : upd (upd H1 t (.tup [.str (dot (s.2.2 + 1)), .int (((intsV Γ).length : Int) + (if decide (V.str w0 = V.str "fun") = true then (1 : Int) else 0)), y])) bd (.lst (us ++ [.ref t])) = H2 at m2
    have k2 : Keep [x, bm, bd] H H2 := eH ▸ Keep.lst h5' (.inl (by simp)) (Keep.new nt (k1.mono (by simp)))
    have kg : Keep [bd] H1 H2 := eH ▸ Keep.lst h5' (.inl (by simp)) (Keep.new nt (Keep.refl _ _))
    have hg2 := kg.at_ _ _ (by simp [ngd]) hg1
    refine ⟨_, rfl, g, rfl, ⟨_, .of hg2⟩, fun D nD => lc_data (K := K) (walk_list (xs := intsV Γ)) (Γ.map fun k => encI (.loc k)) (by simp) (by simp; omega) nD (fun H k => .of (k.at_ _ _ (by simp) hg2)) (fun i v H3 H4 d Qn F hi k3 y3 e3 hQ => ?_) (fun ys H3 k3 hD hys => ?_)⟩
    · obtain ⟨rfl, ev⟩ := y3
      rw [List.getElem?_map] at e3 ev
      cases eΓ : Γ[i]? with
      | none => rw [eΓ] at ev; cases ev
      | some k =>
        rw [eΓ] at e3 ev
        cases e3
        cases ev
        refine ⟨rfl, tyes ?_⟩
        refine ⟨_, rfl, (by show 2 ≤ sizeLine; decide), fun p np => hQ _ _ (Keep.new np (Keep.refl _ _)) (At.new upd_same (.cons (.str _) (.cons (.int _) .nil)))⟩
    · have hg3 := k3.at_ _ _ (by simp) hg2
      refine ⟨_, rfl, _, rfl, g, _, rfl, .inl (.of hg3), (by show 3 ≤ sizeLine; decide), fun p np => ⟨(by show 1 ≤ sizeLine; decide), fun l2 nl2 => ?_⟩⟩
      have k4 : Keep [] H3 (upd (upd H3 p (.tup [.str "close", .str (dot (s.2.2 + 1)), .int ((intsV Γ).length : Int)])) l2 (.lst [.ref p])) := Keep.new nl2 (Keep.new np (Keep.refl _ _))
      have hlys := hys.length
      rw [List.length_map] at hlys
      refine ⟨D, l2, _, _, rfl, rfl, k4.at_ _ _ (by simp) hD, upd_same, (by show ys.length + 1 ≤ sizeLine; omega), fun r nr => ?_⟩
      have k5 := k4.new_ (o := .lst (ys ++ [.ref p])) nr
      have hr2 : H2 r = none := k3.free (new_old (new_old nr))
      have nor := m2.no hr2
      have hr0 : H r = none := k2.none_of (by simp [nor.1, nor.2.1, nor.2.2]) hr2
      refine q r _ _ (k2.trans ((k3.trans k5).mono (by simp))) hr0 upd_same ?_ (m2.keep0 (k3.trans k5))
      have e : (codeOf Γ (.clo fn b) s.2).1.map encI = Γ.map (fun k => encI (.loc k)) ++ [.tup [.str "close", .str (dot (s.2.2 + 1)), .int (Γ.length : Int)]] := by
        simp [codeOf, encI]
      rw [e]
      refine (hys.keep k5).append (.cons (At.new (xs := [.str "close", .str (dot (s.2.2 + 1)), .int ((intsV Γ).length : Int)]) ?_ (.cons (.str _) (.cons (.str _) (.cons ?_ .nil)))) .nil)
      · refine (Keep.new nr (Keep.new nl2 (Keep.refl [] _))).at_ _ _ (by simp) upd_same
      · rw [List.length_map]
        exact .int _
end
end K46
/-! K46G5 -/
set_option maxHeartbeats 4000000
namespace K46
open PySem PySem.Spec PyProof.Rows L2 C8
def encS (x : Tm × Bool) : D := .tup [encT x.1, .bl x.2]
def wnodes : List (Tm × Bool) → Nat
  | [] => 0
  | (t, false) :: w => nodes t + wnodes w
  | (_, true) :: w => wnodes w
theorem wnodes_terms (w : List (Tm × Bool)) : ∀ ts : List Tm, wnodes (ts.map (·, false) ++ w) = nodesL ts + wnodes w
  | [] => by simp [nodesL]
  | t :: ts => by
    have := wnodes_terms w ts
    simp only [List.map_cons, List.cons_append, wnodes, nodesL, this]
    omega
theorem length_weight : ∀ w : List (Tm × Bool), w.length ≤ weight w
  | [] => Nat.le_refl _
  | (t, false) :: w => by
    have := length_weight w
    have := nodes_pos t
    simp only [weight, List.length_cons]
    omega
  | (_, true) :: w => by
    have := length_weight w
    simp only [weight, List.length_cons]
    omega
theorem length_nodesL : ∀ ts : List Tm, ts.length ≤ nodesL ts
  | [] => Nat.le_refl _
  | t :: ts => by
    have := length_nodesL ts
    have := nodes_pos t
    simp only [nodesL, List.length_cons]
    omega
mutual
theorem codeOf_len (Γ : List Nat) : ∀ (t : Tm) (s : DS), (codeOf Γ t s).1.length ≤ nodes t * (Γ.length + 1)
  | .at i, s => by simp [codeOf, nodes]
  | .clo fn b, s => by
    simp only [codeOf, nodes, List.length_append, List.length_map, List.length_cons, List.length_nil]
    rw [Nat.add_mul, Nat.one_mul]
    exact Nat.le_add_right _ _
  | .nd k ts, s => by
    have := codesOf_len Γ ts s
    simp only [codeOf, nodes, List.length_append, List.length_cons, List.length_nil]
    rw [Nat.add_mul, Nat.one_mul]
    omega
theorem codesOf_len (Γ : List Nat) : ∀ (ts : List Tm) (s : DS), (codesOf Γ ts s).1.length ≤ nodesL ts * (Γ.length + 1)
  | [], s => by simp [codesOf, nodesL]
  | t :: ts, s => by
    have h1 := codeOf_len Γ t s
    have h2 := codesOf_len Γ ts (codeOf Γ t s).2
    simp only [codesOf, nodesL, List.length_append]
    rw [Nat.add_mul]
    exact Nat.add_le_add h1 h2
end
theorem codeOf_len' (Γ : List Nat) (t : Tm) (s : DS) (h : Γ.length + nodes t ≤ 2000) : (codeOf Γ t s).1.length ≤ 4002000 :=
  Nat.le_trans (codeOf_len Γ t s) (Nat.le_trans (Nat.mul_le_mul (show nodes t ≤ 2000 by omega) (show Γ.length + 1 ≤ 2001 by omega)) (by decide))
def StkGood (n : Nat) (w : List (Tm × Bool)) : Prop := ∀ x ∈ w, (x.2 = false → TmOk n x.1) ∧ (x.2 = true → ∃ k ts, x.1 = .nd k ts)
section
variable {P : Program} {w : World} {K : PySem.W.Frag} {mg : Str → Option Value} {base : Heap}
def sp_code_of (K : PySem.W.Frag) : Sp := fun vs H Q _ => ∃ (x dx bm bd g : Addr) (s : MS) (tv : V) (t : Tm) (Γ : List Nat), vs = [.ref x, tv, .ref g] ∧ MkOk K H x dx bm bd s ∧ At K H tv (encT t) ∧ H g = some (.lst (intsV Γ)) ∧ g ≠ bm ∧ g ≠ bd ∧ TmOk Γ.length t ∧ Γ.length + nodes t ≤ 2000 ∧ s.2.1.length + nodes t ≤ 1000000 ∧ s.2.2 + nodes t ≤ 1000000 ∧
  ∀ l ys H', Keep [x, bm, bd] H H' → H l = none → H' l = some (.lst ys) → AtL K H' ys ((codeOf Γ t s.2).1.map encI) → MkOk K H' x dx bm bd (s.1, (codeOf Γ t s.2).2) → Q (.ref l) H'
/-- where the loop stands -/
def CodeW (K : PySem.W.Frag) (H : Hp) (x dx bm bd g l lf : Addr) (tv : V) (s : MS) (t : Tm) (Γ : List Nat) (j : Nat) (σ : L2.St) (H' : Hp) : Prop :=
  ∃ (o5 o6 o7 : Option V) (w : List (Tm × Bool)) (c0 : List Ins) (d : DS) (xs ys : List V), σ = [some (.ref x), some tv, some (.ref g), some (.ref l), some (.ref lf), o5, o6, o7] ∧ j = weight w ∧ weight w ≤ 2 * nodes t ∧ wnodes w ≤ nodes t ∧ StkGood Γ.length w ∧
    d.1.length + wnodes w ≤ 1000000 ∧ d.2 + wnodes w ≤ 1000000 ∧ (c0 ++ (stk Γ w d).1, (stk Γ w d).2) = codeOf Γ t s.2 ∧ Keep [x, bm, bd] H H' ∧ MkOk K H' x dx bm bd (s.1, d) ∧ H' lf = some (.lst xs) ∧ AtL K H' xs (w.reverse.map encS) ∧ H' l = some (.lst ys) ∧ AtL K H' ys (c0.map encI)
theorem ok_code_of (T : Tx K mg) : Met P w K mg base 3 (CK K) "code_of" (sp_code_of K) [] := by
  refine met_mk T.f_Maker_code_of T.c_Maker T.m_Maker_code_of sc_Maker_code_of (fun _ _ _ _ _ _ us hl => match us, hl with | [_, _, _], _ => rfl) (fun vs H Q E h => ?_) (fun cdv A outer s0 H vs Q E hr h => ?_)
  · obtain ⟨x, dx, bm, bd, g, s, tv, t, Γ, rfl, _⟩ := h
    rfl
  · obtain ⟨x, dx, bm, bd, g, s, tv, t, Γ, rfl, m, ht, hg, ngm, ngd, htk, hn, hs1, hs2, q⟩ := h
    obtain ⟨tFUN, kFUN⟩ := T.k_FUN
    obtain ⟨tWAIT, kWAIT⟩ := T.k_WAIT
    obtain ⟨tAT, kAT⟩ := T.k_AT
    have c_Maker_closed_code := ok_closed_code (P := P) (w := w) (base := base) T
    have c_own_row := ok_own_row (P := P) (w := w) (base := base) T
    have c_bare_parts := ok_bare_parts (P := P) (w := w) (base := base) T
    refine ⟨_, (pss_cons (ps_par (i := 3) (j := 4) (by rfl) sc_Maker_code_of.nd rfl rfl (by decide) rfl rfl (pa_cons (pe_lst pa_nil) (pa_cons (pe_lst (pa_cons (pe_tup (pa_cons (pv 1) (pa_cons pe_bl pa_nil))) pa_nil)) pa_nil)) (by rfl))
      (pss_cons (ps_while PassesOwn.never (pt_cmpR (op_ne0 hr.units0) (pv 4) (pe_lst pa_nil) (nomark _)) (pss_cons (ps_asg (pe_bm0 PySem.F.plainAttrs_list PySem.F.slot_list_pop PySem.F.type_list_pop mt_pop (pv 4)) (pg_tup rfl (pgs_cons (pg_name (i := 5) sc_Maker_code_of.nd rfl (Or.inl rfl)) (pgs_cons (pg_name (i := 6) sc_Maker_code_of.nd rfl (Or.inl rfl)) pgs_nil))))
      (pss_one (ps_if (pt_cmpR op_eq (pe_ix ix_tup (pv 5) pe_int (fun _ _ => rfl)) (pe_glob (v := .str "at") rfl kAT ⟨_, rfl⟩) (nomark _)) (pss_one (ps_expr (pe_bm PySem.F.plainAttrs_list PySem.F.slot_list_append PySem.F.type_list_append mt_append (pv 3) (pa_cons (pe_tup (pa_cons pe_str (pa_cons (pe_ix ix_list (pv 2) (pe_op op_sub (pe_op op_sub (pe_callB call_len_seq (by rfl) T.z_len PySem.boot_len (pa_cons (pv 2) pa_nil)) pe_int) (pe_ix ix_tup (pv 5) pe_int (fun _ _ => rfl))) (fun _ _ => rfl)) pa_nil))) pa_nil)))) (pss_one (ps_if (pt_cmpR op_in_seq (pe_ix ix_tup (pv 5) pe_int (fun _ _ => rfl)) (pe_tup (pa_cons (pe_glob (v := .str "fun") rfl kFUN ⟨_, rfl⟩) (pa_cons (pe_glob (v := .str "wait") rfl kWAIT ⟨_, rfl⟩) pa_nil))) (by rfl)) (pss_one (ps_expr (pe_bm PySem.F.plainAttrs_list PySem.F.slot_list_extend PySem.F.type_list_extend mt_extend (pv 3) (pa_cons (pe_mt c_Maker_closed_code hr (by omega) (pv 0) (pa_cons (pv 5) (pa_cons (pv 2) pa_nil))) pa_nil)))) (pss_one (ps_if (pt_val (pv 6)) (pss_one (ps_expr (pe_bm PySem.F.plainAttrs_list PySem.F.slot_list_append PySem.F.type_list_append mt_append (pv 3) (pa_cons (pe_c c_own_row hr (by omega) rfl (pa_cons (pv 5) pa_nil)) pa_nil)))) (pss_cons (ps_expr (pe_bm PySem.F.plainAttrs_list PySem.F.slot_list_append PySem.F.type_list_append mt_append (pv 4) (pa_cons (pe_tup (pa_cons (pv 5) (pa_cons pe_bl pa_nil))) pa_nil)))
      (pss_one (ps_expr (pe_bm PySem.F.plainAttrs_list PySem.F.slot_list_extend PySem.F.type_list_extend mt_extend (pv 4) (pa_cons (pe_lc (g := (gName 7)) rfl sc_Maker_code_of.nd (pi_tup (pe_revT (pe_c c_bare_parts hr (by omega) rfl (pa_cons (pv 5) pa_nil)))) (blkOk_by (own := [("part", 7)]) (N := ["self", "term", "around", "rows", "left", "here", "is_behind", "part"]) (sc := defScope s_Maker_code_of) (by decide +kernel)) (fun _ _ _ _ _ => (pg_name (i := 7) sc_Maker_code_of.nd rfl (Or.inl rfl))) (fun _ _ _ _ _ => pts_nil) (fun _ _ _ _ _ => (pe_tup (pa_cons (pv 7) (pa_cons pe_bl pa_nil))))) pa_nil)))))))))))))
      (pss_one (ps_ret (pv 3))))), ?_⟩
    refine ⟨by decide, fun l nl => ⟨_, rfl, (by show 2 ≤ sizeLine; decide), fun p np => ⟨(by show 1 ≤ sizeLine; decide), fun lf nlf => ⟨_, _, rfl, ?_⟩⟩⟩⟩
    have k0 : Keep [] H (upd (upd (upd H l (.lst [])) p (.tup [tv, .bl false])) lf (.lst [.ref p])) := Keep.new nlf (Keep.new np (Keep.new nl (Keep.refl _ _)))
    have m0 := m.keep0 k0
    have nlf0 : H lf = none := new_old (new_old nlf)
    have ngx : g ≠ x := (ne_of m.at_ hg (by intro z; cases z)).symm
    have nol := m.no nl
    have nof := m.no nlf0
    have nllf : l ≠ lf := ne_of_none (H := upd (upd H l (.lst [])) p (.tup [tv, .bl false])) (by rw [upd_ne (new_ne np).symm]; exact upd_same) nlf
    have h0 : CodeW K H x dx bm bd g l lf tv s t Γ (weight [(t, false)]) [some (.ref x), some tv, some (.ref g), some (.ref l), some (.ref lf), none, none, none] (upd (upd (upd H l (.lst [])) p (.tup [tv, .bl false])) lf (.lst [.ref p])) := by
      refine ⟨none, none, none, [(t, false)], [], s.2, [.ref p], [], rfl, rfl, ?_, ?_, ?_, ?_, ?_, ?_, k0.mono (by simp), m0, upd_same, ?_, ?_, .nil⟩
      · simp [weight]
      · simp [wnodes]
      · intro y hy
        rw [List.mem_singleton.mp hy]
        exact ⟨fun _ => htk, fun z => by cases z⟩
      · simpa [wnodes] using hs1
      · simpa [wnodes] using hs2
      · simp [stk]
      · refine .cons (At.new (xs := [tv, .bl false]) ?_ (.cons (ht.keep k0) (.cons (.bl _) .nil))) .nil
        rw [upd_ne (new_ne nlf).symm]
        exact upd_same
      · rw [upd_ne nllf, upd_ne (new_ne np).symm]
        exact upd_same
    refine ⟨CodeW K H x dx bm bd g l lf tv s t Γ, ⟨_, h0⟩, ?_⟩
    clear h0
    rintro j σ H1 ⟨o5, o6, o7, w, c0, d, xs, ys, rfl, rfl, hw1, hw2, hgd, hd1, hd2, he, k1, m1, hlf, hxs, hl, hys⟩
    refine ⟨_, rfl, by decide, fun q0 nq => ?_⟩
    have kq := Keep.new (o := .lst []) nq (Keep.refl [] _)
    refine ⟨lf, q0, _, rfl, rfl, .inl ⟨.of (kq.at_ _ _ (by simp) hlf), .of upd_same⟩, _, rfl, ?_⟩
    cases w with
    | nil =>
      cases hxs
      refine iff' rfl ?_
      have e1 : c0 = (codeOf Γ t s.2).1 := by rw [← he]; simp [stk]
      have e2 : d = (codeOf Γ t s.2).2 := by rw [← he]; simp [stk]
      rw [e1] at hys
      rw [e2] at m1
      exact ⟨_, rfl, q l ys _ (k1.trans (kq.mono (by simp))) nl (kq.at_ _ _ (by simp) hl) (hys.keep kq) (m1.keep0 kq)⟩
    | cons y w =>
      obtain ⟨t', b'⟩ := y
      have hne : xs ≠ [] := fun z => by
        rw [z] at hxs
        have := hxs.length
        simp at this
      refine ift (by
        cases xs with
        | nil => exact absurd rfl hne
        | cons a b => rfl) ?_
      refine ⟨fun σ' H' => ∃ m', m' < weight ((t', b') :: w) ∧ CodeW K H x dx bm bd g l lf tv s t Γ m' σ' H', fun _ _ h => h, ?_⟩
      have hlf1 := kq.at_ _ _ (by simp) hlf
      have hl1 := kq.at_ _ _ (by simp) hl
      have m2 := m1.keep0 kq
      have kk : Keep [x, bm, bd] H (upd H1 q0 (.lst [])) := k1.trans (kq.mono (by simp))
      have hx2 := hxs.keep kq
      have hy2 := hys.keep kq
      generalize upd H1 q0 (.lst []) = H2 at hlf1 hl1 m2 kk hx2 hy2
      rw [List.reverse_cons, List.map_append] at hx2
      obtain ⟨xs', zs, rfl, hx3, hz⟩ := hx2.split
      obtain ⟨v, zs', rfl, hv, hz'⟩ := hz.cons'
      cases hz'
      obtain ⟨p, tv', bv, rfl, hp, htv, hbv⟩ := hv.t2
      obtain rfl := hbv.b
      have klf : Keep [lf] H2 (upd H2 lf (.lst (xs' ++ [V.ref p]).dropLast)) := Keep.lst hlf1 (.inl (by simp)) (Keep.refl _ _)
      have edl : (xs' ++ [V.ref p]).dropLast = xs' := by simp
      refine ⟨_, rfl, .inl ⟨rfl, _, .of hlf1⟩, lf, _, .ref p, rfl, rfl, hlf1, (by simp), ?_⟩
      refine ⟨p, _, rfl, klf.sqT hp, rfl, _, _, rfl, _, _, rfl, rfl, ?_⟩
      rw [edl] at klf ⊢
      have hkl : Keep [x, bm, bd] H (upd H2 lf (.lst xs')) := klf.call (fun b z => .inr (by rw [List.mem_singleton.mp z]; exact nlf0)) kk
      have m3 := m2.keep klf (by simp [nof.1.symm]) (by simp [nof.2.1.symm]) (by simp [nof.2.2.symm])
      have hl3 := klf.at_ _ _ (by simp [nllf]) hl1
      have hx4 := hx3.keep klf
      have hy4 := hy2.keep klf
      have ht4 := htv.keep klf
      have hlf3 : upd H2 lf (.lst xs') lf = some (.lst xs') := upd_same
      generalize upd H2 lf (.lst xs') = H3 at hkl m3 hl3 hx4 hy4 ht4 hlf3
      clear hlf1 hl1 m2 kk hx2 hy2 klf hx3 hp htv hxs hys hlf hl k1 m1 kq
      have hgy := hgd _ (List.mem_cons_self ..)
      have hgw : StkGood Γ.length w := fun z hz => hgd z (List.mem_cons_of_mem _ hz)
      have hyl := hy4.length
      rw [List.length_map] at hyl
      have hxl := hx4.length
      rw [List.length_map, List.length_reverse] at hxl
      have lw := length_weight w
      have hn1 := nodes_pos t
      have hg3 : H3 g = some (.lst (intsV Γ)) := hkl.at_ _ _ (by simp [ngx, ngm, ngd]) hg
      have hz16 : 4002000 < sizeLine := by decide
      have hlen : c0.length + (stk Γ ((t', b') :: w) d).1.length ≤ 4002000 := by
        have := codeOf_len' Γ t s.2 hn
        rw [← he, List.length_append] at this
        exact this
      have hwt : weight w < weight ((t', b') :: w) := by
        have := nodes_pos t'
        cases b' <;> simp only [weight] <;> omega
      have done : ∀ (o5 o6 o7 : Option V) (cs : List Ins) (d' : DS) (ys' : List V) (H' : Hp), stk Γ ((t', b') :: w) d = (cs ++ (stk Γ w d').1, (stk Γ w d').2) → d'.1.length + wnodes w ≤ 1000000 → d'.2 + wnodes w ≤ 1000000 → wnodes w ≤ nodes t → Keep [x, bm, bd] H H' → MkOk K H' x dx bm bd (s.1, d') → H' lf = some (.lst xs') → AtL K H' xs' (w.reverse.map encS) → H' l = some (.lst ys') → AtL K H' ys' ((c0 ++ cs).map encI) →
          ∃ m', m' < weight ((t', b') :: w) ∧ CodeW K H x dx bm bd g l lf tv s t Γ m' [some (.ref x), some tv, some (.ref g), some (.ref l), some (.ref lf), o5, o6, o7] H' := by
        intro o5 o6 o7 cs d' ys' H' a1 a2 a3 a4 a5 a6 a7 a8 a9 a10
        refine ⟨weight w, hwt, o5, o6, o7, w, c0 ++ cs, d', xs', ys', rfl, rfl, by omega, a4, hgw, a2, a3, ?_, a5, a6, a7, a8, a9, a10⟩
        rw [← he, a1, List.append_assoc]
      cases t' with
      | «at» i =>
        cases b' with
        | true =>
          obtain ⟨k, ts, z⟩ := hgy.2 rfl
          cases z
        | false =>
          obtain ⟨a, u, y, rfl, hq, h1, h2⟩ := ht4.t2
          obtain rfl := h1.s
          obtain rfl := h2.i
          have hi : i < Γ.length := hgy.1 rfl
          refine ⟨_, rfl, a, _, 0, .str "at", rfl, rfl, hq, atI_nat (j := 0) rfl, rfl, _, rfl, ift (by decide +kernel) ?_⟩
          have e1 : Γ[Γ.length - 1 - i]? = some (Γ.getD (Γ.length - 1 - i) 0) := by
            rw [List.getElem?_eq_getElem (by omega), List.getD_eq_getElem?_getD, List.getElem?_eq_getElem (by omega)]
            rfl
          have ei : (((intsV Γ).length : Nat) : Int) - 1 - (i : Int) = ((Γ.length - 1 - i : Nat) : Int) := by
            rw [List.length_map]
            omega
          refine ⟨_, rfl, .inl ⟨rfl, _, .of hl3⟩, _, rfl, _, rfl, g, _, rfl, .inl (.of hg3), _, _, rfl, rfl, _, rfl, a, _, 1, .int (i : Int), rfl, rfl, hq, atI_nat (j := 1) rfl, _, _, rfl, rfl, ?_⟩
          refine ⟨g, _, ((Γ.length - 1 - i : Nat) : Int), .int ((Γ.getD (Γ.length - 1 - i) 0 : Nat) : Int), rfl, congrArg V.int ei, .of hg3, atI_nat (by rw [List.getElem?_map, e1]; rfl), (by show 2 ≤ sizeLine; decide), fun r nr => ?_⟩
          have k5 := Keep.new (o := .tup [.str "local", .int ((Γ.getD (Γ.length - 1 - i) 0 : Nat) : Int)]) nr (Keep.refl [] H3)
          have hl5 := k5.at_ _ _ (by simp) hl3
          refine ⟨l, ys, _, rfl, rfl, hl5, by omega, ?_⟩
          have k6 : Keep [l] _ (upd (upd H3 r (.tup [.str "local", .int ((Γ.getD (Γ.length - 1 - i) 0 : Nat) : Int)])) l (.lst (ys ++ [.ref r]))) := Keep.lst hl5 (.inl (by simp)) (Keep.refl _ _)
          have k7 : Keep [l] H3 (upd (upd H3 r (.tup [.str "local", .int ((Γ.getD (Γ.length - 1 - i) 0 : Nat) : Int)])) l (.lst (ys ++ [.ref r]))) := (k5.mono (by simp)).trans k6
          have ew : wnodes (((.at i : Tm), false) :: w) = 1 + wnodes w := by simp [wnodes, nodes]
          rw [ew] at hd1 hd2 hw2
          refine done _ _ _ [.loc (Γ.getD (Γ.length - 1 - i) 0)] d _ _ (by simp [stk, codeOf]) (by omega) (by omega) (by omega) (k7.call (fun b z => .inr (by rw [List.mem_singleton.mp z]; exact nl)) hkl) (m3.keep k7 (by simp [nol.1.symm]) (by simp [nol.2.1.symm]) (by simp [nol.2.2.symm])) (k7.at_ _ _ (by simp [nllf.symm]) hlf3) (hx4.keep k7) upd_same ?_
          rw [List.map_append]
          exact (hy4.keep k7).append (.cons (At.new (k6.at_ _ _ (by
            have : l ≠ r := ne_of_none hl3 nr
            simp [this.symm]) upd_same) (.cons (.str _) (.cons (.int _) .nil))) .nil)
      | clo fn b =>
        cases b' with
        | true =>
          obtain ⟨k, ts, z⟩ := hgy.2 rfl
          cases z
        | false =>
          have cut : ∃ (a : Addr) (y : V) (w0 : Str), tv' = .ref a ∧ SqT K H3 a [.str w0, y] ∧ (w0 = "fun" ∨ w0 = "wait") := by
            cases fn with
            | true =>
              obtain ⟨a, z, y, rfl, hq, h1, h2⟩ := id ht4.t2
              obtain rfl := h1.s
              exact ⟨a, y, _, rfl, hq, .inl rfl⟩
            | false =>
              obtain ⟨a, z, y, rfl, hq, h1, h2⟩ := id ht4.t2
              obtain rfl := h1.s
              exact ⟨a, y, _, rfl, hq, .inr rfl⟩
          obtain ⟨a, y, w0, rfl, hq, hw0⟩ := cut
          refine ⟨_, rfl, a, _, 0, .str w0, rfl, rfl, hq, atI_nat (j := 0) rfl, rfl, _, rfl, iff' (by rcases hw0 with rfl | rfl <;> decide +kernel) ?_⟩
          refine ⟨_, rfl, a, _, 0, .str w0, rfl, rfl, hq, atI_nat (j := 0) rfl, by decide, fun p2 np2 => ?_⟩
          refine ⟨p2, _, rfl, .inr (.of upd_same), rfl, rfl, _, rfl, ift (by rcases hw0 with rfl | rfl <;> decide +kernel) ?_⟩
          have kp := Keep.new (o := .tup [.str "fun", .str "wait"]) np2 (Keep.refl [] H3)
          have m5 := m3.keep0 kp
          have hl5 := kp.at_ _ _ (by simp) hl3
          have hg5 := kp.at_ _ _ (by simp) hg3
          have hlf5 := kp.at_ _ _ (by simp) hlf3
          have ew : wnodes ((.clo fn b, false) :: w) = nodes (.clo fn b) + wnodes w := by simp [wnodes]
          rw [ew] at hd1 hd2 hw2
          have hnc : 2 ≤ nodes (.clo fn b) := by
            have := nodes_pos b
            simp only [nodes]
            omega
          refine ⟨_, rfl, .inl ⟨rfl, _, .of hl5⟩, _, rfl, x, dx, _, rfl, m5.at_, kF_no4, _, rfl, _, rfl, ?_⟩
          refine ⟨x, dx, bm, bd, g, (s.1, d), .ref a, fn, b, Γ, rfl, m5, ht4.keep kp, hg5, ngm, ngd, (by show d.2 + 1 ≤ 1000000; omega), (by show d.1.length < sizeLine; omega), (by omega), fun l2 ys2 H5 k5 nl2 hl2 hys2 m6 => ?_⟩
          have hl6 := k5.at_ _ _ (by simp [nol.1, nol.2.1, nol.2.2]) hl5
          have hlf6 := k5.at_ _ _ (by simp [nof.1, nof.2.1, nof.2.2]) hlf5
          have ecl : stk Γ ((.clo fn b, false) :: w) d = ((codeOf Γ (.clo fn b) d).1 ++ (stk Γ w (codeOf Γ (.clo fn b) d).2).1, (stk Γ w (codeOf Γ (.clo fn b) d).2).2) := by simp [stk]
          have hl2n := hys2.length
          rw [List.length_map] at hl2n
          rw [ecl, List.length_append] at hlen
          refine ⟨l, l2, _, _, rfl, rfl, hl6, hl2, (by show ys.length + ys2.length ≤ sizeLine; have : ys2.length = (codeOf Γ (.clo fn b) d).1.length := hl2n; omega), ?_⟩
          have k6 : Keep [l] H5 (upd H5 l (.lst (ys ++ ys2))) := Keep.lst hl6 (.inl (by simp)) (Keep.refl _ _)
          have k8 : Keep [x, bm, bd] H (upd H5 l (.lst (ys ++ ys2))) := k6.call (fun b z => .inr (by rw [List.mem_singleton.mp z]; exact nl)) (hkl.trans ((kp.mono (by simp)).trans k5))
          have bdc := (show (codeOf Γ (.clo fn b) d).2.1.length = d.1.length + 1 ∧ (codeOf Γ (.clo fn b) d).2.2 = d.2 + 1 by simp [codeOf])
          refine done _ _ _ (codeOf Γ (.clo fn b) d).1 (codeOf Γ (.clo fn b) d).2 _ _ ecl (by omega) (by omega) (by omega) k8 (m6.keep k6 (by simp [nol.1.symm]) (by simp [nol.2.1.symm]) (by simp [nol.2.2.symm])) (k6.at_ _ _ (by simp [nllf.symm]) hlf6) (((hx4.keep kp).keep k5).keep k6) upd_same ?_
          rw [List.map_append]
          exact (((hy4.keep kp).keep k5).keep k6).append (hys2.keep k6)
      | nd k ts =>
        have cut : ∃ (a : Addr) (zs : List V) (w0 : Str), tv' = .ref a ∧ SqT K H3 a (.str w0 :: zs) ∧ (w0 = "shape" ∨ w0 = "call" ∨ w0 = "give" ∨ w0 = "go" ∨ w0 = "dull") := by
          rcases nd_cut k ts with ⟨n, w0, e, _, hw⟩ | ⟨w0, e, _, hw⟩
          · have z := ht4
            rw [show encT (Tm.nd k ts, b').1 = _ from e] at z
            obtain ⟨a, u, y, y2, rfl, hq, h1, h2, _⟩ := z.t3
            obtain rfl := h1.s
            exact ⟨a, _, _, rfl, hq, hw.elim .inl fun z => .inr (.inl z)⟩
          · have z := ht4
            rw [show encT (Tm.nd k ts, b').1 = _ from e] at z
            obtain ⟨a, us, rfl, hq, hus⟩ := z.t
            obtain ⟨u, us', rfl, h1, _⟩ := hus.cons'
            obtain rfl := h1.s
            exact ⟨a, _, _, rfl, hq, .inr (.inr hw)⟩
        obtain ⟨a, zs, w0, rfl, hq, hw0⟩ := cut
        refine ⟨_, rfl, a, _, 0, .str w0, rfl, rfl, hq, atI_nat (j := 0) rfl, rfl, _, rfl, iff' (by rcases hw0 with rfl | rfl | rfl | rfl | rfl <;> decide +kernel) ?_⟩
        refine ⟨_, rfl, a, _, 0, .str w0, rfl, rfl, hq, atI_nat (j := 0) rfl, by decide, fun p2 np2 => ?_⟩
        refine ⟨p2, _, rfl, .inr (.of upd_same), rfl, rfl, _, rfl, iff' (by rcases hw0 with rfl | rfl | rfl | rfl | rfl <;> decide +kernel) ?_⟩
        have kp := Keep.new (o := .tup [.str "fun", .str "wait"]) np2 (Keep.refl [] H3)
        have m5 := m3.keep0 kp
        have hl5 := kp.at_ _ _ (by simp) hl3
        have hlf5 := kp.at_ _ _ (by simp) hlf3
        have ht5 := ht4.keep kp
        have hx5 := hx4.keep kp
        have hy5 := hy4.keep kp
        have hkp := hkl.trans (kp.mono (S' := [x, bm, bd]) (by simp))
        generalize upd H3 p2 (.tup [.str "fun", .str "wait"]) = H5 at m5 hl5 hlf5 ht5 hx5 hy5 hkp
        cases b' with
        | true =>
          refine ⟨_, rfl, _, rfl, ift rfl ?_⟩
          refine ⟨_, rfl, .inl ⟨rfl, _, .of hl5⟩, _, rfl, .ref a, k, ts, rfl, ht5, fun r H6 k6 hr => ?_⟩
          have hl6 := k6.at_ _ _ (by simp) hl5
          refine ⟨l, ys, _, rfl, rfl, hl6, by omega, ?_⟩
          have k7 : Keep [l] H6 (upd H6 l (.lst (ys ++ [.ref r]))) := Keep.lst hl6 (.inl (by simp)) (Keep.refl _ _)
          have ew : wnodes ((.nd k ts, true) :: w) = wnodes w := by simp [wnodes]
          rw [ew] at hd1 hd2 hw2
          refine done _ _ _ [.own k ts.length] d _ _ (by simp [stk]) (by omega) (by omega) (by omega) (k7.call (fun b z => .inr (by rw [List.mem_singleton.mp z]; exact nl)) (hkp.trans (k6.mono (by simp)))) ((m5.keep0 k6).keep k7 (by simp [nol.1.symm]) (by simp [nol.2.1.symm]) (by simp [nol.2.2.symm])) (k7.at_ _ _ (by simp [nllf.symm]) (k6.at_ _ _ (by simp) hlf5)) ((hx5.keep k6).keep k7) upd_same ?_
          rw [List.map_append]
          exact ((hy5.keep k6).keep k7).append (.cons (hr.keep k7) .nil)
        | false =>
          refine ⟨_, rfl, _, rfl, iff' rfl ?_⟩
          have ew : wnodes ((.nd k ts, false) :: w) = 1 + nodesL ts + wnodes w := by simp [wnodes, nodes]
          have ew2 : weight ((.nd k ts, false) :: w) = 2 * (1 + nodesL ts) + weight w := by simp [weight, nodes]
          rw [ew] at hd1 hd2 hw2
          rw [ew2] at hw1
          have hlt := length_nodesL ts
          have ew3 : weight (ts.map (·, false) ++ (.nd k ts, true) :: w) = 2 * nodesL ts + (1 + weight w) := by rw [weight_terms]; simp [weight]
          refine ⟨_, rfl, .inl ⟨rfl, _, .of hlf5⟩, _, rfl, (by show 2 ≤ sizeLine; decide), fun r nr => ?_⟩
          have kr := Keep.new (o := .tup [.ref a, .bl true]) nr (Keep.refl [] H5)
          have hlf6 := kr.at_ _ _ (by simp) hlf5
          refine ⟨lf, xs', _, rfl, rfl, hlf6, by omega, ?_⟩
          have kf : Keep [lf] (upd H5 r (.tup [.ref a, .bl true])) (upd (upd H5 r (.tup [.ref a, .bl true])) lf (.lst (xs' ++ [.ref r]))) := Keep.lst hlf6 (.inl (by simp)) (Keep.refl _ _)
          have krf : Keep [lf] H5 (upd (upd H5 r (.tup [.ref a, .bl true])) lf (.lst (xs' ++ [.ref r]))) := (kr.mono (by simp)).trans kf
          have hx6 : AtL K (upd (upd H5 r (.tup [.ref a, .bl true])) lf (.lst (xs' ++ [.ref r]))) (xs' ++ [.ref r]) ((((.nd k ts, true) :: w).reverse).map encS) := by
            rw [List.reverse_cons, List.map_append]
            refine (hx5.keep krf).append (.cons (At.new (xs := [.ref a, .bl true]) (kf.at_ _ _ ?_ upd_same) (.cons (ht5.keep krf) (.cons (.bl _) .nil))) .nil)
            have : lf ≠ r := ne_of_none hlf5 nr
            simp [this.symm]
          have hlf7 : upd (upd H5 r (.tup [.ref a, .bl true])) lf (.lst (xs' ++ [.ref r])) lf = some (.lst (xs' ++ [.ref r])) := upd_same
          have hl7 := krf.at_ _ _ (by simp [nllf]) hl5
          have m7 := m5.keep krf (by simp [nof.1.symm]) (by simp [nof.2.1.symm]) (by simp [nof.2.2.symm])
          have hy7 := hy5.keep krf
          have ht7 := ht5.keep krf
          have hk7 : Keep [x, bm, bd] H (upd (upd H5 r (.tup [.ref a, .bl true])) lf (.lst (xs' ++ [.ref r]))) := krf.call (fun b z => .inr (by rw [List.mem_singleton.mp z]; exact nlf0)) hkp
          generalize upd (upd H5 r (.tup [.ref a, .bl true])) lf (.lst (xs' ++ [.ref r])) = H7 at hx6 hlf7 hl7 m7 hy7 ht7 hk7
          refine ⟨_, rfl, .inl ⟨rfl, _, .of hlf7⟩, _, rfl, .ref a, k, ts, rfl, ht7, fun u H8 k8 hu => ?_⟩
          obtain ⟨_, us, eu, hus, hua⟩ := hu.t
          cases eu
          have hul := hua.length
          rw [encTs_map, List.length_map] at hul
          refine ⟨u, us, rfl, hus, fun r2 nr2 => ?_⟩
          have k9 := k8.new_ (o := .tup us.reverse) nr2
          have hr9 : upd H8 r2 (.tup us.reverse) r2 = some (.tup us.reverse) := upd_same
          have hua9 : AtL K (upd H8 r2 (.tup us.reverse)) us.reverse (encTs ts).reverse := (hua.keep (Keep.new nr2 (Keep.refl [] _))).reverse
          generalize upd H8 r2 (.tup us.reverse) = H9 at k9 hr9 hua9
          refine ⟨r2, rfl, ⟨_, .of hr9⟩, fun D nD => lc_data (K := K) (walk_tup (xs := us.reverse)) ((ts.reverse.map (·, false)).map encS) (by simp [hul]) (by rw [List.length_reverse]; omega) nD (fun H k => .of (k.tup _ _ hr9)) (fun i v H3 H4 e Qn F hi k3 y3 e3 hQ => ?_) (fun zs H10 k10 hD hzs => ?_)⟩
          · obtain ⟨rfl, ev⟩ := y3
            obtain ⟨e', he', hv'⟩ := hua9.get' ev
            rw [List.map_map, List.getElem?_map] at e3
            rw [encTs_map, ← List.map_reverse, List.getElem?_map] at he'
            cases hti : ts.reverse[i]? with
            | none => rw [hti] at e3; cases e3
            | some t1 =>
              rw [hti] at e3 he'
              cases e3
              cases he'
              refine ⟨rfl, tyes ?_⟩
              exact ⟨_, rfl, (by show 2 ≤ sizeLine; decide), fun p np => hQ _ _ (Keep.new np (Keep.refl _ _)) (At.new upd_same (.cons (hv'.keep (k3.new_ np)) (.cons (.bl _) .nil)))⟩
          · have hlz := hzs.length
            simp only [List.length_map, List.length_reverse] at hlz
            have k11 := k9.trans k10
            have hlf8 := k11.at_ _ _ (by simp) hlf7
            have hl8 := k11.at_ _ _ (by simp) hl7
            refine ⟨lf, D, _, _, rfl, rfl, hlf8, hD, (by simp only [List.length_append, List.length_singleton]; omega), ?_⟩
            have kz : Keep [lf] H10 (upd H10 lf (.lst (xs' ++ [.ref r] ++ zs))) := Keep.lst hlf8 (.inl (by simp)) (Keep.refl _ _)
            have kz7 : Keep [lf] H7 (upd H10 lf (.lst (xs' ++ [.ref r] ++ zs))) := (k11.mono (by simp)).trans kz
            refine ⟨weight (ts.map (·, false) ++ (.nd k ts, true) :: w), ?_, some (.ref a), some (.bl false), o7, ts.map (·, false) ++ (.nd k ts, true) :: w, c0, d, _, ys, rfl, rfl, by omega, ?_, ?_, ?_, ?_, ?_, kz7.call (fun b z => .inr (by rw [List.mem_singleton.mp z]; exact nlf0)) hk7, m7.keep kz7 (by simp [nof.1.symm]) (by simp [nof.2.1.symm]) (by simp [nof.2.2.symm]), upd_same, ?_, kz7.at_ _ _ (by simp [nllf]) hl7, hy7.keep kz7⟩
            · rw [ew3, ew2]
              omega
            · rw [wnodes_terms]
              simp only [wnodes]
              omega
            · intro z hz
              rcases List.mem_append.mp hz with hz | hz
              · obtain ⟨t1, m1, rfl⟩ := List.mem_map.mp hz
                exact ⟨fun _ => TmsOk.mem (hgy.1 rfl) m1, fun z => by cases z⟩
              · rcases List.mem_cons.mp hz with rfl | hz
                · exact ⟨fun z => (by cases z), fun _ => ⟨k, ts, rfl⟩⟩
                · exact hgw z hz
            · rw [wnodes_terms]
              simp only [wnodes]
              omega
            · rw [wnodes_terms]
              simp only [wnodes]
              omega
            · rw [← stk_open]
              exact he
            · rw [List.reverse_append, List.map_append, ← List.map_reverse]
              exact (hx6.keep kz7).append (hzs.keep kz)
end
end K46
/-! K46G6 -/
set_option maxHeartbeats 4000000
namespace K46
open PySem PySem.Spec PyProof.Rows L2 C8
section
variable {P : Program} {w : World} {K : PySem.W.Frag} {mg : Str → Option Value} {base : Heap}
theorem rgV_nat (n : Nat) : rgV 0 (n : Int) = intsV (List.range n) := by
  unfold rgV intsV
  have : ((n : Int) - 0).toNat = n := by omega
  rw [this]
  refine List.map_congr_left fun i _ => ?_
  rw [Int.zero_add]
theorem tell_at {H : Hp} (T : Tx K mg) : At K H (.ref (He.ga K "TELL")) (encI .tell) := .tup (T.t_TELL H) (.cons (.str _) .nil)
theorem dull_at {H : Hp} (T : Tx K mg) : At K H (.ref (He.ga K "DULL")) (encI (.own .dull 0)) := .tup (T.t_DULL H) (.cons (.str _) .nil)
def sp_add_due (K : PySem.W.Frag) : Sp := fun vs H Q _ => ∃ (x dx bm bd : Addr) (s : MS) (fin : List Bk) (n' : Nat), vs = [.ref x] ∧ MkOk K H x dx bm bd s ∧ DueOk s.2.1 ∧ s.2.2 + dueW s.2.1 ≤ 1000000 ∧ s.1.length + dueW s.2.1 ≤ 1000000 ∧ AddDue s (fin, ([], n')) ∧ ∀ H', Keep [x, bm, bd] H H' → MkOk K H' x dx bm bd (fin, ([], n')) → Q .non H'
theorem ok_add_due (T : Tx K mg) : Met P w K mg base 4 (CK K) "add_due" (sp_add_due K) [] := by
  refine met_mk T.f_Maker_add_due T.c_Maker T.m_Maker_add_due sc_Maker_add_due (fun _ _ _ _ _ _ us hl => match us, hl with | [_], _ => rfl) (fun vs H Q E h => ?_) (fun cdv A outer s0 H vs Q E hr h => ?_)
  · obtain ⟨x, dx, bm, bd, s, fin, n', rfl, _⟩ := h
    rfl
  · obtain ⟨x, dx, bm, bd, s, fin, n', rfl, m, hdo, hb1, hb2, had, q⟩ := h
    have c_Maker_code_of := ok_code_of (P := P) (w := w) (base := base) T
    have c_Maker_add_block := ok_add_block (P := P) (w := w) (base := base) T
    refine ⟨_, (pss_one (ps_while PassesOwn.never (pt_cmpR (op_ne0 hr.units0) (pe_fld (pv 0) rfl) (pe_lst pa_nil) (nomark _)) (pss_cons (ps_asg (pe_bm0 PySem.F.plainAttrs_list PySem.F.slot_list_pop PySem.F.type_list_pop mt_pop (pe_fld (pv 0) rfl)) (pg_tup rfl (pgs_cons (pg_name (i := 1) sc_Maker_add_due.nd rfl (Or.inl rfl)) (pgs_cons (pg_name (i := 2) sc_Maker_add_due.nd rfl (Or.inl rfl)) (pgs_cons (pg_name (i := 3) sc_Maker_add_due.nd rfl (Or.inl rfl)) pgs_nil)))))
      (pss_one (ps_expr (pe_mt c_Maker_add_block hr (by omega) (pv 0) (pa_cons (pv 1) (pa_cons (pv 2) (pa_cons (pe_op op_cat (pe_mt c_Maker_code_of hr (by omega) (pv 0) (pa_cons (pv 3) (pa_cons (pe_listRg rfl rfl T.z_list (prg_1 rfl T.z_range (pv 2))) pa_nil))) (pe_lst (pa_cons (pe_glob (v := .ref _) rfl T.g_TELL rfl) pa_nil))) pa_nil))))))))), ?_⟩
    refine ⟨fun j σ H' => ∃ (o1 o2 o3 : Option V) (s' : MS), σ = [some (.ref x), o1, o2, o3] ∧ j = dueW s'.2.1 ∧ Keep [x, bm, bd] H H' ∧ MkOk K H' x dx bm bd s' ∧ DueOk s'.2.1 ∧ s'.2.2 + dueW s'.2.1 ≤ 1000000 ∧ s'.1.length + dueW s'.2.1 ≤ 1000000 ∧ AddDue s' (fin, ([], n')), ⟨_, none, none, none, s, rfl, rfl, Keep.refl _ _, m, hdo, hb1, hb2, had⟩, ?_⟩
    rintro j σ H1 ⟨o1, o2, o3, ⟨ms, d, n⟩, rfl, rfl, k1, m1, hdo, hb1, hb2, had⟩
    refine ⟨_, rfl, x, _, dx, _, _, rfl, m1.at_, T.c_Maker, T.n_Maker_blocks_due, kF_due, by decide, fun q0 nq => ?_⟩
    have kq := Keep.new (o := .lst []) nq (Keep.refl [] _)
    obtain ⟨us, h5, h6⟩ := id m1.due
    refine ⟨bd, q0, _, rfl, rfl, .inl ⟨.of (kq.at_ _ _ (by simp) h5), .of upd_same⟩, _, rfl, ?_⟩
    have m2 := m1.keep0 kq
    have kk : Keep [x, bm, bd] H (upd H1 q0 (.lst [])) := k1.trans (kq.mono (by simp))
    rcases List.eq_nil_or_concat d with rfl | ⟨d', ⟨nm, many, b⟩, e⟩
    · cases h6
      refine iff' rfl ?_
      have e := had.nil' rfl
      rw [e] at m2
      exact q _ kk m2
    · rw [List.concat_eq_append] at e
      subst e
      have hne : us ≠ [] := fun z => by
        rw [z] at h6
        have := h6.length
        simp at this
      refine ift (by
        cases us with
        | nil => exact absurd rfl hne
        | cons a b => rfl) ?_
      refine ⟨_, fun _ _ h => h, ?_⟩
      have h5q := kq.at_ _ _ (by simp) h5
      generalize upd H1 q0 (.lst []) = H2 at m2 kk h5q
      obtain ⟨m3, v, hv1, hv2⟩ := m2.pay h5q
      have nx := m2.nx
      have kd : Keep [bd] H2 (upd H2 bd (.lst us.dropLast)) := Keep.lst h5q (.inl (by simp)) (Keep.refl _ _)
      have k3 : Keep [x, bm, bd] H (upd H2 bd (.lst us.dropLast)) := kk.trans (kd.mono (by simp))
      replace hv2 := hv2.keep kd
      refine ⟨_, rfl, x, _, dx, _, _, rfl, m2.at_, T.c_Maker, T.n_Maker_blocks_due, kF_due, .inl ⟨rfl, _, .of h5q⟩, bd, us, v, rfl, rfl, h5q, hv1, ?_⟩
      generalize upd H2 bd (.lst us.dropLast) = H3 at m3 k3 hv2
      obtain ⟨u, y1, y2, y3, rfl, hu, z1, z2, z3⟩ := hv2.t3
      obtain rfl := z1.s
      obtain rfl := z2.i
      refine ⟨u, _, rfl, hu, rfl, _, _, rfl, _, _, rfl, _, _, rfl, rfl, ?_⟩
      have okb := hdo (nm, many, b) (by simp)
      have okd : DueOk d' := fun z hz => hdo z (by simp [hz])
      have hdw : dueW (d' ++ [(nm, many, b)]) = dueW d' + nodes b := by simp [dueW_append, dueW]
      simp only [hdw] at hb1 hb2
      have hdl := dueW_len d'
      have hsum := codeOf_sum (List.range many) b (d', n)
      have hbd := codeOf_bd (List.range many) b (d', n) (by rw [List.length_range]; exact okb.1) (by rw [List.length_range]; exact okb.2) okd
      have ok1 := okb.1
      have ok2 := okb.2
      simp only at ok1 ok2 hsum hbd
      have hmany : many ≤ 2000 := by omega
      have hnb := nodes_pos b
      refine ⟨_, rfl, x, dx, _, rfl, m3.at_, kF_no2, _, rfl, _, rfl, _, rfl, x, dx, _, rfl, m3.at_, kF_no3, _, rfl, _, rfl, _, rfl, .of_le (by decide) (by omega) (by decide) (by omega), fun g ng => ?_⟩
      have kg := Keep.new (o := .lst (rgV 0 (many : Int))) ng (Keep.refl [] H3)
      have nog := m3.no ng
      refine ⟨x, dx, bm, bd, g, (ms, (d', n)), y3, b, List.range many, rfl, m3.keep0 kg, z3.keep kg, by rw [← rgV_nat]; exact upd_same, nog.2.1, nog.2.2, by rw [List.length_range]; exact ok1, by rw [List.length_range]; exact ok2, (by show d'.length + nodes b ≤ 1000000; omega), (by show n + nodes b ≤ 1000000; omega), fun l ys H4 k4 nl hl hys m4 => ?_⟩
      have hlen := codeOf_len' (List.range many) b (d', n) (by rw [List.length_range]; exact ok2)
      have hyl := hys.length
      rw [List.length_map] at hyl
      replace hyl : ys.length = (codeOf (List.range many) b (d', n)).1.length := hyl
      have hz16 : 4002000 < sizeLine := by decide
      have hz1 : 1000000 < sizeLine := by decide
      refine ⟨(by show 1 ≤ sizeLine; decide), fun p np => ?_⟩
      have kp := Keep.new (o := .lst [.ref (He.ga K "TELL")]) np (Keep.refl [] H4)
      refine ⟨l, p, _, _, rfl, rfl, kp.at_ _ _ (by simp) hl, upd_same, (by show ys.length + 1 ≤ sizeLine; omega), fun r nr => ?_⟩
      have kr := kp.new_ (o := .lst (ys ++ [.ref (He.ga K "TELL")])) nr
      refine ⟨x, dx, bm, bd, r, (ms, (codeOf (List.range many) b (d', n)).2), nm, many, _, (codeOf (List.range many) b (d', n)).1 ++ [.tell], rfl, m4.keep0 kr, upd_same, ?_, (by show ms.length < sizeLine; omega), fun H5 k5 m5 => ?_⟩
      · rw [List.map_append]
        exact (hys.keep kr).append (.cons (tell_at T) .nil)
      · refine ⟨dueW (codeOf (List.range many) b (d', n)).2.1, ?_, _, _, _, _, rfl, rfl, k3.trans (((kg.mono (by simp)).trans k4).trans ((kr.mono (by simp)).trans (k5.mono (by simp)))), m5, hbd.2.2.2.2, ?_, ?_, had.snoc' _ _ _ _ _ _ rfl⟩
        · simp only [hdw]
          omega
        · simp only [hdw]
          omega
        · simp only [hdw, List.length_append, List.length_singleton]
          omega
end
end K46
/-! K46G7 -/
set_option maxHeartbeats 4000000
namespace K46
open PySem PySem.Spec PyProof.Rows L2 C8
section
variable {P : Program} {w : World} {K : PySem.W.Frag} {mg : Str → Option Value} {base : Heap}
def sp_rows_code (K : PySem.W.Frag) (n : Nat) : Sp := fun vs H Q _ => ∃ (x dx bm bd : Addr) (s : MS) (many : Nat) (rv : V) (rs : List Rw), vs = [.ref x, .int (many : Int), rv] ∧ (rs.length < n ∧ rs.length ≤ 1000) ∧ MkOk K H x dx bm bd s ∧ At K H rv (.tup (rs.map encR)) ∧ (∀ r ∈ rs, RwOk many r) ∧ many ≤ 1000 ∧ DueOk s.2.1 ∧ s.2.2 + dueW s.2.1 + rowsW rs ≤ 1000000 ∧ s.1.length + rowsW rs ≤ 1000000 ∧
  ∀ l ys H', Keep [x, bm, bd] H H' → H l = none → H' l = some (.lst ys) → AtL K H' ys ((rowsC many rs s).1.map encI) → MkOk K H' x dx bm bd (rowsC many rs s).2 → Q (.ref l) H'
def furtherC (many : Nat) (rs : List Rw) (s : MS) : List Ins × MS :=
  ((List.range many).map .loc ++ [.close (dot (s.2.2 + 1)) many, .own .go 0, .tell], ((rowsC many rs (s.1, (s.2.1, s.2.2 + 1))).2.1 ++ [⟨dot (s.2.2 + 1), many, (rowsC many rs (s.1, (s.2.1, s.2.2 + 1))).1⟩], (rowsC many rs (s.1, (s.2.1, s.2.2 + 1))).2.2))
def sp_further_code (K : PySem.W.Frag) (n : Nat) : Sp := fun vs H Q _ => ∃ (x dx bm bd : Addr) (s : MS) (many : Nat) (rv : V) (rs : List Rw), vs = [.ref x, .int (many : Int), rv] ∧ (rs.length < n ∧ rs.length ≤ 1000) ∧ MkOk K H x dx bm bd s ∧ At K H rv (.tup (rs.map encR)) ∧ (∀ r ∈ rs, RwOk many r) ∧ many ≤ 1000 ∧ DueOk s.2.1 ∧ s.2.2 + 1 + dueW s.2.1 + rowsW rs ≤ 1000000 ∧ s.1.length + rowsW rs ≤ 1000000 ∧
  ∀ l ys H', Keep [x, bm, bd] H H' → H l = none → H' l = some (.lst ys) → AtL K H' ys ((furtherC many rs s).1.map encI) → MkOk K H' x dx bm bd (furtherC many rs s).2 → Q (.ref l) H'
theorem ok_further_code (T : Tx K mg) (n : Nat) (c_Maker_rows_code : Met P w K mg base (2 * n + 5) (CK K) "rows_code" (sp_rows_code K n) []) : Met P w K mg base (2 * n + 6) (CK K) "further_code" (sp_further_code K n) [] := by
  refine met_mk T.f_Maker_further_code T.c_Maker T.m_Maker_further_code sc_Maker_further_code (fun _ _ _ _ _ _ us hl => match us, hl with | [_, _, _], _ => rfl) (fun vs H Q E h => ?_) (fun cdv A outer s0 H vs Q E hr h => ?_)
  · obtain ⟨x, dx, bm, bd, s, many, rv, rs, rfl, _⟩ := h
    rfl
  · obtain ⟨x, dx, bm, bd, s, many, rv, rs, rfl, hn, m, hrv, hok, hm, hdo, hb1, hb2, q⟩ := h
    have c_Maker_new_name := ok_new_name (P := P) (w := w) (base := base) T
    have c_Maker_add_block := ok_add_block (P := P) (w := w) (base := base) T
    refine ⟨_, (pss_cons (ps_set (i := 3) sc_Maker_further_code.nd rfl (Or.inl rfl) (pe_mt0 c_Maker_new_name hr (by omega) (pv 0)))
      (pss_cons (ps_expr (pe_mt c_Maker_add_block hr (by omega) (pv 0) (pa_cons (pv 3) (pa_cons (pv 1) (pa_cons (pe_mt c_Maker_rows_code hr (by omega) (pv 0) (pa_cons (pv 1) (pa_cons (pv 2) pa_nil))) pa_nil)))))
      (pss_one (ps_ret (pe_op op_cat (pe_lc (g := (gName 4)) rfl sc_Maker_further_code.nd (pi_range1 rfl T.z_range (pa_cons (pv 1) pa_nil)) (blkOk_by (own := [("k", 4)]) (N := ["self", "many", "others", "name", "k"]) (sc := defScope s_Maker_further_code) (by decide +kernel)) (fun _ _ _ _ _ => (pg_name (i := 4) sc_Maker_further_code.nd rfl (Or.inl rfl))) (fun _ _ _ _ _ => pts_nil) (fun _ _ _ _ _ => (pe_tup (pa_cons pe_str (pa_cons (pv 4) pa_nil))))) (pe_lst (pa_cons (pe_tup (pa_cons pe_str (pa_cons (pv 3) (pa_cons (pv 1) pa_nil)))) (pa_cons (pe_tup (pa_cons pe_str pa_nil)) (pa_cons (pe_glob (v := .ref _) rfl T.g_TELL rfl) pa_nil))))))))), ?_⟩
    have hz1 : 1000000 < sizeLine := by decide
    refine ⟨_, rfl, x, dx, _, rfl, m.at_, kF_no1, ?_⟩
    refine ⟨x, dx, bm, bd, s, rfl, m, by omega, fun H1 k1 m1 => ?_⟩
    refine ⟨_, rfl, x, dx, _, rfl, m1.at_, kF_no2, _, rfl, _, rfl, _, rfl, x, dx, _, rfl, m1.at_, kF_no6, _, rfl, _, rfl, ?_⟩
    have hsum := rowsC_sum many rs (s.1, (s.2.1, s.2.2 + 1))
    have hbd := rowsC_bd many rs (s.1, (s.2.1, s.2.2 + 1)) hok hdo
    simp only at hsum hbd
    refine ⟨x, dx, bm, bd, (s.1, (s.2.1, s.2.2 + 1)), many, rv, rs, rfl, hn, m1, hrv.keep k1, hok, hm, hdo, (by show s.2.2 + 1 + dueW s.2.1 + rowsW rs ≤ 1000000; omega), hb2, fun l ys H2 k2 nl hl hys m2 => ?_⟩
    refine ⟨x, dx, bm, bd, l, _, _, many, ys, _, rfl, m2, hl, hys, by omega, fun H3 k3 m3 => ?_⟩
    have k : Keep [x, bm, bd] H H3 := (k1.mono (by simp)).trans (k2.trans (k3.mono (by simp)))
    have emn : (many : Int).toNat = many := by omega
    refine ⟨_, rfl, (many : Int), rfl, by omega, by omega, ?_⟩
    rw [emn]
    refine fun D nD => lc_data (K := K) (walk_range (lo := 0) (n := many)) ((List.range many).map fun k => encI (.loc k)) (by simp) (by omega) nD (fun _ _ => trivial) (fun i v H4 H5 d Qn F hi k4 y4 e4 hQ => ?_) (fun zs H4 k4 hD hzs => ?_)
    · obtain ⟨rfl, rfl⟩ := y4
      rw [List.getElem?_map, List.getElem?_range (by omega)] at e4
      cases e4
      refine ⟨rfl, tyes ?_⟩
      refine ⟨_, rfl, (by show 2 ≤ sizeLine; decide), fun p np => hQ _ _ (Keep.new np (Keep.refl _ _)) (At.new upd_same (.cons (.str _) (.cons ?_ .nil)))⟩
      show At K _ (V.int (0 + (i : Int))) _
      rw [Int.zero_add]
      exact .int _
    · have hlz := hzs.length
      rw [List.length_map, List.length_range] at hlz
      refine ⟨_, rfl, _, rfl, (by show 3 ≤ sizeLine; decide), fun p np => ⟨(by show 1 ≤ sizeLine; decide), fun p2 np2 => ⟨(by show 3 ≤ sizeLine; decide), fun p3 np3 => ?_⟩⟩⟩
      have k5 := Keep.new (o := .lst [.ref p, .ref p2, .ref (He.ga K "TELL")]) np3 (Keep.new np2 (Keep.new np (Keep.refl [] H4)))
      refine ⟨D, p3, _, _, rfl, rfl, k5.at_ _ _ (by simp) hD, upd_same, (by show zs.length + 3 ≤ sizeLine; omega), fun r nr => ?_⟩
      have k6 := k5.new_ (o := .lst (zs ++ [.ref p, .ref p2, .ref (He.ga K "TELL")])) nr
      have hr3 : H3 r = none := k4.free (new_old (new_old (new_old nr)))
      have nor := m3.no hr3
      have k7 := k.trans ((k4.trans k6).mono (S' := [x, bm, bd]) (by simp))
      refine q r _ _ k7 (k.none_of (by simp [nor.1, nor.2.1, nor.2.2]) hr3) upd_same ?_ (m3.keep0 (k4.trans k6))
      have e : ((furtherC many rs s).1.map encI) = (List.range many).map (fun k => encI (.loc k)) ++ [.tup [.str "close", .str (dot (s.2.2 + 1)), .int (many : Int)], .tup [.str "go"], encI .tell] := by
        simp [furtherC, encI]
      rw [e]
      refine (hzs.keep k6).append (.cons (At.new (xs := [.str "close", .str (dot (s.2.2 + 1)), .int (many : Int)]) ?_ (.cons (.str _) (.cons (.str _) (.cons (.int _) .nil)))) (.cons (At.new (xs := [.str "go"]) ?_ (.cons (.str _) .nil)) (.cons (tell_at T) .nil)))
      · exact (Keep.new nr (Keep.new np3 (Keep.new np2 (Keep.refl [] _)))).at_ _ _ (by simp) upd_same
      · exact (Keep.new nr (Keep.new np3 (Keep.refl [] _))).at_ _ _ (by simp) upd_same
end
end K46
/-! K46G8 -/
set_option maxHeartbeats 4000000
namespace K46
open PySem PySem.Spec PyProof.Rows L2 C8
section
variable {P : Program} {w : World} {K : PySem.W.Frag} {mg : Str → Option Value} {base : Heap}
theorem addAsks_len (f : Nat) : ∀ (as : List (Nat × Str)) (l : Nat), (addAsks f l as).length = as.length
  | [], _ => rfl
  | (k, n) :: as, l => congrArg Nat.succ (addAsks_len f as (l + 1))
theorem addAsks_get (f : Nat) : ∀ (as : List (Nat × Str)) (l i : Nat), (addAsks f l as)[i]? = as[i]?.map fun x => .ask x.1 x.2 (l + i + 1) f
  | [], _, i => by simp [addAsks]
  | (k, n) :: as, l, 0 => rfl
  | (k, n) :: as, l, i + 1 => by
    have := addAsks_get f as (l + 1) i
    simp only [addAsks, List.getElem?_cons_succ, this]
    have e : l + 1 + i + 1 = l + (i + 1) + 1 := by omega
    rw [e]
theorem no_rows (T : Tx K mg) : Met P w K mg base 5 (CK K) "rows_code" (sp_rows_code K 0) [] := by
  refine met_mk T.f_Maker_rows_code T.c_Maker T.m_Maker_rows_code sc_Maker_rows_code (fun _ _ _ _ _ _ us hl => match us, hl with | [_, _, _], _ => rfl) (fun vs H Q E h => ?_) (fun cdv A outer s0 H vs Q E hr h => ?_)
  · obtain ⟨x, dx, bm, bd, s, many, rv, rs, rfl, _⟩ := h
    rfl
  · obtain ⟨x, dx, bm, bd, s, many, rv, rs, rfl, hn, _⟩ := h
    exact absurd hn.1 (Nat.not_lt_zero _)
theorem ok_rows_code (T : Tx K mg) : ∀ n, Met P w K mg base (2 * n + 5) (CK K) "rows_code" (sp_rows_code K n) []
  | 0 => no_rows T
  | n + 1 => by
    have c_Maker_further_code := ok_further_code (P := P) (w := w) (base := base) T n (ok_rows_code T n)
    have c_Maker_code_of := ok_code_of (P := P) (w := w) (base := base) T
    have c_asks_in := ok_asks_in (P := P) (w := w) (base := base) T 3
    refine met_mk T.f_Maker_rows_code T.c_Maker T.m_Maker_rows_code sc_Maker_rows_code (fun _ _ _ _ _ _ us hl => match us, hl with | [_, _, _], _ => rfl) (fun vs H Q E h => ?_) (fun cdv A outer s0 H vs Q E hr h => ?_)
    · obtain ⟨x, dx, bm, bd, s, many, rv, rs, rfl, _⟩ := h
      rfl
    · obtain ⟨x, dx, bm, bd, s, many, rv, rs, rfl, hn, m, hrv, hok, hm, hdo, hb1, hb2, q⟩ := h
      refine ⟨_, (pss_cons (ps_if (pt_cmpR (op_eq0 hr.units0) (pv 2) (pe_tup pa_nil) (nomark _)) (pss_one (ps_ret (pe_lst (pa_cons (pe_glob (v := .ref _) rfl T.g_DULL rfl) (pa_cons (pe_glob (v := .ref _) rfl T.g_TELL rfl) pa_nil))))) pss_nil)
      (pss_cons (ps_asg (pv 2) (pg_tupS (n := 2) (i := 1) rfl (pgs_cons (pg_tup rfl (pgs_cons (pg_name (i := 3) sc_Maker_rows_code.nd rfl (Or.inl rfl)) (pgs_cons (pg_name (i := 4) sc_Maker_rows_code.nd rfl (Or.inl rfl)) pgs_nil))) (pgs_star (pg_name (i := 5) sc_Maker_rows_code.nd rfl (Or.inl rfl)) pgs_nil))))
      (pss_cons (ps_par3 (i := 6) (j := 7) (l := 8) (by rfl) sc_Maker_rows_code.nd rfl rfl rfl (by decide) (by decide) (by decide) rfl rfl rfl (pa_cons (pe_lst pa_nil) (pa_cons (pe_lst pa_nil) (pa_cons (pv 1) pa_nil))) (by rfl))
      (pss_cons (ps_for PassesOwn.never rfl (pi_enumT rfl T.z_enumerate (pa_cons (pv 3) pa_nil)) (pg_tup rfl (pgs_cons (pg_name (i := 9) sc_Maker_rows_code.nd rfl (Or.inl rfl)) (pgs_cons (pg_name (i := 10) sc_Maker_rows_code.nd rfl (Or.inl rfl)) pgs_nil))) (pss_cons (ps_asg (pe_c c_asks_in hr (by omega) rfl (pa_cons (pv 10) (pa_cons (pv 9) (pa_cons (pv 8) (pa_cons (pv 6) pa_nil))))) (pg_tup rfl (pgs_cons (pg_name (i := 8) sc_Maker_rows_code.nd rfl (Or.inl rfl)) (pgs_cons (pg_name (i := 11) sc_Maker_rows_code.nd rfl (Or.inl rfl)) pgs_nil))))
      (pss_one (ps_expr (pe_bm PySem.F.plainAttrs_list PySem.F.slot_list_extend PySem.F.type_list_extend mt_extend (pv 7) (pa_cons (pv 11) pa_nil))))))
      (pss_cons (ps_set (i := 12) sc_Maker_rows_code.nd rfl (Or.inl rfl) (pe_op op_cat (pe_mt c_Maker_code_of hr (by omega) (pv 0) (pa_cons (pv 4) (pa_cons (pv 7) pa_nil))) (pe_lst (pa_cons (pe_glob (v := .ref _) rfl T.g_TELL rfl) pa_nil))))
      (pss_cons (ps_if (pt_cmpR (op_eq0 hr.units0) (pv 6) (pe_lst pa_nil) (nomark _)) (pss_one (ps_ret (pv 12))) pss_nil)
      (pss_cons (ps_set (i := 13) sc_Maker_rows_code.nd rfl (Or.inr rfl) (pe_op op_add (pe_callB call_len_seq (by rfl) T.z_len PySem.boot_len (pa_cons (pv 6) pa_nil)) (pe_callB call_len_seq (by rfl) T.z_len PySem.boot_len (pa_cons (pv 12) pa_nil))))
      (pss_cons (ps_setLc (i := 14) (g := (gTup K 2 (gCons (gName 15) (gCons (gTup K 2 (gCons (gName 9) (gCons (gName 16) gNil))) gNil)))) rfl sc_Maker_rows_code.nd rfl rfl (sw_true rfl rfl rfl (by decide +kernel)) (pi_enum rfl T.z_enumerate (pa_cons (pv 6) pa_nil)) (blkOk_by (own := [("line", 15), ("place", 9), ("name", 16)]) (N := ["self", "many", "rows", "patterns", "body", "others", "asked", "taken", "known", "place", "pattern", "more", "own", "further", "found", "line", "name"]) (sc := defScope s_Maker_rows_code) (by decide +kernel)) (fun _ _ _ _ _ => (pg_tup rfl (pgs_cons (pg_name (i := 15) sc_Maker_rows_code.nd rfl (Or.inl rfl)) (pgs_cons (pg_tup rfl (pgs_cons (pg_name (i := 9) sc_Maker_rows_code.nd rfl (Or.inl rfl)) (pgs_cons (pg_name (i := 16) sc_Maker_rows_code.nd rfl (Or.inl rfl)) pgs_nil))) pgs_nil)))) (fun _ _ _ _ _ => pts_nil) (fun _ _ _ _ _ => (pe_tup (pa_cons pe_str (pa_cons (pv 9) (pa_cons (pe_tup (pa_cons (pe_tup (pa_cons (pv 16) (pa_cons (pe_op op_add (pv 15) pe_int) pa_nil))) pa_nil)) (pa_cons (pv 13) pa_nil)))))))
      (pss_one (ps_ret (pe_op op_cat (pe_op op_cat (pv 14) (pv 12)) (pe_mt c_Maker_further_code hr (by omega) (pv 0) (pa_cons (pv 1) (pa_cons (pe_callTy call_tuple_of (by rfl) T.z_tuple (by decide +kernel) (pa_cons (pv 5) pa_nil)) pa_nil)))))))))))))), ?_⟩
      obtain ⟨ra, rxs, rfl, hra, hrx⟩ := hrv.t
      have hz1 : 1000000 < sizeLine := by decide
      have hz16 : 4010000 < sizeLine := by decide
      refine ⟨_, rfl, by decide, fun q0 nq => ?_⟩
      have kq := Keep.new (o := .tup []) nq (Keep.refl [] H)
      refine ⟨ra, q0, _, rfl, rfl, .inr ⟨kq.sqT hra, .of upd_same⟩, _, rfl, ?_⟩
      cases rs with
      | nil =>
        cases hrx
        refine ift rfl ?_
        refine ⟨(by show 2 ≤ sizeLine; decide), fun l nl => ?_⟩
        have k2 := kq.new_ (o := .lst [.ref (He.ga K "DULL"), .ref (He.ga K "TELL")]) nl
        exact q l _ _ (k2.mono (by simp)) (new_old nl) upd_same (.cons (dull_at T) (.cons (tell_at T) .nil)) (m.keep0 k2)
      | cons r rs =>
        obtain ⟨rv, rxs', rfl, hr0, hrs⟩ := hrx.cons'
        refine iff' rfl ?_
        have hlr := hrs.length
        rw [List.length_map] at hlr
        obtain ⟨p1, pv1, bv, rfl, hp1, hpv, hbv⟩ := hr0.t2
        obtain ⟨pa, zs, rfl, hpa, hzs⟩ := hpv.t
        have hlz := hzs.length
        rw [encPs_map, List.length_map] at hlz
        obtain ⟨okl, oka, okb, okd⟩ := hok r (List.mem_cons_self ..)
        simp only [List.length_cons] at hn
        obtain ⟨hn, hn2⟩ := hn
        simp only [rowsW] at hb1 hb2
        refine ⟨_, rfl, ra, _, rfl, kq.sqT hra, by simp, by simp; omega, fun D nD => ?_⟩
        have e1 : (V.ref p1 :: rxs').take 1 ++ [V.ref D] ++ ((V.ref p1 :: rxs').drop 1).drop ((V.ref p1 :: rxs').length + 1 - 2) = [V.ref p1, V.ref D] := by simp
        have eD : ((V.ref p1 :: rxs').drop 1).take ((V.ref p1 :: rxs').length + 1 - 2) = rxs' := by simp
        rw [e1, eD]
        have kD := kq.new_ (o := .lst rxs') nD
        refine ⟨_, _, rfl, ⟨p1, _, rfl, kD.sqT hp1, rfl, _, _, rfl, _, _, rfl, rfl, ?_⟩⟩
        refine ⟨_, _, rfl, rfl, ?_⟩
        refine ⟨by decide, fun a na => ⟨by decide, fun t nt => ⟨_, rfl, _, _, _, rfl, ?_⟩⟩⟩
        have kt := Keep.new (o := .lst []) nt (Keep.new na kD)
        have na2 : upd (upd (upd (upd H q0 (.tup [])) D (.lst rxs')) a (.lst [])) t (.lst []) a = some (.lst []) := by
          rw [upd_ne (new_ne nt).symm]
          exact upd_same
        have nt2 : upd (upd (upd (upd H q0 (.tup [])) D (.lst rxs')) a (.lst [])) t (.lst []) t = some (.lst []) := upd_same
        have nD2 : upd (upd (upd (upd H q0 (.tup [])) D (.lst rxs')) a (.lst [])) t (.lst []) D = some (.lst rxs') := (Keep.new nt (Keep.new na (Keep.refl [] _))).at_ _ _ (by simp) upd_same
        have hta : H t = none := new_old (new_old (new_old nt))
        have haa : H a = none := new_old (new_old na)
        have hDD : H D = none := new_old nD
        have nat : a ≠ t := (new_ne nt).symm
        have nDa : D ≠ a := (new_ne na).symm
        have nDt : D ≠ t := fun z => by rw [z, upd_ne nat.symm] at nt; rw [← z, upd_same] at nt; cases nt
        generalize upd (upd (upd (upd H q0 (.tup [])) D (.lst rxs')) a (.lst [])) t (.lst []) = H1 at kt na2 nt2 nD2
        have hb1' := kt.sqT hpa
        refine ⟨_, rfl, pa, zs, rfl, hb1', for_it (walk_enumT (xs := zs)) (fun i σ H' => ∃ ys o9 o10 o11, σ = [some (.ref x), some (.int (many : Int)), some (.ref ra), some (.ref pa), some bv, some (.ref D), some (.ref a), some (.ref t), some (.int ((asksL (r.ps.take i) 0 many).1 : Int)), o9, o10, o11, none, none, none, none, none] ∧ Keep [a, t] H1 H' ∧ H' a = some (.lst ys) ∧
          AtL K H' ys ((asksL (r.ps.take i) 0 many).2.2.map encA) ∧ H' t = some (.lst (intsV (asksL (r.ps.take i) 0 many).2.1)))
          ⟨_, none, none, none, ?_, Keep.refl _ _, na2, .nil, nt2⟩ (fun i σ H' _ ⟨ys, o9, o10, o11, e, k, _⟩ => k.sqT hb1') (fun i v σ H' H'' hi ⟨ys, o9, o10, o11, e, k4, hy1, hy2, hy3⟩ hy => ?_) (fun σ H' ⟨ys, o9, o10, o11, e, k4, hy1, hy2, hy3⟩ => ?_)⟩
        · simp only [List.take_zero, asksL]
          rfl
        · subst e
          obtain ⟨T', xk, xp, rfl, nT, rfl, e1, e2⟩ := hy
          cases e1
          obtain ⟨pd, e3, hxp⟩ := hzs.get' e2
          rw [encPs_map, List.getElem?_map] at e3
          obtain ⟨p, e4, rfl⟩ := Option.map_eq_some_iff.mp e3
          have hpm : p ∈ r.ps := List.mem_of_getElem? e4
          have hpd : pdeep p < 3 := by
            have := pdeepL_mem hpm
            omega
          have kT : Keep [a, t] H1 (upd H' T' (.tup [.int (i : Int), xp])) := Keep.new nT k4
          have naT : a ≠ T' := ne_of_none hy1 nT
          have ntT : t ≠ T' := ne_of_none hy3 nT
          have hyl := hy2.length
          have hal := asksL_len (r.ps.take i) 0 many
          have hpt := pnodesL_take e4
          simp only [List.length_map] at hyl
          have eas := asksL_snoc (r.ps.take i) p 0 many
          have hli : (r.ps.take i).length = i := by rw [List.length_take]; have := (List.getElem?_eq_some_iff.mp e4).1; omega
          rw [hli, ← take_snoc e4, Nat.zero_add] at eas
          refine ⟨T', _, rfl, .of upd_same, rfl, _, _, rfl, _, _, rfl, rfl, ?_⟩
          refine ⟨_, rfl, _, rfl, _, rfl, _, rfl, ?_⟩
          have kk0 : Keep [] H' (upd H' T' (.tup [.int (i : Int), xp])) := Keep.new nT (Keep.refl _ _)
          refine ⟨xp, p, i, (asksL (r.ps.take i) 0 many).1, a, ys, _, rfl, hpd, ((hxp.keep kt).keep kT), (by rw [upd_ne naT]; exact hy1), hy2.keep kk0, by omega, fun t5 l ys' H5 k5 hr5 hy5 hq5 nl hl5 => ?_⟩
          refine ⟨t5, _, rfl, hq5, rfl, _, _, rfl, _, _, rfl, rfl, ?_⟩
          have ht5 : H5 t = some (.lst (intsV (asksL (r.ps.take i) 0 many).2.1)) := k5.at_ _ _ (by simp [nat.symm]) (by rw [upd_ne ntT]; exact hy3)
          have hal2 := asksIn_len p i (asksL (r.ps.take i) 0 many).1
          refine ⟨_, rfl, .inl ⟨rfl, _, .of ht5⟩, _, rfl, t, l, _, _, rfl, rfl, ht5, hl5, by simp only [List.length_map]; omega, ?_⟩
          have k6 : Keep [a, t] H1 (upd H5 t (.lst (intsV (asksL (r.ps.take i) 0 many).2.1 ++ intsV (asksIn p i (asksL (r.ps.take i) 0 many).1).2.1))) :=
            Keep.lst ht5 (.inl (by simp)) (kT.trans (k5.mono (by simp)))
          have k7 : Keep [t] H5 (upd H5 t (.lst (intsV (asksL (r.ps.take i) 0 many).2.1 ++ intsV (asksIn p i (asksL (r.ps.take i) 0 many).1).2.1))) := Keep.lst ht5 (.inl (by simp)) (Keep.refl _ _)
          refine ⟨ys', some (.int (i : Int)), some xp, some (.ref l), ?_, k6, by rw [upd_ne nat]; exact hr5, ?_, ?_⟩
          · rw [eas]
            rfl
          · rw [eas]
            have := hy5.keep k7
            simpa using this
          · rw [eas, upd_same]
            simp [intsV]
        · subst e
          rw [hlz, List.take_length] at hy2 hy3 ⊢
          have noa := m.no haa
          have not_ := m.no hta
          have noD := m.no hDD
          have m1 : MkOk K H' x dx bm bd s := (m.keep0 kt).keep k4 (by simp [noa.1.symm, not_.1.symm]) (by simp [noa.2.1.symm, not_.2.1.symm]) (by simp [noa.2.2.symm, not_.2.2.symm])
          have kH : Keep [] H H' := k4.call (fun b z => by
            rcases List.mem_cons.mp z with rfl | z
            · exact .inr haa
            · exact .inr (by rw [List.mem_singleton.mp z]; exact hta)) kt
          have hD3 := k4.at_ _ _ (by simp [nDa, nDt]) nD2
          have al := asksL_len r.ps 0 many
          have hle := codeOf_len' (asksL r.ps 0 many).2.1 r.body s.2 (by omega)
          have hbd := codeOf_bd (asksL r.ps 0 many).2.1 r.body s.2 oka (by omega) hdo
          have hsum := codeOf_sum (asksL r.ps 0 many).2.1 r.body s.2
          have hdl := dueW_len s.2.1
          refine ⟨_, rfl, x, dx, _, rfl, m1.at_, kF_no3, _, rfl, _, rfl, x, dx, bm, bd, t, s, bv, r.body, (asksL r.ps 0 many).2.1, rfl, m1, hbv.keep kH, hy3, not_.2.1, not_.2.2, oka, by omega, by omega, by omega, fun l cs H2 k2 nl hl hcs m2 => ?_⟩
          refine ⟨(by show 1 ≤ sizeLine; decide), fun p np => ?_⟩
          have kp := Keep.new (o := .lst [.ref (He.ga K "TELL")]) np (Keep.refl [] H2)
          have hcl := hcs.length
          rw [List.length_map] at hcl
          refine ⟨l, p, _, _, rfl, rfl, kp.at_ _ _ (by simp) hl, upd_same, (by show cs.length + 1 ≤ sizeLine; omega), fun o no => ?_⟩
          have ko := kp.new_ (o := .lst (cs ++ [.ref (He.ga K "TELL")])) no
          have ho2 : H2 o = none := new_old no
          have hoo : upd (upd H2 p (.lst [.ref (He.ga K "TELL")])) o (.lst (cs ++ [.ref (He.ga K "TELL")])) o = some (.lst (cs ++ [.ref (He.ga K "TELL")])) := upd_same
          have hown : AtL K (upd (upd H2 p (.lst [.ref (He.ga K "TELL")])) o (.lst (cs ++ [.ref (He.ga K "TELL")]))) (cs ++ [.ref (He.ga K "TELL")]) (((codeOf (asksL r.ps 0 many).2.1 r.body s.2).1 ++ [Ins.tell]).map encI) := by
            rw [List.map_append]
            exact (hcs.keep ko).append (.cons (tell_at T) .nil)
          have m3 := m2.keep0 ko
          have ha3 := ko.at_ _ _ (by simp) (k2.at_ _ _ (by simp [noa.1, noa.2.1, noa.2.2]) hy1)
          have hD4 := ko.at_ _ _ (by simp) (k2.at_ _ _ (by simp [noD.1, noD.2.1, noD.2.2]) hD3)
          have k3 : Keep [x, bm, bd] H _ := (kH.mono (by simp)).trans (k2.trans (ko.mono (by simp)))
          have hy4 := (hy2.keep k2).keep ko
          have noo := m2.no ho2
          have hoH : H o = none := (kH.mono (S' := [x, bm, bd]) (by simp)).trans k2 |>.none_of (by simp [noo.1, noo.2.1, noo.2.2]) ho2
          generalize upd (upd H2 p (.lst [.ref (He.ga K "TELL")])) o (.lst (cs ++ [.ref (He.ga K "TELL")])) = H3 at ko hoo hown m3 ha3 hD4 k3 hy4
          have hyl := hy4.length
          rw [List.length_map] at hyl
          refine ⟨_, rfl, by decide, fun q1 nq1 => ?_⟩
          have k4q := Keep.new (o := .lst []) nq1 (Keep.refl [] H3)
          refine ⟨a, q1, _, rfl, rfl, .inl ⟨.of (k4q.at_ _ _ (by simp) ha3), .of upd_same⟩, _, rfl, ?_⟩
          have k5 := k3.trans (k4q.mono (by simp))
          have ho4 := k4q.at_ _ _ (by simp) hoo
          have hown4 := hown.keep k4q
          have m4 := m3.keep0 k4q
          by_cases has : (asksL r.ps 0 many).2.2 = []
          · have : ys = [] := List.eq_nil_of_length_eq_zero (by rw [hyl, has]; rfl)
            subst this
            refine ift rfl ?_
            refine ⟨_, rfl, ?_⟩
            have e : rowsC many (r :: rs) s = ((codeOf (asksL r.ps 0 many).2.1 r.body s.2).1 ++ [.tell], (s.1, (codeOf (asksL r.ps 0 many).2.1 r.body s.2).2)) := by
              simp only [rowsC]
              rw [if_pos has]
            refine q o _ _ k5 hoH ho4 ?_ ?_
            · rw [e]
              exact hown4
            · rw [e]
              exact m4
          · have hne : ys ≠ [] := fun z => has (List.eq_nil_of_length_eq_zero (by rw [← hyl, z]; rfl))
            refine iff' (by
              cases ys with
              | nil => exact absurd rfl hne
              | cons a b => rfl) ?_
            have ha4 := k4q.at_ _ _ (by simp) ha3
            have hD5 := k4q.at_ _ _ (by simp) hD4
            have hy5 := hy4.keep k4q
            generalize upd H3 q1 (.lst []) = H4 at k4q ho4 hown4 m4 ha4 hD5 k5 hy5
            have hol := hown4.length
            rw [List.length_map] at hol
            refine ⟨_, rfl, a, _, rfl, .inl (.of ha4), _, rfl, o, _, rfl, .inl (.of ho4), _, _, rfl, rfl, ?_⟩
            have hol2 : (cs ++ [V.ref (He.ga K "TELL")]).length = (codeOf (asksL r.ps 0 many).2.1 r.body s.2).1.length + 1 := by
              rw [hol, List.length_append]
              rfl
            generalize hfu : (asksL r.ps 0 many).2.2.length + ((codeOf (asksL r.ps 0 many).2.1 r.body s.2).1.length + 1) = fu
            have efu : ((ys.length : Nat) : Int) + ((cs ++ [V.ref (He.ga K "TELL")]).length : Nat) = (fu : Int) := by
              rw [hol2]
              omega
            refine ⟨_, rfl, a, ys, rfl, .of ha4, fun F nF => lc_data (K := K) (walk_enum (xs := ys)) ((addAsks fu 0 (asksL r.ps 0 many).2.2).map encI) (by rw [List.length_map, addAsks_len]; exact hyl.symm) (by omega) nF (fun H k => .of (k.at_ _ _ (by simp) ha4)) (fun i v H5 H6 d Qn G hi k6 y6 e6 hQ => ?_) (fun fs H5 k6 hF hfs => ?_)⟩
            · obtain ⟨T', xk, xp, rfl, nT, rfl, ek, ep⟩ := y6
              cases ek
              obtain ⟨d2, ed, hd⟩ := hy5.get' ep
              rw [List.getElem?_map] at ed e6
              rw [addAsks_get] at e6
              cases eas : (asksL r.ps 0 many).2.2[i]? with
              | none => rw [eas] at ed; cases ed
              | some pn =>
                rw [eas] at ed e6
                cases ed
                cases e6
                obtain ⟨u, z1, z2, rfl, hu, h1, h2⟩ := hd.t2
                obtain rfl := h1.i
                obtain rfl := h2.s
                have kT := k6.new_ (o := .tup [.int (i : Int), .ref u]) nT
                refine ⟨T', _, rfl, .of upd_same, rfl, _, _, rfl, _, _, rfl, ⟨u, _, rfl, kT.sqT hu, rfl, _, _, rfl, _, _, rfl, rfl, rfl, rfl, tyes ?_⟩⟩
                refine ⟨_, rfl, _, rfl, _, rfl, _, _, rfl, rfl, (by show 2 ≤ sizeLine; decide), fun p1 n1 => ⟨(by show 1 ≤ sizeLine; decide), fun p2 n2 => ⟨_, rfl, (by show 4 ≤ sizeLine; decide), fun p3 n3 => ?_⟩⟩⟩
                refine hQ _ _ (Keep.new n3 (Keep.new n2 (Keep.new n1 (Keep.new nT (Keep.refl _ _))))) (At.new upd_same (.cons (.str _) (.cons (.int _) (.cons (At.new (xs := [.ref p1]) ((Keep.new n3 (Keep.refl [] _)).at_ _ _ (by simp) upd_same) (.cons (At.new (xs := [.str pn.2, .int ((i : Int) + 1)]) ((Keep.new n3 (Keep.new n2 (Keep.refl [] _))).at_ _ _ (by simp) upd_same) (.cons (.str _) (.cons ?_ .nil))) .nil)) (.cons ?_ .nil)))))
                · have : ((i : Int) + 1) = ((0 + i + 1 : Nat) : Int) := by omega
                  rw [this]
                  exact .int _
                · show At K _ (V.int (((ys.length : Nat) : Int) + ((cs ++ [V.ref (He.ga K "TELL")]).length : Nat))) _
                  rw [efu]
                  exact .int _
            · have hfl := hfs.length
              rw [List.length_map, addAsks_len] at hfl
              have ho5 := k6.at_ _ _ (by simp) ho4
              refine ⟨_, rfl, _, rfl, F, o, _, _, rfl, rfl, hF, ho5, by rw [hol2]; omega, fun g ng => ?_⟩
              have kg := k6.new_ (o := .lst (fs ++ (cs ++ [V.ref (He.ga K "TELL")]))) ng
              have kg5 := Keep.new (o := .lst (fs ++ (cs ++ [V.ref (He.ga K "TELL")]))) ng (Keep.refl [] H5)
              have m6 := m4.keep0 kg
              have hg6 : upd H5 g (.lst (fs ++ (cs ++ [V.ref (He.ga K "TELL")]))) g = some (.lst (fs ++ (cs ++ [V.ref (He.ga K "TELL")]))) := upd_same
              have hfo6 := (hfs.keep kg5).append ((hown4.keep k6).keep kg5)
              have hD6 := kg.at_ _ _ (by simp) hD5
              have k7 := k5.trans (kg.mono (S' := [x, bm, bd]) (by simp))
              have hgn : H4 g = none := k6.free ng
              generalize upd H5 g (.lst (fs ++ (cs ++ [V.ref (He.ga K "TELL")]))) = H6 at m6 hg6 hfo6 hD6 k7 kg
              have nog := m4.no hgn
              refine ⟨_, rfl, x, dx, _, rfl, m6.at_, kF_no7, _, rfl, _, rfl, D, rxs', rfl, .inl ⟨.of hD6, fun u nu => ?_⟩⟩
              have ku := Keep.new (o := .tup rxs') nu (Keep.refl [] H6)
              refine ⟨x, dx, bm, bd, (s.1, (codeOf (asksL r.ps 0 many).2.1 r.body s.2).2), many, .ref u, rs, rfl, ⟨by omega, by omega⟩, m6.keep0 ku, At.new upd_same ((hrs.keep k7).keep ku), fun r' hr' => hok r' (List.mem_cons_of_mem _ hr'), hm, hbd.2.2.2.2, ?_, ?_, fun l2 fs2 H7 k8 nl2 hl2 hf2 m7 => ?_⟩
              · show (codeOf (asksL r.ps 0 many).2.1 r.body s.2).2.2 + 1 + dueW (codeOf (asksL r.ps 0 many).2.1 r.body s.2).2.1 + rowsW rs ≤ 1000000
                omega
              · show s.1.length + rowsW rs ≤ 1000000
                omega
              have hg7 := k8.at_ _ _ (by simp [nog.1, nog.2.1, nog.2.2]) (ku.at_ _ _ (by simp) hg6)
              have hll := hf2.length
              have hfl2 : ((furtherC many rs (s.1, (codeOf (asksL r.ps 0 many).2.1 r.body s.2).2)).1).length = many + 3 := by simp [furtherC]
              rw [List.length_map, hfl2] at hll
              have hpn : pnodesL r.ps ≤ 2000 := by omega
              refine ⟨g, l2, _, _, rfl, rfl, hg7, hl2, by rw [List.length_append, hol2]; omega, fun r0 nr0 => ?_⟩
              have kr := Keep.new (o := .lst (fs ++ (cs ++ [V.ref (He.ga K "TELL")]) ++ fs2)) nr0 (Keep.refl [] H7)
              have k9 := (k7.trans (ku.mono (by simp))).trans k8
              have nor := m7.no nr0
              have e : rowsC many (r :: rs) s = (addAsks fu 0 (asksL r.ps 0 many).2.2 ++ ((codeOf (asksL r.ps 0 many).2.1 r.body s.2).1 ++ [Ins.tell]) ++ (furtherC many rs (s.1, (codeOf (asksL r.ps 0 many).2.1 r.body s.2).2)).1, (furtherC many rs (s.1, (codeOf (asksL r.ps 0 many).2.1 r.body s.2).2)).2) := by
                simp only [rowsC]
                rw [if_neg has, hfu]
                rfl
              refine q r0 _ _ (k9.trans (kr.mono (by simp))) (k9.none_of (by simp [nor.1, nor.2.1, nor.2.2]) nr0) upd_same ?_ ?_
              · rw [e, List.map_append, List.map_append]
                exact (((hfo6.keep ku).keep k8).keep kr).append (hf2.keep kr)
              · rw [e]
                exact m7.keep0 kr
end
end K46
/-! K46G9 -/
set_option maxHeartbeats 4000000
namespace K46
open PySem PySem.Spec PyProof.Rows L2 C8
theorem progC_append : ∀ (a b : List Df) (s : MS), progC (a ++ b) s = progC b (progC a s)
  | [], b, s => rfl
  | d :: a, b, s => progC_append a b _
def progW : List Df → Nat
  | [] => 0
  | d :: g => 1 + rowsW d.rows + progW g
def DfOk (d : Df) : Prop := d.rows.length ≤ 5 ∧ d.many ≤ 1000 ∧ ∀ r ∈ d.rows, RwOk d.many r
theorem progW_append : ∀ a b : List Df, progW (a ++ b) = progW a + progW b
  | [], b => by simp [progW]
  | d :: a, b => by
    have := progW_append a b
    simp only [List.cons_append, progW, this]
    omega
theorem progC_bd : ∀ (g : List Df) (s : MS), (∀ d ∈ g, DfOk d) → DueOk s.2.1 → (progC g s).2.2 + dueW (progC g s).2.1 ≤ s.2.2 + dueW s.2.1 + progW g ∧ (progC g s).1.length ≤ s.1.length + progW g ∧ dueW (progC g s).2.1 ≤ dueW s.2.1 + progW g ∧ DueOk (progC g s).2.1
  | [], s, _, h => by simp [progC, progW, h]
  | d :: g, s, ok, h => by
    have o := (ok d (List.mem_cons_self ..)).2.2
    have h1 := rowsC_bd d.many d.rows s o h
    have h2 := rowsC_sum d.many d.rows s
    have h3 := progC_bd g ((rowsC d.many d.rows s).2.1 ++ [⟨d.name, d.many, (rowsC d.many d.rows s).1⟩], (rowsC d.many d.rows s).2.2) (fun e he => ok e (List.mem_cons_of_mem _ he)) h1.2.2.2.2
    simp only [progC, progW]
    simp only [List.length_append, List.length_singleton] at h3
    exact ⟨by omega, by omega, by omega, h3.2.2.2⟩
theorem MadeOf.ex (g : List Df) (t : Tm) (hg : ∀ d ∈ g, DfOk d) (ht : TmOk 0 t) (hn : nodes t ≤ 2000) : ∃ bs, MadeOf g t bs := by
  have h1 := progC_bd g ([], ([], 0)) hg (fun x z => by cases z)
  have h2 := codeOf_bd [] t (progC g ([], ([], 0))).2 ht (by simpa using hn) h1.2.2.2
  obtain ⟨bs, n, h⟩ := AddDue.ex _ ((progC g ([], ([], 0))).1 ++ [⟨".", 0, (codeOf [] t (progC g ([], ([], 0))).2).1 ++ [.tell]⟩], (codeOf [] t (progC g ([], ([], 0))).2).2) (Nat.lt_succ_self _) h2.2.2.2.2
  exact ⟨bs, n, h⟩
section
variable {P : Program} {w : World} {K : PySem.W.Frag} {mg : Str → Option Value} {base : Heap}
def sp_made (K : PySem.W.Frag) : Sp := fun vs H Q _ => ∃ (pv tv : V) (g : List Df) (t : Tm) (bs : List Bk), vs = [pv, tv] ∧ At K H pv (encG g) ∧ At K H tv (encT t) ∧ (∀ d ∈ g, DfOk d) ∧ TmOk 0 t ∧ nodes t ≤ 2000 ∧ progW g ≤ 100000 ∧ MadeOf g t bs ∧ ∀ a H', Keep [] H H' → At K H' (.ref a) (encBs bs) → Q (.ref a) H'
theorem ok_made (T : Tx K mg) : Cal P w K mg base 18 "made" (sp_made K) [] := by
  refine cal_mk T.f_made T.g_made sc_made (fun _ _ _ _ _ _ us hl => match us, hl with | [_, _], _ => rfl) (fun vs H Q E h => ?_) (fun cdv A outer s0 H vs Q E hr h => ?_)
  · obtain ⟨pv, tv, g, t, bs, rfl, _⟩ := h
    rfl
  · obtain ⟨px, tv, g, t, bs, rfl, hp, ht, hg, htk, hn, hw, ⟨n', hmade⟩, q⟩ := h
    have m_Maker := ok_Maker_init (P := P) (w := w) (base := base) T
    have c_Maker_rows_code := ok_rows_code (P := P) (w := w) (base := base) T 6
    have c_Maker_code_of := ok_code_of (P := P) (w := w) (base := base) T
    have c_Maker_add_block := ok_add_block (P := P) (w := w) (base := base) T
    have c_Maker_add_due := ok_add_due (P := P) (w := w) (base := base) T
    obtain ⟨tOWk, kOWk⟩ := T.k_OWN_making
    refine ⟨_, (pss_cons (ps_set (i := 2) sc_made.nd rfl (Or.inl rfl) (pe_mk0 m_Maker hr (by omega) rfl))
      (pss_cons (ps_for PassesOwn.never rfl (pi_tup (pv 0)) (pg_tup rfl (pgs_cons (pg_name (i := 3) sc_made.nd rfl (Or.inl rfl)) (pgs_cons (pg_name (i := 4) sc_made.nd rfl (Or.inl rfl)) (pgs_cons (pg_name (i := 5) sc_made.nd rfl (Or.inl rfl)) pgs_nil)))) (pss_one (ps_expr (pe_mt c_Maker_add_block hr (by omega) (pv 2) (pa_cons (pv 3) (pa_cons (pv 4) (pa_cons (pe_mt c_Maker_rows_code hr (by omega) (pv 2) (pa_cons (pv 4) (pa_cons (pv 5) pa_nil))) pa_nil)))))))
      (pss_cons (ps_expr (pe_mt c_Maker_add_block hr (by omega) (pv 2) (pa_cons (pe_glob (v := .str ".") rfl kOWk ⟨_, rfl⟩) (pa_cons pe_int (pa_cons (pe_op op_cat (pe_mt c_Maker_code_of hr (by omega) (pv 2) (pa_cons (pv 1) (pa_cons (pe_lst pa_nil) pa_nil))) (pe_lst (pa_cons (pe_glob (v := .ref _) rfl T.g_TELL rfl) pa_nil))) pa_nil)))))
      (pss_cons (ps_expr (pe_mt0 c_Maker_add_due hr (by omega) (pv 2)))
      (pss_one (ps_ret (pe_callTy call_tuple_of (by rfl) T.z_tuple (by decide +kernel) (pa_cons (pe_fld (pv 2) rfl) pa_nil)))))))), ?_⟩
    obtain ⟨pa, ps, rfl, hpa, hps⟩ := hp.t
    have hlp := hps.length
    rw [List.length_map] at hlp
    have hz1 : 1000000 < sizeLine := by decide
    have hz16 : 4010000 < sizeLine := by decide
    refine fun x dx nx ndx nex => ?_
    have k1 : Keep [] H (upd (upd H dx (.own x)) x (.ins (CK K) dx [])) := Keep.new (by rw [upd_ne nex.symm]; exact nx) (Keep.new ndx (Keep.refl _ _))
    refine ⟨x, dx, rfl, upd_same, fun bm bd H1 nbm nbd k2 m1 => ⟨rfl, ?_⟩⟩
    have kH1 : Keep [] H H1 := k2.call (fun b z => .inr (by rw [List.mem_singleton.mp z]; exact nx)) k1
    have new3 : ∀ b ∈ [x, bm, bd], H b = none := fun b z => by
      simp only [List.mem_cons, List.not_mem_nil, or_false] at z
      rcases z with rfl | rfl | rfl
      · exact nx
      · exact k1.free nbm
      · exact k1.free nbd
    refine ⟨_, rfl, pa, rfl, ⟨_, kH1.sqT hpa⟩, for_it (walk_tup (xs := ps)) (fun i σ H' => ∃ o3 o4 o5, σ = [some (.ref pa), some tv, some (.ref x), o3, o4, o5] ∧ Keep [x, bm, bd] H1 H' ∧ MkOk K H' x dx bm bd (progC (g.take i) ([], ([], 0))))
      ⟨none, none, none, rfl, Keep.refl _ _, m1⟩ (fun i σ H' _ ⟨o3, o4, o5, e, k, _⟩ => k.sqT (kH1.sqT hpa)) (fun i v σ H' H'' hi ⟨o3, o4, o5, e, k3, m3⟩ hy => ?_) (fun σ H' ⟨o3, o4, o5, e, k3, m3⟩ => ?_)⟩
    · subst e
      obtain ⟨rfl, hv⟩ := hy
      obtain ⟨dd, hd, hat⟩ := hps.get' hv
      rw [List.getElem?_map] at hd
      obtain ⟨d, hd2, rfl⟩ := Option.map_eq_some_iff.mp hd
      replace hat := (hat.keep kH1).keep k3
      obtain ⟨u, y1, y2, y3, rfl, hu, z1, z2, z3⟩ := hat.t3
      obtain rfl := z1.s
      obtain rfl := z2.i
      have hdm : d ∈ g := List.mem_of_getElem? hd2
      have okd := hg d hdm
      have hpt : progW (g.take i) + (1 + rowsW d.rows) ≤ progW g := by
        have e : g = g.take (i + 1) ++ g.drop (i + 1) := (List.take_append_drop _ _).symm
        have e2 := congrArg progW e
        rw [progW_append, take_snoc hd2, progW_append] at e2
        simp only [progW] at e2
        omega
      have hpb := progC_bd (g.take i) ([], ([], 0)) (fun e he => hg e (List.mem_of_mem_take he)) (fun x z => by cases z)
      simp only [dueW, List.length_nil] at hpb
      refine ⟨u, _, rfl, hu, rfl, _, _, rfl, _, _, rfl, _, _, rfl, rfl, ?_⟩
      refine ⟨_, rfl, x, dx, _, rfl, m3.at_, kF_no2, _, rfl, _, rfl, _, rfl, x, dx, _, rfl, m3.at_, kF_no6, _, rfl, _, rfl, ?_⟩
      refine ⟨x, dx, bm, bd, _, d.many, y3, d.rows, rfl, ⟨by have := okd.1; omega, by have := okd.1; omega⟩, m3, z3, okd.2.2, okd.2.1, hpb.2.2.2, by omega, by omega, fun l ys H4 k4 nl hl hys m4 => ?_⟩
      have hrb := rowsC_bd d.many d.rows (progC (g.take i) ([], ([], 0))) okd.2.2 hpb.2.2.2
      refine ⟨x, dx, bm, bd, l, _, d.name, d.many, ys, _, rfl, m4, hl, hys, by omega, fun H5 k5 m5 => ?_⟩
      refine ⟨_, _, _, rfl, k3.trans (k4.trans (k5.mono (by simp))), ?_⟩
      rw [take_snoc hd2, progC_append]
      exact m5
    · subst e
      rw [hlp, List.take_length] at m3
      have hpb := progC_bd g ([], ([], 0)) hg (fun x z => by cases z)
      simp only [dueW, List.length_nil] at hpb
      have hbd := codeOf_bd [] t (progC g ([], ([], 0))).2 htk (by simpa using hn) hpb.2.2.2
      have hsum := codeOf_sum [] t (progC g ([], ([], 0))).2
      have hle := codeOf_len' [] t (progC g ([], ([], 0))).2 (by simpa using hn)
      have hdl := dueW_len (progC g ([], ([], 0))).2.1
      refine ⟨_, rfl, x, dx, _, rfl, m3.at_, kF_no2, _, rfl, x, dx, _, rfl, m3.at_, kF_no3, _, rfl, by decide, fun e0 ne0 => ?_⟩
      have ke := Keep.new (o := .lst []) ne0 (Keep.refl [] H')
      have noe := m3.no ne0
      refine ⟨x, dx, bm, bd, e0, _, tv, t, [], rfl, m3.keep0 ke, ((ht.keep kH1).keep k3).keep ke, upd_same, noe.2.1, noe.2.2, htk, by simpa using hn, by omega, by omega, fun l ys H4 k4 nl hl hys m4 => ?_⟩
      refine ⟨(by show 1 ≤ sizeLine; decide), fun p np => ?_⟩
      have kp := Keep.new (o := .lst [.ref (He.ga K "TELL")]) np (Keep.refl [] H4)
      have hyl := hys.length
      rw [List.length_map] at hyl
      refine ⟨l, p, _, _, rfl, rfl, kp.at_ _ _ (by simp) hl, upd_same, (by show ys.length + 1 ≤ sizeLine; omega), fun r nr => ?_⟩
      have kr := kp.new_ (o := .lst (ys ++ [.ref (He.ga K "TELL")])) nr
      refine ⟨x, dx, bm, bd, r, _, ".", 0, _, (codeOf [] t (progC g ([], ([], 0))).2).1 ++ [.tell], rfl, m4.keep0 kr, upd_same, ?_, (by show (progC g ([], ([], 0))).1.length < sizeLine; omega), fun H5 k5 m5 => ?_⟩
      · rw [List.map_append]
        exact (hys.keep kr).append (.cons (tell_at T) .nil)
      · refine ⟨_, rfl, x, dx, _, rfl, m5.at_, kF_no5, ?_⟩
        refine ⟨x, dx, bm, bd, _, bs, n', rfl, m5, hbd.2.2.2.2, by dsimp only; omega, by simp only [List.length_append, List.length_singleton]; omega, hmade, fun H6 k6 m6 => ?_⟩
        obtain ⟨us, h3, h4⟩ := m6.made
        refine ⟨_, rfl, x, _, dx, _, _, rfl, m6.at_, T.c_Maker, T.n_Maker_blocks_made, kF_made, bm, us, rfl, .inl ⟨.of h3, fun a na => ?_⟩⟩
        have ka := Keep.new (o := .tup us) na (Keep.refl [] H6)
        have kall : Keep [x, bm, bd] H1 (upd H6 a (.tup us)) := k3.trans ((ke.mono (by simp)).trans (k4.trans ((kr.mono (by simp)).trans ((k5.mono (by simp)).trans (k6.trans (ka.mono (by simp)))))))
        exact q a _ (kall.call (fun b z => .inr (new3 b z)) kH1) (At.new upd_same (h4.keep ka))
end
end K46
/-! K46M10 -/
set_option maxHeartbeats 4000000
namespace K46
open PySem PySem.Spec PyProof.Rows L2 C8
/-! ### names of blocks -/
def dots (n k : Nat) : List Str := (List.range k).map fun i => dot (n + i + 1)
theorem dots_succ (n k : Nat) : dots n (k + 1) = dot (n + 1) :: dots (n + 1) k := by
  unfold dots
  rw [List.range_succ_eq_map, List.map_cons, List.map_map]
  congr 1
  refine List.map_congr_left fun i _ => ?_
  show dot (n + (i + 1) + 1) = _
  congr 1
  omega
theorem dots_append (n a b : Nat) : dots n a ++ dots (n + a) b = dots n (a + b) := by
  unfold dots
  rw [List.range_add, List.map_append, List.map_map]
  congr 1
  refine List.map_congr_left fun i _ => ?_
  show dot (n + a + i + 1) = dot (n + (a + i) + 1)
  rw [Nat.add_assoc n a i]
abbrev nmD (d : List Due) : List Str := d.map (·.1)
abbrev nmB (d : List Bk) : List Str := d.map (·.name)
mutual
theorem codeOf_names (Γ : List Nat) : ∀ (t : Tm) (s : DS), ∃ add k, (codeOf Γ t s).2 = (s.1 ++ add, s.2 + k) ∧ nmD add = dots s.2 k
  | .at i, s => ⟨[], 0, by simp [codeOf], rfl⟩
  | .clo fn b, s => ⟨[_], 1, rfl, rfl⟩
  | .nd k ts, s => codesOf_names Γ ts s
theorem codesOf_names (Γ : List Nat) : ∀ (ts : List Tm) (s : DS), ∃ add k, (codesOf Γ ts s).2 = (s.1 ++ add, s.2 + k) ∧ nmD add = dots s.2 k
  | [], s => ⟨[], 0, by simp [codesOf], rfl⟩
  | t :: ts, s => by
    obtain ⟨a1, k1, e1, n1⟩ := codeOf_names Γ t s
    obtain ⟨a2, k2, e2, n2⟩ := codesOf_names Γ ts (codeOf Γ t s).2
    refine ⟨a1 ++ a2, k1 + k2, ?_, ?_⟩
    · simp only [codesOf]
      rw [e2, e1]
      simp only [List.append_assoc, Nat.add_assoc]
    · rw [e1] at n2
      show List.map _ (a1 ++ a2) = _
      rw [List.map_append]
      show nmD a1 ++ nmD a2 = _
      rw [n1, n2]
      exact dots_append _ _ _
end
theorem rowsC_names (many : Nat) : ∀ (rs : List Rw) (s : MS), ∃ am ad k, (rowsC many rs s).2 = (s.1 ++ am, (s.2.1 ++ ad, s.2.2 + k)) ∧ (nmB am ++ nmD ad).Perm (dots s.2.2 k)
  | [], s => ⟨[], [], 0, by simp [rowsC], .nil⟩
  | r :: rs, s => by
    obtain ⟨a1, k1, e1, n1⟩ := codeOf_names (asksL r.ps 0 many).2.1 r.body s.2
    obtain ⟨am, ad, k2, e2, n2⟩ := rowsC_names many rs (s.1, ((codeOf (asksL r.ps 0 many).2.1 r.body s.2).2.1, (codeOf (asksL r.ps 0 many).2.1 r.body s.2).2.2 + 1))
    simp only [rowsC]
    split
    · exact ⟨[], a1, k1, by rw [e1, List.append_nil], by rw [← n1]; exact .refl _⟩
    · simp only [e1] at e2 n2 ⊢
      rw [e2]
      refine ⟨am ++ [⟨dot (s.2.2 + k1 + 1), many, (rowsC many rs (s.1, (s.2.1 ++ a1, s.2.2 + k1 + 1))).1⟩], a1 ++ ad, k1 + 1 + k2, by simp only [List.append_assoc, Nat.add_assoc], ?_⟩
      have : dots s.2.2 (k1 + 1 + k2) = dots s.2.2 k1 ++ (dot (s.2.2 + k1 + 1) :: dots (s.2.2 + k1 + 1) k2) := by
        rw [← dots_succ, dots_append]
        congr 1
        omega
      rw [this]
      show (List.map _ (am ++ [_]) ++ List.map _ (a1 ++ ad)).Perm _
      rw [List.map_append, List.map_append]
      show (nmB am ++ [dot (s.2.2 + k1 + 1)] ++ (nmD a1 ++ nmD ad)).Perm _
      rw [n1]
      refine List.Perm.trans ?_ ((List.Perm.refl _).append ((List.Perm.refl [dot (s.2.2 + k1 + 1)]).append n2))
      show (nmB am ++ [dot (s.2.2 + k1 + 1)] ++ (dots s.2.2 k1 ++ nmD ad)).Perm (dots s.2.2 k1 ++ ([dot (s.2.2 + k1 + 1)] ++ (nmB am ++ nmD ad)))
      generalize nmB am = A
      generalize nmD ad = B
      generalize dots s.2.2 k1 = C
      generalize [dot (s.2.2 + k1 + 1)] = X
      have h1 : (A ++ X ++ (C ++ B)).Perm (C ++ B ++ (A ++ X)) := List.perm_append_comm
      refine h1.trans ?_
      rw [List.append_assoc]
      refine (List.Perm.refl C).append ?_
      have h2 : (B ++ (A ++ X)).Perm (A ++ X ++ B) := List.perm_append_comm
      refine h2.trans ?_
      rw [← List.append_assoc]
      exact List.perm_append_comm.append (.refl _)
theorem progC_names : ∀ (g : List Df) (s : MS), ∃ am ad k, progC g s = (s.1 ++ am, (s.2.1 ++ ad, s.2.2 + k)) ∧ (nmB am ++ nmD ad).Perm (g.map (·.name) ++ dots s.2.2 k)
  | [], s => ⟨[], [], 0, by simp [progC], .nil⟩
  | d :: g, s => by
    obtain ⟨a1, d1, k1, e1, n1⟩ := rowsC_names d.many d.rows s
    obtain ⟨a2, d2, k2, e2, n2⟩ := progC_names g ((rowsC d.many d.rows s).2.1 ++ [⟨d.name, d.many, (rowsC d.many d.rows s).1⟩], (rowsC d.many d.rows s).2.2)
    refine ⟨a1 ++ [⟨d.name, d.many, (rowsC d.many d.rows s).1⟩] ++ a2, d1 ++ d2, k1 + k2, ?_, ?_⟩
    · rw [progC, e2, e1]
      simp only [List.append_assoc, Nat.add_assoc]
    · rw [e1] at n2
      simp only at n2
      rw [List.map_cons, ← dots_append]
      simp only [nmB, nmD, List.map_append, List.map_cons, List.map_nil] at n1 n2 ⊢
      generalize List.map (fun x : Bk => x.name) a1 = A at n1 ⊢
      generalize List.map (fun x : Due => x.1) d1 = B at n1 ⊢
      generalize List.map (fun x : Bk => x.name) a2 = C at n2 ⊢
      generalize List.map (fun x : Due => x.1) d2 = E at n2 ⊢
      have h1 : (A ++ [d.name] ++ C ++ (B ++ E)).Perm (d.name :: ((A ++ B) ++ (C ++ E))) := by
        have x1 : (A ++ [d.name] ++ C ++ (B ++ E)).Perm ([d.name] ++ A ++ C ++ (B ++ E)) := ((List.perm_append_comm).append (.refl _)).append (.refl _)
        refine x1.trans ?_
        show (d.name :: (A ++ C ++ (B ++ E))).Perm _
        refine List.Perm.cons _ ?_
        rw [List.append_assoc, List.append_assoc]
        refine (List.Perm.refl A).append ?_
        rw [← List.append_assoc, ← List.append_assoc]
        exact (List.perm_append_comm).append (.refl _)
      refine h1.trans (List.Perm.cons _ ?_)
      refine (n1.append n2).trans ?_
      show List.Perm _ (List.map (fun x : Df => x.name) g ++ (dots s.2.2 k1 ++ dots (s.2.2 + k1) k2))
      rw [← List.append_assoc, ← List.append_assoc]
      exact (List.perm_append_comm).append (.refl _)
theorem AddDue.names {s s' : MS} (h : AddDue s s') : ∃ am k, s' = (s.1 ++ am, ([], s.2.2 + k)) ∧ (nmB am).Perm (nmD s.2.1 ++ dots s.2.2 k) := by
  induction h with
  | done m n => exact ⟨[], 0, by simp, .nil⟩
  | @step m d n many nm b s' _ ih =>
    obtain ⟨am, k, e, p⟩ := ih
    obtain ⟨a1, k1, e1, n1⟩ := codeOf_names (List.range many) b (d, n)
    refine ⟨⟨nm, many, (codeOf (List.range many) b (d, n)).1 ++ [.tell]⟩ :: am, k1 + k, ?_, ?_⟩
    · rw [e, e1]
      simp only [List.append_assoc, Nat.add_assoc, List.singleton_append]
    · rw [e1] at p
      simp only [nmD, nmB, List.map_append] at p n1 ⊢
      rw [n1] at p
      show (nm :: nmB am).Perm _
      refine (List.Perm.cons nm p).trans ?_
      rw [List.append_assoc (nmD d), List.append_assoc (nmD d), dots_append]
      show (nm :: (nmD d ++ dots n (k1 + k))).Perm (nmD d ++ (nm :: dots n (k1 + k)))
      exact List.perm_middle.symm
theorem MadeOf.names {g : List Df} {t : Tm} {bs : List Bk} (h : MadeOf g t bs) : ∃ k, (nmB bs).Perm (g.map (·.name) ++ Str.ofString "." :: dots 0 k) := by
  obtain ⟨n, h⟩ := h
  obtain ⟨am, k, e, p⟩ := h.names
  obtain ⟨a1, d1, k1, e1, n1⟩ := progC_names g ([], ([], 0))
  obtain ⟨a2, k2, e2, n2⟩ := codeOf_names [] t (progC g ([], ([], 0))).2
  simp only [List.nil_append, Nat.zero_add] at e1 n1
  rw [e1] at e2
  simp only [e1] at e p n2
  rw [e2] at e p
  have eb : bs = a1 ++ [⟨".", 0, (codeOf [] t (progC g ([], ([], 0))).2).1 ++ [.tell]⟩] ++ am := by
    have := congrArg Prod.fst e
    simpa [e1] using this
  refine ⟨k1 + k2 + k, ?_⟩
  rw [eb]
  simp only [nmD, nmB, List.map_append, List.map_cons, List.map_nil] at p n1 n2 ⊢
  rw [n2] at p
  rw [← dots_append 0 (k1 + k2) k, ← dots_append 0 k1 k2]
  simp only [Nat.zero_add]
  have x1 : (nmB a1 ++ [Str.ofString "."] ++ nmB am).Perm (nmB a1 ++ [Str.ofString "."] ++ (nmD d1 ++ dots k1 k2 ++ dots (k1 + k2) k)) := (List.Perm.refl _).append p
  refine x1.trans ?_
  have x2 : (nmB a1 ++ [Str.ofString "."] ++ (nmD d1 ++ dots k1 k2 ++ dots (k1 + k2) k)).Perm ([Str.ofString "."] ++ (nmB a1 ++ nmD d1) ++ (dots k1 k2 ++ dots (k1 + k2) k)) := by
    rw [← List.append_assoc, ← List.append_assoc, ← List.append_assoc, ← List.append_assoc]
    exact ((((List.perm_append_comm).append (.refl _)).append (.refl _)).append (.refl _))
  refine x2.trans ?_
  have x3 : ([Str.ofString "."] ++ (nmB a1 ++ nmD d1) ++ (dots k1 k2 ++ dots (k1 + k2) k)).Perm ([Str.ofString "."] ++ (g.map (·.name) ++ dots 0 k1) ++ (dots k1 k2 ++ dots (k1 + k2) k)) := ((List.Perm.refl _).append n1).append (.refl _)
  refine x3.trans ?_
  have x4 : ([Str.ofString "."] ++ (g.map (·.name) ++ dots 0 k1) ++ (dots k1 k2 ++ dots (k1 + k2) k)) = Str.ofString "." :: (g.map (·.name) ++ (dots 0 k1 ++ dots k1 k2 ++ dots (k1 + k2) k)) := by simp
  rw [x4]
  exact List.perm_middle.symm
end K46
/-! K46M11 -/
set_option maxHeartbeats 4000000
namespace K46
open PySem PySem.Spec PyProof.Rows L2 C8
/-! ### what is made is the code of the program -/
def DueGood (bs : List Bk) (x : Due) : Prop := ∃ cb, codeIn bs x.1 = some (cb ++ [.tell]) ∧ CodesFor bs (List.range x.2.1) [x.2.2] cb
section
variable {bs : List Bk}
mutual
theorem codeOf_for (Γ : List Nat) : ∀ (t : Tm) (s : DS) (ts : List Tm) (c : List Ins), (∀ x ∈ (codeOf Γ t s).2.1, DueGood bs x) → CodesFor bs Γ ts c → CodesFor bs Γ (t :: ts) ((codeOf Γ t s).1 ++ c)
  | .at i, s, ts, c, _, h => .at h
  | .clo fn b, s, ts, c, hg, h => by
    obtain ⟨cb, h1, h2⟩ := hg (dot (s.2 + 1), Γ.length + fn.toNat, b) (by simp [codeOf])
    simp only [codeOf, List.append_assoc, List.singleton_append]
    exact .clo h1 h2 h
  | .nd k as, s, ts, c, hg, h => by
    have h1 := codesOf_for Γ as s hg
    simp only [codeOf, List.append_assoc, List.singleton_append]
    exact .nd h1 h
theorem codesOf_for (Γ : List Nat) : ∀ (ts : List Tm) (s : DS), (∀ x ∈ (codesOf Γ ts s).2.1, DueGood bs x) → CodesFor bs Γ ts (codesOf Γ ts s).1
  | [], s, _ => .nil Γ
  | t :: ts, s, hg => by
    obtain ⟨add, k, e, _⟩ := codesOf_names Γ ts (codeOf Γ t s).2
    exact codeOf_for Γ t s ts _ (fun x hx => hg x (by
      show x ∈ (codesOf Γ ts (codeOf Γ t s).2).2.1
      rw [e]
      exact List.mem_append_left _ hx)) (codesOf_for Γ ts (codeOf Γ t s).2 hg)
end
theorem codeOf_for1 (Γ : List Nat) (t : Tm) (s : DS) (h : ∀ x ∈ (codeOf Γ t s).2.1, DueGood bs x) : CodesFor bs Γ [t] (codeOf Γ t s).1 := by
  have := codeOf_for Γ t s [] [] h (.nil Γ)
  rw [List.append_nil] at this
  exact this
theorem AddDue.good {s s' : MS} (h : AddDue s s') : (∀ b ∈ s'.1, codeIn bs b.name = some b.code) → (∀ x ∈ s.2.1, DueGood bs x) ∧ ∀ b ∈ s.1, codeIn bs b.name = some b.code := by
  induction h with
  | done m n => intro h; exact ⟨fun x z => (by cases z), h⟩
  | @step m d n many nm b s' _ ih =>
    intro hb
    obtain ⟨h1, h2⟩ := ih hb
    obtain ⟨a1, k1, e1, _⟩ := codeOf_names (List.range many) b (d, n)
    refine ⟨fun x hx => ?_, fun b hb => h2 b (List.mem_append_left _ hb)⟩
    rcases List.mem_append.mp hx with hx | hx
    · refine h1 x ?_
      rw [e1]
      exact List.mem_append_left _ hx
    · rw [List.mem_singleton.mp hx]
      exact ⟨_, h2 _ (List.mem_append_right _ (List.mem_singleton.mpr rfl)), codeOf_for1 _ _ _ h1⟩
theorem rowsC_for (many : Nat) : ∀ (rs : List Rw) (s : MS), (∀ x ∈ (rowsC many rs s).2.2.1, DueGood bs x) → (∀ b ∈ (rowsC many rs s).2.1, codeIn bs b.name = some b.code) → RowsFor bs many rs (rowsC many rs s).1
  | [], s, _, _ => .nil
  | r :: rs, s, hd, hb => by
    obtain ⟨am, ad, k2, e2, _⟩ := rowsC_names many rs (s.1, ((codeOf (asksL r.ps 0 many).2.1 r.body s.2).2.1, (codeOf (asksL r.ps 0 many).2.1 r.body s.2).2.2 + 1))
    simp only [rowsC] at hd hb ⊢
    split
    · next e =>
      rw [if_pos e] at hd hb
      exact .last e (codeOf_for1 _ _ _ hd)
    · next e =>
      rw [if_neg e] at hd hb
      have hd' : ∀ x ∈ (codeOf (asksL r.ps 0 many).2.1 r.body s.2).2.1, DueGood bs x := fun x hx => hd x (by
        show x ∈ (rowsC many rs (s.1, ((codeOf (asksL r.ps 0 many).2.1 r.body s.2).2.1, (codeOf (asksL r.ps 0 many).2.1 r.body s.2).2.2 + 1))).2.2.1
        rw [e2]
        exact List.mem_append_left _ hx)
      exact .more (codeOf_for1 _ _ _ hd') (hb ⟨_, _, _⟩ (List.mem_append_right _ (List.mem_singleton.mpr rfl))) (rowsC_for many rs _ hd fun b hx => hb b (List.mem_append_left _ hx))
theorem progC_for : ∀ (g : List Df) (s : MS), (∀ x ∈ (progC g s).2.1, DueGood bs x) → (∀ b ∈ (progC g s).1, codeIn bs b.name = some b.code) → ∀ d ∈ g, ∃ c, (⟨d.name, d.many, c⟩ : Bk) ∈ (progC g s).1 ∧ codeIn bs d.name = some c ∧ RowsFor bs d.many d.rows c
  | [], s, _, _ => fun d z => by cases z
  | d :: g, s, hd, hb => by
    obtain ⟨am, ad, k2, e2, _⟩ := progC_names g ((rowsC d.many d.rows s).2.1 ++ [⟨d.name, d.many, (rowsC d.many d.rows s).1⟩], (rowsC d.many d.rows s).2.2)
    intro d' hm
    rcases List.mem_cons.mp hm with rfl | hm
    · have hin : ∀ b, b ∈ (rowsC d'.many d'.rows s).2.1 ++ [⟨d'.name, d'.many, (rowsC d'.many d'.rows s).1⟩] → b ∈ (progC (d' :: g) s).1 := fun b hx => by
        rw [progC, e2]
        exact List.mem_append_left _ hx
      have hself := hin ⟨d'.name, d'.many, (rowsC d'.many d'.rows s).1⟩ (List.mem_append_right _ (List.mem_singleton.mpr rfl))
      exact ⟨_, hself, hb _ hself, rowsC_for d'.many d'.rows s (fun x hx => hd x (by
        rw [progC, e2]
        exact List.mem_append_left _ hx)) fun b hx => hb b (hin b (List.mem_append_left _ hx))⟩
    · exact progC_for g _ hd hb d' hm
theorem codeIn_nodup : ∀ {bs : List Bk}, (nmB bs).Nodup → ∀ b ∈ bs, codeIn bs b.name = some b.code
  | [], _, b, h => by cases h
  | a :: bs, nd, b, h => by
    have nd' : a.name ∉ nmB bs ∧ (nmB bs).Nodup := List.nodup_cons.mp nd
    unfold codeIn
    rcases List.mem_cons.mp h with rfl | h
    · rw [List.find?_cons_of_pos (by simp)]
      rfl
    · have ne : a.name ≠ b.name := fun e => nd'.1 (e ▸ List.mem_map.mpr ⟨b, h, rfl⟩)
      rw [List.find?_cons_of_neg (by simpa using ne)]
      exact codeIn_nodup nd'.2 b h
theorem codeIn_mem {n : Str} {c : List Ins} (h : codeIn bs n = some c) : ∃ b ∈ bs, b.name = n ∧ b.code = c := by
  obtain ⟨b, e1, e2⟩ := Option.map_eq_some_iff.mp h
  exact ⟨b, List.mem_of_find?_eq_some e1, by simpa using List.find?_some e1, e2⟩
end
/-! ### how long codes are -/
mutual
def cdeep : Tm → Nat
  | .at _ => 0
  | .clo _ b => 1 + cdeep b
  | .nd _ ts => cdeepL ts
def cdeepL : List Tm → Nat
  | [] => 0
  | t :: ts => max (cdeep t) (cdeepL ts)
end
def TmFit (M n : Nat) (t : Tm) : Prop := nodes t * (n + cdeep t + 1) ≤ M - 100
def TmsFit (M n : Nat) (ts : List Tm) : Prop := nodesL ts * (n + cdeepL ts + 1) ≤ M - 100
def DueFit (M : Nat) (d : List Due) : Prop := ∀ x ∈ d, TmFit M x.2.1 x.2.2
theorem mul_le {a b c d M : Nat} (h : a * b ≤ M) (h1 : c ≤ a) (h2 : d ≤ b) : c * d ≤ M := Nat.le_trans (Nat.mul_le_mul h1 h2) h
mutual
theorem codeOf_fit {M : Nat} (Γ : List Nat) : ∀ (t : Tm) (s : DS), TmFit M Γ.length t → DueFit M s.1 → DueFit M (codeOf Γ t s).2.1
  | .at i, s, _, h => h
  | .clo fn b, s, ht, h => by
    intro x hx
    rcases List.mem_append.mp hx with hx | hx
    · exact h x hx
    · rw [List.mem_singleton.mp hx]
      have : fn.toNat ≤ 1 := by cases fn <;> decide
      exact mul_le ht (by show nodes b ≤ 1 + nodes b; omega) (by show Γ.length + fn.toNat + cdeep b + 1 ≤ Γ.length + (1 + cdeep b) + 1; omega)
  | .nd k ts, s, ht, h => codesOf_fit Γ ts s (mul_le ht (by show nodesL ts ≤ 1 + nodesL ts; omega) (Nat.le_refl _)) h
theorem codesOf_fit {M : Nat} (Γ : List Nat) : ∀ (ts : List Tm) (s : DS), TmsFit M Γ.length ts → DueFit M s.1 → DueFit M (codesOf Γ ts s).2.1
  | [], s, _, h => h
  | t :: ts, s, ht, h => codesOf_fit Γ ts _ (mul_le ht (by show nodesL ts ≤ nodes t + nodesL ts; omega) (by show _ ≤ Γ.length + max (cdeep t) (cdeepL ts) + 1; omega))
      (codeOf_fit Γ t s (mul_le ht (by show nodes t ≤ nodes t + nodesL ts; omega) (by show _ ≤ Γ.length + max (cdeep t) (cdeepL ts) + 1; omega)) h)
end
theorem codeOf_short {M : Nat} (Γ : List Nat) (t : Tm) (s : DS) (h : TmFit M Γ.length t) : (codeOf Γ t s).1.length ≤ M - 100 := Nat.le_trans (codeOf_len Γ t s) (mul_le h (Nat.le_refl _) (by omega))
def LenOk (M : Nat) (m : List Bk) : Prop := ∀ b ∈ m, b.code.length ≤ M
def RwFit (M many : Nat) (r : Rw) : Prop := TmFit M (asksL r.ps 0 many).2.1.length r.body ∧ pnodesL r.ps ≤ 60
theorem LenOk.snoc {M : Nat} {m : List Bk} {b : Bk} (h : LenOk M m) (hb : b.code.length ≤ M) : LenOk M (m ++ [b]) := fun x hx => (List.mem_append.mp hx).elim (h x) fun e => by rw [List.mem_singleton.mp e]; exact hb
theorem rowsC_fit {M : Nat} (hM : 100 ≤ M) (many : Nat) (hm : many ≤ 10) : ∀ (rs : List Rw) (s : MS), (∀ r ∈ rs, RwFit M many r) → DueFit M s.2.1 → LenOk M s.1 → DueFit M (rowsC many rs s).2.2.1 ∧ LenOk M (rowsC many rs s).2.1 ∧ (rowsC many rs s).1.length ≤ M
  | [], s, _, h, hl => ⟨h, hl, by show 2 ≤ M; omega⟩
  | r :: rs, s, hr, h, hl => by
    obtain ⟨f1, f2⟩ := hr r (List.mem_cons_self ..)
    have h1 := codeOf_fit _ r.body s.2 f1 h
    have h2 := codeOf_short _ r.body s.2 f1
    have h3 := (asksL_len r.ps 0 many).2
    have ih := rowsC_fit hM many hm rs (s.1, ((codeOf (asksL r.ps 0 many).2.1 r.body s.2).2.1, (codeOf (asksL r.ps 0 many).2.1 r.body s.2).2.2 + 1)) (fun r z => hr r (List.mem_cons_of_mem _ z)) h1 hl
    simp only [rowsC]
    split
    · exact ⟨h1, hl, by simp only [List.length_append, List.length_singleton, List.length_cons, List.length_nil]; omega⟩
    · exact ⟨ih.1, ih.2.1.snoc ih.2.2, by simp only [List.length_append, List.length_singleton, List.length_cons, List.length_nil, List.length_map, List.length_range, addAsks_length, List.length_cons, List.length_nil]; omega⟩
theorem progC_fit {M : Nat} (hM : 100 ≤ M) : ∀ (g : List Df) (s : MS), (∀ d ∈ g, d.many ≤ 10 ∧ ∀ r ∈ d.rows, RwFit M d.many r) → DueFit M s.2.1 → LenOk M s.1 → DueFit M (progC g s).2.1 ∧ LenOk M (progC g s).1
  | [], s, _, h, hl => ⟨h, hl⟩
  | d :: g, s, hg, h, hl => by
    obtain ⟨a, b⟩ := hg d (List.mem_cons_self ..)
    obtain ⟨r1, r2, r3⟩ := rowsC_fit hM d.many a d.rows s b h hl
    exact progC_fit hM g _ (fun e z => hg e (List.mem_cons_of_mem _ z)) r1 (r2.snoc r3)
theorem AddDue.fit {M : Nat} (hM : 100 ≤ M) {s s' : MS} (h : AddDue s s') : DueFit M s.2.1 → LenOk M s.1 → LenOk M s'.1 := by
  induction h with
  | done m n => intro _ h; exact h
  | @step m d n many nm b s' _ ih =>
    intro h hl
    have hx := h (nm, many, b) (by simp)
    have hd : DueFit M d := fun x z => h x (by simp [z])
    have hx' : TmFit M (List.range many).length b := by rw [List.length_range]; exact hx
    have hs := codeOf_short (List.range many) b (d, n) hx'
    exact ih (codeOf_fit _ _ _ hx' hd) (hl.snoc (by show (_ ++ [Ins.tell]).length ≤ M; simp only [List.length_append, List.length_singleton, List.length_cons, List.length_nil]; omega))
end K46
/-! K46M12 -/
set_option maxHeartbeats 4000000
namespace K46
open PySem PySem.Spec PyProof.Rows L2 C8
/-! ### names that are dots -/
theorem tl_dot (k : Nat) : TL.tl (dot k) = 46 :: TL.numL k := by
  unfold dot
  rw [TL.tl_append, TL.tl_num]
  have : TL.tl (Str.ofString ".") = [46] := by decide +kernel
  rw [this]
  rfl
theorem dot_inj {a b : Nat} (h : dot a = dot b) : a = b := by
  have := congrArg TL.tl h
  rw [tl_dot, tl_dot] at this
  exact TL.numL_inj (List.cons.inj this).2
theorem dot_ne (k : Nat) : dot k ≠ Str.ofString "." := fun h => by
  have := congrArg TL.tl h
  rw [tl_dot, show TL.tl (Str.ofString ".") = [46] by decide +kernel] at this
  exact TL.numL_ne k (List.cons.inj this).2
/-- a name: up to eight letters -/
def Nm (x : Str) : Prop := TL.tl x ≠ [] ∧ (TL.tl x).length ≤ 8 ∧ ∀ c ∈ TL.tl x, 97 ≤ c ∧ c ≤ 122
theorem Nm.ne_dot {x : Str} (h : Nm x) (k : Nat) : x ≠ dot k := fun e => by
  have := h.2.2 46 (by rw [e, tl_dot]; exact List.mem_cons_self ..)
  omega
theorem Nm.ne_own {x : Str} (h : Nm x) : x ≠ Str.ofString "." := fun e => by
  have := h.2.2 46 (by rw [e, show TL.tl (Str.ofString ".") = [46] by decide +kernel]; exact List.mem_cons_self ..)
  omega
theorem dots_nodup (k : Nat) : (dots 0 k).Nodup := by
  unfold dots
  have h : List.Pairwise (fun a b : Nat => a ≠ b) (List.range k) := List.nodup_range
  refine List.pairwise_map.mpr (h.imp fun {a b} hab (e : dot (0 + a + 1) = dot (0 + b + 1)) => hab ?_)
  have := dot_inj e
  omega
theorem dots_mem {x : Str} {k : Nat} (h : x ∈ dots 0 k) : ∃ i, x = dot i := by
  obtain ⟨i, _, rfl⟩ := List.mem_map.mp h
  exact ⟨_, rfl⟩
theorem dots_mem' {x : Str} {k : Nat} (h : x ∈ dots 0 k) : ∃ i, i ≤ k ∧ x = dot i := by
  obtain ⟨i, hi, rfl⟩ := List.mem_map.mp h
  have := List.mem_range.mp hi
  exact ⟨_, by omega, rfl⟩
theorem all_nodup {g : List Df} (hn : (g.map (·.name)).Nodup) (hm : ∀ d ∈ g, Nm d.name) (k : Nat) : (g.map (·.name) ++ Str.ofString "." :: dots 0 k).Nodup := by
  refine List.nodup_append.mpr ⟨hn, List.nodup_cons.mpr ⟨fun h => ?_, dots_nodup k⟩, fun a ha b hb e => ?_⟩
  · obtain ⟨i, e⟩ := dots_mem h
    exact dot_ne i e.symm
  · subst e
    obtain ⟨d, hd, rfl⟩ := List.mem_map.mp ha
    rcases List.mem_cons.mp hb with e | h
    · exact (hm d hd).ne_own e
    · obtain ⟨i, e⟩ := dots_mem h
      exact (hm d hd).ne_dot i e
/-! ### how many blocks -/
theorem AddDue.len {s s' : MS} (h : AddDue s s') : DueOk s.2.1 → s'.1.length ≤ s.1.length + dueW s.2.1 := by
  induction h with
  | done m n => intro _; exact Nat.le_add_right _ _
  | @step m d n many nm b s' _ ih =>
    intro h
    have okb := h (nm, many, b) (by simp)
    have okd : DueOk d := fun x z => h x (by simp [z])
    have bd := codeOf_bd (List.range many) b (d, n) (by rw [List.length_range]; exact okb.1) (by rw [List.length_range]; exact okb.2) okd
    have := ih bd.2.2.2.2
    simp only [List.length_append, List.length_singleton, dueW_append, dueW] at this bd ⊢
    omega
theorem MadeOf.len {g : List Df} {t : Tm} {bs : List Bk} (h : MadeOf g t bs) (hg : ∀ d ∈ g, DfOk d) (ht : TmOk 0 t) (hn : nodes t ≤ 2000) : bs.length ≤ g.length + 1 + progW g + nodes t := by
  obtain ⟨n, h⟩ := h
  have h1 := progC_bd g ([], ([], 0)) hg (fun x z => by cases z)
  have h2 := codeOf_bd [] t (progC g ([], ([], 0))).2 ht (by simpa using hn) h1.2.2.2
  have h3 := codeOf_sum [] t (progC g ([], ([], 0))).2
  have h4 := h.len h2.2.2.2.2
  obtain ⟨am, ad, k, e, p⟩ := progC_names g ([], ([], 0))
  have hp := p.length_eq
  simp only [List.length_append, List.length_map, dots, List.length_range] at hp
  simp only [List.nil_append, Nat.zero_add] at e
  rw [e] at h1 h2 h3 h4
  simp only [List.length_append, List.length_singleton, dueW] at h1 h2 h3 h4
  omega
/-! ### what is made is good -/
structure MadeGood (M : Nat) (g : List Df) (t : Tm) (bs : List Bk) (S : Shs) : Prop where
  nd : (nmB bs).Nodup
  good : Good M bs g S
  own : ∃ c, codeIn bs "." = some (c ++ [.tell]) ∧ CodesFor bs [] [t] c ∧ c.length ≤ M
  few : bs.length ≤ g.length + 1 + progW g + nodes t
  defs : ∀ d ∈ g, ∃ b ∈ bs, b.name = d.name ∧ b.many = d.many
  term : ∃ b ∈ bs, b.name = Str.ofString "." ∧ b.many = 0
  only : ∀ b ∈ bs, (∃ d ∈ g, b.name = d.name) ∨ b.name = Str.ofString "." ∨ ∃ k, k ≤ bs.length ∧ b.name = dot k
  lens : LenOk M bs
theorem MadeOf.good {M : Nat} (hM : 100 ≤ M) (hM2 : M ≤ MaxC) {g : List Df} {t : Tm} {bs : List Bk} {S : Shs} (h : MadeOf g t bs) (hg : ∀ d ∈ g, DfOk d) (ht : TmOk 0 t) (hn : nodes t ≤ 2000) (nd : (g.map (·.name)).Nodup) (nm : ∀ d ∈ g, Nm d.name) (hs : ProgS S g)
    (hf : ∀ d ∈ g, d.rows.length ≤ 4 ∧ d.many ≤ 10 ∧ ∀ r ∈ d.rows, RwFit M d.many r) (htf : TmFit M 0 t) : MadeGood M g t bs S := by
  obtain ⟨k, p⟩ := h.names
  have hnd : (nmB bs).Nodup := p.nodup_iff.mpr (all_nodup nd nm k)
  have hin := codeIn_nodup hnd
  have hlen := h.len hg ht hn
  obtain ⟨n, h⟩ := h
  obtain ⟨a1, a2⟩ := h.good hin
  have f1 := progC_fit hM g ([], ([], 0)) (fun d z => (hf d z).2) (fun x z => by cases z) (fun x z => by cases z)
  have f2 := codeOf_fit [] t (progC g ([], ([], 0))).2 htf f1.1
  have f3 := codeOf_short [] t (progC g ([], ([], 0))).2 htf
  have f4 := h.fit hM f2 (f1.2.snoc (by simp only [List.length_append, List.length_singleton]; omega))
  obtain ⟨a3, k3, e3, _⟩ := codeOf_names [] t (progC g ([], ([], 0))).2
  have hp := progC_for g ([], ([], 0)) (fun x hx => a1 x (by
    show x ∈ (codeOf [] t (progC g ([], ([], 0))).2).2.1
    rw [e3]
    exact List.mem_append_left _ hx)) (fun b hb => a2 b (List.mem_append_left _ hb))
  obtain ⟨am, k4, e4, _⟩ := h.names
  have hsub : ∀ b, b ∈ (progC g ([], ([], 0))).1 ++ [⟨Str.ofString ".", 0, (codeOf [] t (progC g ([], ([], 0))).2).1 ++ [Ins.tell]⟩] → b ∈ bs := fun b hb => by
    have := congrArg Prod.fst e4
    simp only at this
    rw [this]
    exact List.mem_append_left _ hb
  refine ⟨hnd, ⟨hM2, fun n c e => ?_, fun d hd => ?_, fun d hd => ⟨(hf d hd).1, fun r hr => ?_⟩, hs⟩, ?_, hlen, fun d hd => ?_, ?_, fun b hb => ?_, f4⟩
  · obtain ⟨b, hb, _, rfl⟩ := codeIn_mem e
    exact f4 b hb
  · obtain ⟨c, _, c2, c3⟩ := hp d hd
    exact ⟨c, c2, c3⟩
  · have := (hf d hd).2.1
    have := ((hf d hd).2.2 r hr).2
    omega
  · exact ⟨_, a2 _ (List.mem_append_right _ (List.mem_singleton.mpr rfl)), codeOf_for1 _ _ _ a1, by omega⟩
  · obtain ⟨c, c1, _⟩ := hp d hd
    exact ⟨_, hsub _ (List.mem_append_left _ c1), rfl, rfl⟩
  · exact ⟨_, hsub _ (List.mem_append_right _ (List.mem_singleton.mpr rfl)), rfl, rfl⟩
  · have := p.mem_iff.mp (List.mem_map.mpr ⟨b, hb, rfl⟩)
    rcases List.mem_append.mp this with h | h
    · obtain ⟨d, hd, e⟩ := List.mem_map.mp h
      exact .inl ⟨d, hd, e.symm⟩
    · rcases List.mem_cons.mp h with h | h
      · exact .inr (.inl h)
      · obtain ⟨i, hi, e⟩ := dots_mem' h
        have hpl := p.length_eq
        simp only [List.length_append, List.length_map, List.length_cons, dots, List.length_range, nmB] at hpl
        exact .inr (.inr ⟨i, by omega, e⟩)
end K46
/-! K46R3 -/
set_option maxHeartbeats 4000000
namespace K46
open PySem PySem.Spec PyProof.Rows L2
/-! ### a text times a number from 1 on -/
def repS (i : Str) (n : Nat) : Str := ⟨(List.replicate n i.cps).foldl (· ++ ·) #[]⟩
theorem repS_one (i : Str) : repS i 1 = i := by
  show (⟨#[] ++ i.cps⟩ : Str) = i
  rw [Array.empty_append]
theorem size_fold (xs : Array Nat) : ∀ (n : Nat) (a : Array Nat), ((List.replicate n xs).foldl (· ++ ·) a).size = a.size + xs.size * n
  | 0, a => by simp
  | n + 1, a => by
    rw [List.replicate_succ, List.foldl_cons, size_fold xs n, Array.size_append, Nat.mul_succ]
    omega
theorem size_repS (i : Str) (n : Nat) : (repS i n).cps.size = i.length * n := by
  show ((List.replicate n i.cps).foldl (· ++ ·) #[]).size = _
  rw [size_fold]
  show 0 + _ = _
  rw [Nat.zero_add]
  rfl
def rMulS : R2 := fun x y H Q => ∃ (i : Str) (n : Nat), x = .str i ∧ y = .int (n : Int) ∧ 1 ≤ n ∧ i.length ≠ 0 ∧ i.length * n ≤ sizeLine ∧ Q (.str (repS i n)) H
theorem op_mulS {X : Cx} : OpR X (binaryOp .Mult) rMulS := by
  intro pins s σ H x y v u Q I rx ry h
  obtain ⟨i, n, rfl, rfl, h1, h0, hz, q⟩ := h
  obtain ⟨t, rfl⟩ := rx
  obtain ⟨t', rfl⟩ := ry
  have hs : sizeLine = 2 ^ 24 := rfl
  have hl1 : 1 ≤ i.length := by omega
  have hn : n ≤ sizeLine := Nat.le_trans (Nat.le_mul_of_pos_left n hl1) hz
  have hi : i.length ≤ sizeLine := Nat.le_trans (Nat.le_mul_of_pos_right _ h1) hz
  have hge : ¬ (n : Int) < 1 := by omega
  refine P.mul_str ?_ (fun _ _ => ?_) (fun _ _ => ?_) ?_
  · rw [decide_eq_false (by omega), decide_eq_false (by omega)]; rfl
  · have : (i.length : Int) ≤ (2 ^ 63 - 1) / (n : Int) := by
      apply Int.le_ediv_of_mul_le (by omega)
      have h3 : ((i.length * n : Nat) : Int) ≤ 2 ^ 24 := by
        have h4 : i.length * n ≤ 2 ^ 24 := hz
        omega
      rw [Int.natCast_mul] at h3
      omega
    omega
  · show decide (_ > sizeLine) = false
    rw [Int.toNat_natCast]
    exact decide_eq_false (by omega)
  · rw [if_neg hge]
    by_cases hc : ((n : Int) == 1 || i.length == 0) = true
    · rw [if_pos hc]
      have hn1 : n = 1 := by
        rcases Bool.or_eq_true _ _ ▸ hc with h | h
        · have := of_decide_eq_true (by simpa using h : decide ((n : Int) = 1) = true)
          omega
        · exact absurd (by simpa using h) h0
      subst hn1
      refine ⟨.str (repS i 1), H, I, ?_, q⟩
      rw [repS_one]
      exact ⟨_, rfl⟩
    · rw [if_neg hc, Int.toNat_natCast]
      refine ⟨?_, .str (repS i n), H, I.tok _, ⟨_, rfl⟩, q⟩
      show (repS i n).cps.size ≤ sizeLine
      rw [show (repS i n).cps.size = i.length * n from size_repS i n]
      exact hz
end K46
/-! K46P2 -/
set_option maxHeartbeats 4000000
namespace K46
open PySem PySem.Spec PyProof.Rows L2 C8
/-! ### names, plain -/
def letC (f k : Nat) : Nat := 97 + (f + 5 * k) % 26
theorem letC_inj {f a b : Nat} (ha : a < 26) (hb : b < 26) (h : letC f a = letC f b) : a = b := by
  unfold letC at h
  omega
def one1 (c : Nat) : Str := ⟨#[c]⟩
theorem tl_one1 (c : Nat) : TL.tl (one1 c) = [c] := rfl
/-- letters -/
def Low (l : List Nat) : Prop := ∀ c ∈ l, 97 ≤ c ∧ c ≤ 122
theorem Low.letC (f k : Nat) : 97 ≤ letC f k ∧ letC f k ≤ 122 := by
  unfold K46.letC
  omega
theorem Low.append {a b : List Nat} (h : Low a) (h2 : Low b) : Low (a ++ b) := fun c z => (List.mem_append.mp z).elim (h c) (h2 c)
theorem Low.one {c : Nat} (h : 97 ≤ c ∧ c ≤ 122) : Low [c] := fun x z => List.mem_singleton.mp z ▸ h
theorem Low.take {a : List Nat} (n : Nat) (h : Low a) : Low (a.take n) := fun c z => h c (List.mem_of_mem_take z)
theorem Low.drop {a : List Nat} (n : Nat) (h : Low a) : Low (a.drop n) := fun c z => h c (List.mem_of_mem_drop z)
theorem tl_cutTo (x : Str) (n : Nat) : TL.tl (cutS x none (some (n : Int))) = (TL.tl x).take n := by
  show ((x.cps.toList.drop (HT.sIx x.length 0 none)).take (HT.sIx x.length x.length (some (n : Int)) - HT.sIx x.length 0 none)) = _
  rw [HT.sIx_none, HT.sIx_nat, List.drop_zero, Nat.sub_zero]
  have : x.length = x.cps.toList.length := by simp [Str.length]
  rw [this]
  by_cases h : n ≤ x.cps.toList.length
  · rw [Nat.min_eq_left h]
  · rw [Nat.min_eq_right (by omega), List.take_of_length_le (Nat.le_refl _), List.take_of_length_le (by show x.cps.toList.length ≤ n; omega)]
theorem tl_cutFrom (x : Str) (n : Nat) : TL.tl (cutS x (some (n : Int)) none) = (TL.tl x).drop n := by
  show ((x.cps.toList.drop (HT.sIx x.length 0 (some (n : Int)))).take (HT.sIx x.length x.length none - HT.sIx x.length 0 (some (n : Int)))) = _
  rw [HT.sIx_none, HT.sIx_nat]
  have e : x.length = x.cps.toList.length := by simp [Str.length]
  rw [e]
  by_cases h : n ≤ x.cps.toList.length
  · rw [Nat.min_eq_left h]
    exact List.take_of_length_le (by rw [List.length_drop]; exact Nat.le_refl _)
  · rw [Nat.min_eq_right (by omega), List.drop_eq_nil_of_le (Nat.le_refl _), List.drop_eq_nil_of_le (by show x.cps.toList.length ≤ n; omega)]
    simp
theorem tl_repS (c n : Nat) : TL.tl (repS (one1 c) n) = List.replicate n c := by
  have h : ∀ (n : Nat) (a : Array Nat), ((List.replicate n (#[c] : Array Nat)).foldl (· ++ ·) a).toList = a.toList ++ List.replicate n c := by
    intro n
    induction n with
    | zero => intro a; simp
    | succ n ih =>
      intro a
      rw [List.replicate_succ, List.foldl_cons, ih, List.replicate_succ]
      simp
  exact (h n #[]).trans (by simp)
/-- the k-th name -/
def nmAt (word : Str) (way f k : Nat) : Str := match way with
  | 0 => one1 (letC f k)
  | 1 => repS (one1 (letC f k)) (1 + k % 8)
  | 2 => cutS word none (some ((3 : Nat) : Int)) ++ one1 (letC f k) ++ cutS word (some ((4 : Nat) : Int)) none
  | _ => one1 (letC f k) ++ cutS word none (some ((k % 7 : Nat) : Int))
theorem nmAt_at (word : Str) (hw : (TL.tl word).length = 8) (way f k : Nat) : (TL.tl (nmAt word way f k))[if way = 2 then 3 else 0]? = some (letC f k) := by
  unfold nmAt
  match way with
  | 0 => rfl
  | 1 =>
    show (TL.tl (repS (one1 (letC f k)) (1 + k % 8)))[0]? = _
    rw [tl_repS, Nat.add_comm, List.replicate_succ]
    rfl
  | 2 =>
    show (TL.tl (cutS word none (some ((3 : Nat) : Int)) ++ one1 (letC f k) ++ cutS word (some ((4 : Nat) : Int)) none))[3]? = _
    rw [TL.tl_append, TL.tl_append, tl_cutTo, tl_cutFrom, tl_one1, List.append_assoc, List.getElem?_append_right (by rw [List.length_take, hw]; decide), List.length_take, hw]
    rfl
  | way + 3 =>
    show (TL.tl (one1 (letC f k) ++ cutS word none (some ((k % 7 : Nat) : Int))))[0]? = _
    rw [TL.tl_append, tl_one1]
    rfl
theorem nmAt_nm (word : Str) (hw : (TL.tl word).length = 8) (hl : Low (TL.tl word)) (way f k : Nat) : Nm (nmAt word way f k) := by
  refine ⟨fun e => ?_, ?_, ?_⟩
  · have := nmAt_at word hw way f k
    rw [e] at this
    simp at this
  · unfold nmAt
    match way with
    | 0 => exact (by decide : 1 ≤ 8)
    | 1 =>
      show (TL.tl (repS (one1 (letC f k)) (1 + k % 8))).length ≤ 8
      rw [tl_repS, List.length_replicate]
      omega
    | 2 =>
      show (TL.tl (cutS word none (some ((3 : Nat) : Int)) ++ one1 (letC f k) ++ cutS word (some ((4 : Nat) : Int)) none)).length ≤ 8
      rw [TL.tl_append, TL.tl_append, tl_cutTo, tl_cutFrom, tl_one1]
      simp only [List.length_append, List.length_take, List.length_drop, hw, List.length_singleton]
      decide
    | way + 3 =>
      show (TL.tl (one1 (letC f k) ++ cutS word none (some ((k % 7 : Nat) : Int)))).length ≤ 8
      rw [TL.tl_append, tl_one1, tl_cutTo]
      simp only [List.length_append, List.length_take, hw, List.length_singleton]
      omega
  · show Low (TL.tl (nmAt word way f k))
    have hc := Low.letC f k
    unfold nmAt
    match way with
    | 0 => exact Low.one hc
    | 1 =>
      show Low (TL.tl (repS (one1 (letC f k)) (1 + k % 8)))
      rw [tl_repS]
      exact fun c z => (List.mem_replicate.mp z).2 ▸ hc
    | 2 =>
      show Low (TL.tl (cutS word none (some ((3 : Nat) : Int)) ++ one1 (letC f k) ++ cutS word (some ((4 : Nat) : Int)) none))
      rw [TL.tl_append, TL.tl_append, tl_cutTo, tl_cutFrom, tl_one1]
      exact ((hl.take 3).append (Low.one hc)).append (hl.drop 4)
    | way + 3 =>
      show Low (TL.tl (one1 (letC f k) ++ cutS word none (some ((k % 7 : Nat) : Int))))
      rw [TL.tl_append, tl_one1, tl_cutTo]
      exact (Low.one hc).append (hl.take _)
theorem nmAt_inj (word : Str) (hw : (TL.tl word).length = 8) (way f : Nat) {a b : Nat} (ha : a < 26) (hb : b < 26) (h : nmAt word way f a = nmAt word way f b) : a = b := by
  have h1 := nmAt_at word hw way f a
  have h2 := nmAt_at word hw way f b
  rw [h, h2] at h1
  exact letC_inj ha hb (Option.some.inj h1.symm)
theorem nmAts_nodup (word : Str) (hw : (TL.tl word).length = 8) (way f n : Nat) (hn : n ≤ 26) : ((List.range n).map (nmAt word way f)).Nodup := by
  have h : List.Pairwise (fun a b : Nat => a ≠ b) (List.range n) := List.nodup_range
  refine List.pairwise_map.mpr ((List.Pairwise.and_mem.mp h).imp fun {a b} hab e => hab.2.2 ?_)
  exact nmAt_inj word hw way f (by have := List.mem_range.mp hab.1; omega) (by have := List.mem_range.mp hab.2.1; omega) e
end K46
/-! K46P0 -/
set_option maxHeartbeats 4000000
namespace K46
open PySem PySem.Spec PyProof.Rows L2 C8
section
variable {J : It} {n : Nat} {G : Hp → Prop} {Y : Nat → Hp → V → Hp → Prop} {K : PySem.W.Frag}
/-- a list comprehension whose items change what stands at S -/
theorem lc_dr (w : Walk J n G Y) {g : TG} {tt : TT} {te : TE} {vs : List Nat} {σ : L2.St} {H1 : Hp} {D : Addr} {Qd : Hp → Prop} (S : List Addr) (Pv : Nat → List V → Hp → Prop) (hz : n ≤ sizeLine) (nD : H1 D = none) (hS : ∀ b ∈ S, H1 b ≠ none)
    (h0 : ∀ H, Keep [] H1 H → Pv 0 [] H) (hG : ∀ H, Keep S H1 H → G H)
    (hs : ∀ (i : Nat) (x : V) (H H' : Hp) (ys : List V) (Qn : VK) (F : Hp → Prop), i < n → Keep S H1 H → H D = some (.lst ys) → ys.length = i → Pv i ys H → Y i H x H' → (∀ y H4, Keep S H H4 → (∀ H5, Keep [D] H4 H5 → Pv (i + 1) (ys ++ [y]) H5) → Qn y H4) → g x (wipe σ vs) H' fun σ2 H2 => wipe σ2 vs = wipe σ vs ∧ tt σ2 H2 fun b H3 => if b = true then te σ2 H3 Qn else F H3)
    (hd : ∀ ys H, Keep S H1 H → H D = some (.lst ys) → ys.length = n → Pv n ys H → Qd H) :
    ∃ W : Nat → Nat → Hp → Prop, (∃ m, W 0 m (upd H1 D (.lst []))) ∧ ∀ i m H, W i m H →
      (J.stop i H ∧ Qd H) ∨ (J.go i H ∧ ∃ Nx : Hp → Prop, (∀ H', Nx H' → ∃ m', m' < m ∧ W (i + 1) m' H') ∧ ∀ x H', J.yld i H x H' → g x (wipe σ vs) H' fun σ2 H2 => wipe σ2 vs = wipe σ vs ∧ tt σ2 H2 fun b H3 =>
        if b = true then te σ2 H3 fun y H4 => ∃ acc, H4 D = some (.lst acc) ∧ acc.length < sizeLine ∧ Nx (upd H4 D (.lst (acc ++ [y]))) else Nx H3) := by
  have nDS : D ∉ S := fun z => hS D z nD
  refine lc_it w (fun i H => ∃ ys, Keep S H1 H ∧ H D = some (.lst ys) ∧ ys.length = i ∧ Pv i ys H) ⟨[], Keep.new nD (Keep.refl _ _), upd_same, rfl, h0 _ (Keep.new nD (Keep.refl _ _))⟩ (fun i H _ ⟨ys, k, _⟩ => hG H k) (fun i x H H' hi ⟨ys, k, hD, hl, hp⟩ y => ?_) (fun H ⟨ys, k, hD, hl, hp⟩ => hd ys H k hD hl hp)
  refine hs i x H H' ys _ _ hi k hD hl hp y fun y H4 k4 hp4 => ?_
  have hD4 := k4.at_ _ _ nDS hD
  exact ⟨ys, hD4, by omega, ys ++ [y], Keep.lst hD4 (.inr nD) (k.trans k4), upd_same, by simp [hl], hp4 _ (Keep.lst hD4 (.inl (by simp)) (Keep.refl _ _))⟩
end
end K46
/-! K46P3 -/
set_option maxHeartbeats 4000000
namespace K46
open PySem PySem.Spec PyProof.Rows L2 C8
theorem len_add (i j : Str) : (i ++ j).length = i.length + j.length := by rw [TL.len_tl, TL.len_tl, TL.len_tl, TL.tl_append, List.length_append]
theorem DeckOk.there {H : Hp} {dk cs : Addr} (d : DeckOk H dk cs) : ∀ b ∈ [dk, cs], H b ≠ none := fun b z => by
  obtain ⟨m, k, ns, e1, e2, _⟩ := d.ex
  simp only [List.mem_cons, List.not_mem_nil, or_false] at z
  rcases z with rfl | rfl
  · rw [e1]; simp
  · rw [e2]; simp
theorem tl_joins : ∀ cs : List Nat, TL.tl (Txt.join "" (cs.map one1)) = cs := fun cs => by
  rw [TL.join_eq, TL.tl_join, List.map_map, show TL.tl (Str.ofString "") = [] by decide +kernel]
  have h : ∀ cs : List Nat, TL.joinL [] (cs.map (TL.tl ∘ one1)) = cs := by
    intro cs
    induction cs with
    | nil => rfl
    | cons c cs ih =>
      cases cs with
      | nil => rfl
      | cons d cs =>
        show [c] ++ ([] ++ TL.joinL [] ((d :: cs).map (TL.tl ∘ one1))) = _
        rw [ih]
        rfl
  exact h cs
section
variable {P : Program} {w : World} {K : PySem.W.Frag} {mg : Str → Option Value} {base : Heap}
abbrev abc : Str := "abcdefghijklmnopqrstuvwxyz"
theorem abc_at {i : Nat} (h : i < 26) : abc.cps.toList[i]? = some (97 + i) := (by decide +kernel : ∀ i < 26, abc.cps.toList[i]? = some (97 + i)) i h
def sp_names (K : PySem.W.Frag) : Sp := fun vs H Q _ => ∃ (dk cs : Addr) (n : Nat), vs = [.ref dk, .int (n : Int)] ∧ DeckOk H dk cs ∧ n ≤ 8 ∧ ∀ (l : Addr) (ns : List Str) H', Keep [dk, cs] H H' → DeckOk H' dk cs → H l = none → H' l = some (.lst (ns.map V.str)) → ns.length = n → ns.Nodup → (∀ x ∈ ns, Nm x) → Q (.ref l) H'
theorem ok_names (T : Tx K mg) : Cal P w K mg base 2 "_law_names" (sp_names K) [] := by
  have c_draw := ok_draw (P := P) (w := w) (base := base) T
  refine cal_mk T.f_names T.g_names sc_names (fun _ _ _ _ _ _ us hl => match us, hl with | [_, _], _ => rfl) (fun vs H Q E h => ?_) (fun cdv A outer s0 H vs Q E hr h => ?_)
  · obtain ⟨dk, cs, n, rfl, _⟩ := h
    rfl
  · obtain ⟨dk, cs, n, rfl, hd, hn, q⟩ := h
    refine ⟨_, (pss_cons (ps_set (i := 2) sc_names.nd rfl (Or.inr rfl) pe_str)
      (pss_cons (ps_par (i := 3) (j := 4) (by rfl) sc_names.nd rfl rfl (by decide) rfl rfl (pa_cons (pe_c c_draw hr (by omega) rfl (pa_cons (pv 0) (pa_cons pe_int pa_nil))) (pa_cons (pe_c c_draw hr (by omega) rfl (pa_cons (pv 0) (pa_cons pe_int pa_nil))) pa_nil)) (by rfl))
      (pss_cons (ps_set (i := 5) sc_names.nd rfl (Or.inl rfl) (pe_join pe_str (pe_lc (g := (gName 6)) rfl sc_names.nd (pi_range1 rfl T.z_range (pa_cons pe_int pa_nil)) (blkOk_by (own := [("_law_k", 6)]) (N := ["_law_deck_here", "_law_many", "_law_letters", "_law_way", "_law_first", "_law_word", "_law_k", "_law_found", "_law_letter"]) (sc := defScope s_names) (by decide +kernel)) (fun _ _ _ _ _ => (pg_name (i := 6) sc_names.nd rfl (Or.inl rfl))) (fun _ _ _ _ _ => pts_nil) (fun _ _ _ _ _ => (pe_ix ix_str (pv 2) (pe_c c_draw hr (by omega) rfl (pa_cons (pv 0) (pa_cons pe_int pa_nil))) (fun _ _ => rfl))))))
      (pss_cons (ps_set (i := 7) sc_names.nd rfl (Or.inl rfl) (pe_lst pa_nil))
      (pss_cons (ps_for PassesOwn.never rfl (pi_range1 rfl T.z_range (pa_cons (pv 1) pa_nil)) (pg_name (i := 6) sc_names.nd rfl (Or.inl rfl)) (pss_cons (ps_set (i := 8) sc_names.nd rfl (Or.inl rfl) (pe_ix ix_str (pv 2) (pe_op op_mod (pe_op op_add (pv 4) (pe_op op_mul pe_int (pv 6))) pe_int) (fun _ _ => rfl)))
      (pss_one (ps_expr (pe_bm PySem.F.plainAttrs_list PySem.F.slot_list_append PySem.F.type_list_append mt_append (pv 7) (pa_cons (pe_ix ix_list (pe_lst (pa_cons (pv 8) (pa_cons (pe_op op_mulS (pv 8) (pe_op op_add pe_int (pe_op op_mod (pv 6) pe_int))) (pa_cons (pe_op op_add_str (pe_op op_add_str (pe_slice sl_str (pv 5) po_none (po_some pe_int)) (pv 8)) (pe_slice sl_str (pv 5) (po_some pe_int) po_none)) (pa_cons (pe_op op_add_str (pv 8) (pe_slice sl_str (pv 5) po_none (po_some (pe_op op_mod (pv 6) pe_int)))) pa_nil))))) (pv 3) (fun _ _ => rfl)) pa_nil))))))
      (pss_one (ps_ret (pv 7)))))))), ?_⟩
    have len26 : abc.length ≤ sizeLine := by decide +kernel
    refine ⟨_, rfl, dk, cs, 4, rfl, hd, ⟨by decide, by decide⟩, fun way H1 hway k1 d1 => ?_⟩
    refine ⟨_, rfl, dk, cs, 26, rfl, d1, ⟨by decide, by decide⟩, fun first H2 hfirst k2 d2 => ?_⟩
    have k12 := k1.trans k2
    refine ⟨_, _, rfl, ?_⟩
    refine ⟨⟨_, rfl⟩, 8, rfl, by decide, by decide, fun D nD => lc_dr (walk_range (n := 8)) [dk, cs] (fun i ys H => DeckOk H dk cs ∧ ∃ zs : List Nat, ys = (zs.map one1).map V.str ∧ Low zs) (by decide) nD d2.there (fun H k => ⟨d2.keep0 k, [], rfl, fun c z => by cases z⟩) (fun _ _ => trivial) (fun i x H3 H4 ys Qn F hi k3 hD3 hl3 hp y1 hQ => ?_) (fun ys H3 k3 hD hl hp => ?_)⟩
    · obtain ⟨rfl, rfl⟩ := y1
      obtain ⟨d3, zs, rfl, hlow⟩ := hp
      refine ⟨rfl, tyes ?_⟩
      refine ⟨_, rfl, _, rfl, dk, cs, 26, rfl, d3, ⟨by decide, by decide⟩, fun c H5 hc k5 d5 => ?_⟩
      refine ⟨abc, (c : Int), 97 + c, rfl, rfl, len26, atI_nat (abc_at hc), ?_⟩
      exact hQ _ _ k5 fun H6 k6 => ⟨d5.keep k6 (by simp [(d2.no nD).1.symm]) (by simp [(d2.no nD).2.symm]), zs ++ [97 + c], by simp [one1], hlow.append (Low.one (by omega))⟩
    · obtain ⟨d3, zs, rfl, hlow⟩ := hp
      have hz8 : zs.length = 8 := by simpa using hl
      have hsum : ∀ zs : List Nat, ((zs.map one1).map (·.length)).sum = zs.length := by
        intro zs
        induction zs with
        | nil => rfl
        | cons c zs ih =>
          rw [List.map_cons, List.map_cons, List.sum_cons, ih, List.length_cons]
          show 1 + zs.length = _
          omega
      refine ⟨_, D, zs.map one1, rfl, rfl, .inl (.of hD), ?_, ?_⟩
      · rw [hsum, hz8, List.length_map, hz8]
        decide +kernel
      · have hw8 : (TL.tl (Txt.join "" (zs.map one1))).length = 8 := by rw [tl_joins, hz8]
        have hwl : Low (TL.tl (Txt.join "" (zs.map one1))) := by rw [tl_joins]; exact hlow
        generalize Txt.join "" (zs.map one1) = word at hw8 hwl
        refine ⟨by decide, fun f nf => ?_⟩
        have kf := Keep.new (o := .lst []) nf (Keep.refl [] H3)
        have hz100 : 100 ≤ sizeLine := by decide
        have hwl8 : word.length = 8 := by rw [TL.len_tl]; exact hw8
        refine ⟨_, rfl, (n : Int), rfl, by omega, by omega, for_it (walk_range (n := n)) (fun i σ H' => ∃ o6 o8, σ = [some (.ref dk), some (.int n), some (.str abc), some (.int way), some (.int first), some (.str word), o6, some (.ref f), o8] ∧ Keep [] H3 H' ∧ H' f = some (.lst (((List.range i).map (nmAt word way first)).map V.str)))
          ⟨none, none, rfl, kf, upd_same⟩ (fun _ _ _ _ _ => trivial) (fun i v σ H4 H5 hi ⟨o6, o8, e, k4, hf⟩ yy => ?_) (fun σ H4 ⟨o6, o8, e, k4, hf⟩ => ?_)⟩
        · obtain ⟨rfl, rfl⟩ := yy
          subst e
          have e26 : ((first : Int) + 5 * (0 + (i : Int))) % 26 = (((first + 5 * i) % 26 : Nat) : Int) := by omega
          have e8 : (1 : Int) + (0 + (i : Int)) % 8 = ((1 + i % 8 : Nat) : Int) := by omega
          have e7 : (0 + (i : Int)) % 7 = ((i % 7 : Nat) : Int) := by omega
          refine ⟨_, rfl, _, rfl, _, rfl, _, _, rfl, rfl, .inl ⟨by decide, by decide⟩, _, _, rfl, rfl, _, _, rfl, rfl, (by show (0 : Int) < _; decide), ?_⟩
          refine ⟨abc, (((first + 5 * i) % 26 : Nat) : Int), 97 + (first + 5 * i) % 26, rfl, congrArg V.int e26, len26, atI_nat (abc_at (Nat.mod_lt _ (by decide))), ?_⟩
          have hl1 : (one1 (letC first i)).length = 1 := rfl
          have hc3 : (cutS word none (some 3)).length ≤ 8 := hwl8 ▸ cutS_length _ _ _
          have hc4 : (cutS word (some 4) none).length ≤ 8 := hwl8 ▸ cutS_length _ _ _
          have hc7 : (cutS word none (some ((i % 7 : Nat) : Int))).length ≤ 8 := hwl8 ▸ cutS_length _ _ _
          refine ⟨_, rfl, .inl ⟨rfl, _, .of hf⟩, _, rfl, _, rfl, _, rfl, _, _, rfl, rfl, (by show (0 : Int) < _; decide), _, _, rfl, rfl, ?_⟩
          refine ⟨one1 (letC first i), 1 + i % 8, rfl, congrArg V.int e8, by omega, by rw [hl1]; decide, by rw [hl1]; omega, ?_⟩
          refine ⟨_, rfl, _, rfl, _, rfl, by omega, _, rfl, _, one1 (letC first i), rfl, rfl, by omega, ?_⟩
          refine ⟨_, rfl, _, rfl, _, rfl, by omega, _, _, rfl, rfl, by rw [len_add]; omega, ?_⟩
          refine ⟨_, rfl, _, rfl, _, rfl, _, _, rfl, rfl, (by show (0 : Int) < _; decide), ?_⟩
          refine ⟨((i % 7 : Nat) : Int), congrArg V.int e7, word, rfl, by omega, one1 (letC first i), _, rfl, rfl, by omega, ?_⟩
          refine ⟨(by show 4 ≤ sizeLine; decide), fun t nt => ?_⟩
          have kt := Keep.new (o := .lst [V.str (nmAt word 0 first i), V.str (nmAt word 1 first i), V.str (nmAt word 2 first i), V.str (nmAt word 3 first i)]) nt (Keep.refl [] H5)
          have hget : [V.str (nmAt word 0 first i), V.str (nmAt word 1 first i), V.str (nmAt word 2 first i), V.str (nmAt word 3 first i)][way]? = some (V.str (nmAt word way first i)) := by
            match way, hway with
            | 0, _ => rfl
            | 1, _ => rfl
            | 2, _ => rfl
            | 3, _ => rfl
          refine ⟨_, rfl, t, _, (way : Int), V.str (nmAt word way first i), rfl, rfl, .of upd_same, atI_nat hget, ?_⟩
          have hf5 := kt.at_ _ _ (by simp) hf
          refine ⟨f, _, _, rfl, rfl, hf5, by rw [List.length_map, List.length_map, List.length_range]; omega, ?_⟩
          refine ⟨_, _, rfl, Keep.lst hf5 (.inr nf) (k4.trans kt), ?_⟩
          rw [upd_same, List.range_succ, List.map_append, List.map_append]
          rfl
        · subst e
          refine ⟨_, rfl, ?_⟩
          have kk : Keep [dk, cs] H H4 := k12.trans (k3.trans (k4.mono (by simp)))
          have n2 := d3.no nf
          refine q f _ H4 kk (d3.keep0 k4) ((k12.trans k3).none_of (by simp [n2.1, n2.2]) nf) hf (by rw [List.length_map, List.length_range]) (nmAts_nodup word hw8 way first n (by omega)) (fun x hx => ?_)
          obtain ⟨k, _, rfl⟩ := List.mem_map.mp hx
          exact nmAt_nm word hw8 hwl way first k
end
end K46
/-! K46N3 -/
set_option maxHeartbeats 4000000
namespace K46
open PySem PySem.Spec PyProof.Rows L2 C8
/-! ### kinds -/
/-- a shape's name -/
def ShN (n : Str) : Prop := n.length ≤ 8 ∧ ∀ c ∈ n.cps.toList, c < 1000
inductive Kd where
  | data | fn | wait | dull
structure Tab where
  S : Shs
  fn : Str → List Kd
/-! how high a term is for a run: bodies of closures do not count -/
mutual
def evh : Tm → Nat
  | .at _ => 0
  | .clo _ _ => 0
  | .nd _ ts => evhL ts
/-- one more than the highest -/
def evhL : List Tm → Nat
  | [] => 0
  | t :: ts => max (evh t + 1) (evhL ts)
end
theorem evhL_mem : ∀ {ts : List Tm} {t : Tm}, t ∈ ts → evh t + 1 ≤ evhL ts
  | [], _, h => by cases h
  | _ :: ts, t, h => by
    rcases List.mem_cons.mp h with rfl | h
    · exact Nat.le_max_left _ _
    · exact Nat.le_trans (evhL_mem h) (Nat.le_max_right _ _)
mutual
def HasK (F : Tab) : List Kd → Tm → Kd → Prop
  | Γ, .at i, κ => i < Γ.length ∧ Γ[Γ.length - 1 - i]? = some κ
  | Γ, .clo true b, κ => κ = .fn ∧ evh b ≤ 3 ∧ Γ.length ≤ 1000 ∧ HasK F (Γ ++ [.data]) b .data
  | Γ, .clo false b, κ => κ = .wait ∧ evh b ≤ 3 ∧ Γ.length ≤ 1000 ∧ HasK F Γ b .data
  | Γ, .nd (.shape n) ts, κ => κ = .data ∧ (ts.length = F.S.sh n ∧ ShN n) ∧ HasKs F Γ ts (List.replicate ts.length .data)
  | Γ, .nd (.call n) ts, κ => κ = .data ∧ ts.length = F.S.ca n ∧ ts ≠ [] ∧ HasKs F Γ ts (F.fn n)
  | Γ, .nd .give ts, κ => κ = .data ∧ HasKs F Γ ts [.fn, .data]
  | Γ, .nd .go ts, κ => κ = .data ∧ HasKs F Γ ts [.wait]
  | _, .nd .dull ts, κ => κ = .dull ∧ ts = []
def HasKs (F : Tab) : List Kd → List Tm → List Kd → Prop
  | Γ, t :: ts, κ :: κs => HasK F Γ t κ ∧ HasKs F Γ ts κs
  | _, [], [] => True
  | _, _, _ => False
end
mutual
def WoK (F : Tab) : Wo → Kd → Prop
  | .shape n ws, κ => κ = .data ∧ (ws.length = F.S.sh n ∧ ShN n) ∧ WosD F ws
  | .clo true b env, κ => κ = .fn ∧ evh b ≤ 3 ∧ ∃ Γ, Γ.length ≤ 1000 ∧ WosK F env Γ ∧ HasK F (Γ ++ [.data]) b .data
  | .clo false b env, κ => κ = .wait ∧ evh b ≤ 3 ∧ ∃ Γ, Γ.length ≤ 1000 ∧ WosK F env Γ ∧ HasK F Γ b .data
  | .dull, κ => κ = .dull
def WosK (F : Tab) : List Wo → List Kd → Prop
  | w :: ws, κ :: κs => WoK F w κ ∧ WosK F ws κs
  | [], [] => True
  | _, _ => False
def WosD (F : Tab) : List Wo → Prop
  | [] => True
  | w :: ws => WoK F w .data ∧ WosD F ws
end
theorem WosK.length {F : Tab} : ∀ {ws : List Wo} {κs : List Kd}, WosK F ws κs → ws.length = κs.length
  | [], [], _ => rfl
  | _ :: _, _ :: _, h => congrArg Nat.succ (WosK.length h.2)
  | [], _ :: _, h => h.elim
  | _ :: _, [], h => h.elim
theorem WosK.get {F : Tab} : ∀ {ws : List Wo} {κs : List Kd} {i : Nat} {κ : Kd}, WosK F ws κs → κs[i]? = some κ → ∃ w, ws[i]? = some w ∧ WoK F w κ
  | [], [], _, _, _, e => by simp at e
  | w :: ws, κ' :: κs, 0, _, h, e => by
    simp at e
    subst e
    exact ⟨w, rfl, h.1⟩
  | w :: ws, κ' :: κs, i + 1, _, h, e => by
    obtain ⟨w', h1, h2⟩ := WosK.get (i := i) h.2 (by simpa using e)
    exact ⟨w', by simpa using h1, h2⟩
  | [], _ :: _, _, _, h, _ => h.elim
  | _ :: _, [], _, _, h, _ => h.elim
theorem WosK.append {F : Tab} : ∀ {a : List Wo} {α : List Kd} {b : List Wo} {β : List Kd}, WosK F a α → WosK F b β → WosK F (a ++ b) (α ++ β)
  | [], [], _, _, _, h => h
  | _ :: _, _ :: _, _, _, h, h2 => ⟨h.1, WosK.append h.2 h2⟩
  | [], _ :: _, _, _, h, _ => h.elim
  | _ :: _, [], _, _, h, _ => h.elim
theorem WosD.replicate {F : Tab} : ∀ {ws : List Wo} {n : Nat}, WosK F ws (List.replicate n .data) → WosD F ws
  | [], 0, _ => trivial
  | _ :: _, n + 1, h => ⟨h.1, WosD.replicate (n := n) h.2⟩
  | [], _ + 1, h => h.elim
  | _ :: _, 0, h => h.elim
/-! ### patterns: what they take of what -/
mutual
def PatK (F : Tab) : Pat → Kd → List Kd → Prop
  | .take, κ, α => α = [κ]
  | .pass, _, α => α = []
  | .shape n ps, κ, α => κ = .data ∧ ps.length = F.S.sh n ∧ PatsK F ps (List.replicate ps.length .data) α
def PatsK (F : Tab) : List Pat → List Kd → List Kd → Prop
  | p :: ps, κ :: κs, α => ∃ a b, α = a ++ b ∧ PatK F p κ a ∧ PatsK F ps κs b
  | [], [], α => α = []
  | _, _, _ => False
end
theorem WosD.kinds {F : Tab} : ∀ {ws : List Wo}, WosD F ws → WosK F ws (List.replicate ws.length .data)
  | [], _ => trivial
  | _ :: _, h => ⟨h.1, WosD.kinds h.2⟩
mutual
theorem PatK.takes {F : Tab} : ∀ (p : Pat) (κ : Kd) (α : List Kd) (w : Wo) (a : List Wo), PatK F p κ α → WoK F w κ → takenP p w = some a → WosK F a α
  | .take, κ, α, w, a, h, hw, e => by
    cases e
    subst h
    exact ⟨hw, trivial⟩
  | .pass, κ, α, w, a, h, hw, e => by
    cases e
    subst h
    trivial
  | .shape n ps, κ, α, w, a, h, hw, e => by
    cases w with
    | shape m ws =>
      simp only [takenP] at e
      split at e
      · next en =>
        subst en
        have hl : ps.length = ws.length := by rw [h.2.1, hw.2.1.1]
        refine PatsK.takes ps _ α ws a h.2.2 ?_ e
        rw [hl]
        exact WosD.kinds hw.2.2
      · cases e
    | clo _ _ _ => cases e
    | dull => cases e
theorem PatsK.takes {F : Tab} : ∀ (ps : List Pat) (κs : List Kd) (α : List Kd) (ws : List Wo) (a : List Wo), PatsK F ps κs α → WosK F ws κs → takenL ps ws = some a → WosK F a α
  | [], [], α, ws, a, h, hw, e => by
    subst h
    cases ws with
    | nil => cases e; trivial
    | cons _ _ => exact hw.elim
  | p :: ps, κ :: κs, α, ws, a, h, hw, e => by
    cases ws with
    | nil => exact hw.elim
    | cons w ws =>
      obtain ⟨x, y, rfl, h1, h2⟩ := h
      simp only [takenL] at e
      obtain ⟨a1, e1, e2⟩ := Option.bind_eq_some_iff.mp e
      obtain ⟨b1, e3, rfl⟩ := Option.map_eq_some_iff.mp e2
      exact (PatK.takes p κ x w a1 h1 hw.1 e1).append (PatsK.takes ps κs y ws b1 h2 hw.2 e3)
  | [], _ :: _, _, _, _, h, _, _ => h.elim
  | _ :: _, [], _, _, _, h, _, _ => h.elim
end
/-- a program by a table: each row's body is data by what its patterns take -/
def RwK (F : Tab) (κs : List Kd) (r : Rw) : Prop := evh r.body ≤ 3 ∧ ∃ α, PatsK F r.ps κs α ∧ HasK F α r.body .data
def ProgK (F : Tab) (g : List Df) : Prop := ∀ d ∈ g, ∀ r ∈ d.rows, RwK F (F.fn d.name) r
theorem pick_K {F : Tab} : ∀ {rs : List Rw} {κs : List Kd} {ws a : List Wo} {b : Tm}, (∀ r ∈ rs, RwK F κs r) → WosK F ws κs → pick rs ws = some (a, b) → evh b ≤ 3 ∧ ∃ α, WosK F a α ∧ HasK F α b .data
  | [], _, _, _, _, _, _, e => by cases e
  | r :: rs, κs, ws, a, b, h, hw, e => by
    simp only [pick] at e
    split at e
    · next x e1 =>
      cases e
      obtain ⟨h1, α, h2, h3⟩ := h r (List.mem_cons_self ..)
      exact ⟨h1, α, PatsK.takes _ _ _ _ _ h2 hw e1, h3⟩
    · exact pick_K (fun r z => h r (List.mem_cons_of_mem _ z)) hw e
end K46
/-! K46P4 -/
set_option maxHeartbeats 4000000
namespace K46
open PySem PySem.Spec PyProof.Rows L2 C8
def encSh (x : Str × Nat) : K46.D := .tup [.str x.1, .int (x.2 : Int)]
def kS : Kd → Str
  | .data => "data" | .fn => "fun" | .wait => "wait" | .dull => "dull"
theorem kS_inj : ∀ {a b : Kd}, kS a = kS b → a = b := fun {a b} h => by
  cases a <;> cases b <;> first | rfl | exact absurd h (by decide +kernel)
mutual
def ptk : Pat → Nat
  | .take => 1
  | .pass => 0
  | .shape _ ps => ptkL ps
def ptkL : List Pat → Nat
  | [] => 0
  | p :: ps => ptk p + ptkL ps
end
mutual
theorem PatK.length {F : Tab} : ∀ (p : Pat) (κ : Kd) (α : List Kd), PatK F p κ α → α.length = ptk p
  | .take, _, _, h => by subst h; rfl
  | .pass, _, _, h => by subst h; rfl
  | .shape n ps, κ, α, h => PatsK.length ps _ α h.2.2
theorem PatsK.length {F : Tab} : ∀ (ps : List Pat) (κs : List Kd) (α : List Kd), PatsK F ps κs α → α.length = ptkL ps
  | [], [], _, h => by subst h; rfl
  | p :: ps, κ :: κs, α, h => by
    obtain ⟨a, b, rfl, h1, h2⟩ := h
    rw [List.length_append, PatK.length p κ a h1, PatsK.length ps κs b h2]
    rfl
  | [], _ :: _, _, h => h.elim
  | _ :: _, [], _, h => h.elim
end
theorem PatsK.snoc {F : Tab} {p : Pat} {κ : Kd} {b : List Kd} (h2 : PatK F p κ b) : ∀ {ps : List Pat} {κs α : List Kd}, PatsK F ps κs α → PatsK F (ps ++ [p]) (κs ++ [κ]) (α ++ b)
  | [], [], α, h => by
    subst h
    exact ⟨b, [], by simp, h2, rfl⟩
  | q :: ps, κ' :: κs, α, h => by
    obtain ⟨x, y, rfl, h3, h4⟩ := h
    exact ⟨x, y ++ b, by simp, h3, PatsK.snoc h2 h4⟩
  | [], _ :: _, _, h => h.elim
  | _ :: _, [], _, h => h.elim
theorem or_yes {c : Bool} {A B : Prop} (h : A) (h2 : c = false → A → B) : if c = true then A else B := by
  cases c with
  | true => exact h
  | false => exact h2 rfl h
theorem rep_snoc (a : Nat) : List.replicate a Kd.data ++ [Kd.data] = List.replicate (a + 1) Kd.data := (List.replicate_succ' ..).symm
theorem pdeepL_snoc (p : Pat) : ∀ ps, pdeepL (ps ++ [p]) = max (pdeepL ps) (pdeep p)
  | [] => by simp [pdeepL]
  | q :: ps => by
    have := pdeepL_snoc p ps
    simp only [List.cons_append, pdeepL, this]
    omega
mutual
theorem ptk_le : ∀ p : Pat, ptk p ≤ pnodes p
  | .take => Nat.le_refl _
  | .pass => Nat.zero_le _
  | .shape _ ps => Nat.le_trans (ptkL_le ps) (Nat.le_add_left _ _)
theorem ptkL_le : ∀ ps : List Pat, ptkL ps ≤ pnodesL ps
  | [] => Nat.le_refl _
  | p :: ps => Nat.add_le_add (ptk_le p) (ptkL_le ps)
end
theorem ptkL_snoc (p : Pat) : ∀ ps, ptkL (ps ++ [p]) = ptkL ps + ptk p
  | [] => by simp [ptkL]
  | q :: ps => by
    have := ptkL_snoc p ps
    simp only [List.cons_append, ptkL, this]
    omega
/-- the shapes of a kit -/
def ShsOk (F : Tab) (shs : List (Str × Nat)) : Prop := shs ≠ [] ∧ shs.length ≤ 1000 ∧ ∀ x ∈ shs, F.S.sh x.1 = x.2 ∧ x.2 ≤ 3 ∧ ShN x.1
def pn : Nat → Nat
  | 0 => 1
  | d + 1 => 1 + 3 * pn d
section
variable {P : Program} {w : World} {K : PySem.W.Frag} {mg : Str → Option Value} {base : Heap}
def sp_pattern (K : PySem.W.Frag) (F : Tab) (n : Nat) : Sp := fun vs H Q _ => ∃ (dk cs sl : Addr) (xs : List V) (shs : List (Str × Nat)) (d : Nat), vs = [.ref dk, .ref sl, .int (d : Int)] ∧ d < n ∧ DeckOk H dk cs ∧ H sl = some (.lst xs) ∧ AtL K H xs (shs.map encSh) ∧ ShsOk F shs ∧ (sl ≠ dk ∧ sl ≠ cs) ∧
  ∀ (p : Pat) (k : Nat) v H', Keep [dk, cs] H H' → DeckOk H' dk cs → At K H' v (encP p) → PatK F p .data (List.replicate k .data) → k ≤ 3 ^ d → pdeep p ≤ d → pnodes p ≤ pn d → Q v H'
theorem ok_pattern (T : Tx K mg) (F : Tab) : ∀ n, Cal P w K mg base (n + 3) "_law_pattern" (sp_pattern K F n) []
  | 0 => by
    refine cal_mk T.f_pattern T.g_pattern sc_pattern (fun _ _ _ _ _ _ us hl => match us, hl with | [_, _, _], _ => rfl) (fun vs H Q E h => ?_) (fun cdv A outer s0 H vs Q E hr h => ?_)
    · obtain ⟨dk, cs, sl, xs, shs, d, rfl, _⟩ := h
      rfl
    · obtain ⟨dk, cs, sl, xs, shs, d, rfl, hd, _⟩ := h
      exact absurd hd (Nat.not_lt_zero _)
  | n + 1 => by
    have c_draw := ok_draw (P := P) (w := w) (base := base) T
    have c_pick := ok_pick (P := P) (w := w) (base := base) T
    have c_pattern := ok_pattern T F n
    refine cal_mk T.f_pattern T.g_pattern sc_pattern (fun _ _ _ _ _ _ us hl => match us, hl with | [_, _, _], _ => rfl) (fun vs H Q E h => ?_) (fun cdv A outer s0 H vs Q E hr h => ?_)
    · obtain ⟨dk, cs, sl, xs, shs, d, rfl, _⟩ := h
      rfl
    · obtain ⟨dk, cs, sl, xs, shs, d, rfl, hd, dok, hsl, hxs, hshs, ⟨n1, n2⟩, q⟩ := h
      refine ⟨_, (pss_cons (ps_set (i := 3) sc_pattern.nd rfl (Or.inl rfl) (pe_c c_draw hr (by omega) rfl (pa_cons (pv 0) (pa_cons pe_int pa_nil))))
      (pss_cons (ps_if (PW.pt (pw_or (pt_cmpR op_lt (pv 3) pe_int (nomark _)) (pw_or1 (pt_cmpR op_eq (pv 2) pe_int (nomark _))))) (pss_one (ps_ret (pe_ix ix_list (pe_lst (pa_cons (pe_tup (pa_cons pe_str pa_nil)) (pa_cons (pe_tup (pa_cons pe_str pa_nil)) pa_nil))) (pe_callTy call_int1 (by rfl) T.z_int (by decide +kernel) (pa_cons (pe_cmpR op_eq (pv 3) pe_int (nomark _)) pa_nil)) (fun _ _ => rfl)))) pss_nil)
      (pss_cons (ps_asg (pe_c c_pick hr (by omega) rfl (pa_cons (pv 0) (pa_cons (pv 1) pa_nil))) (pg_tup rfl (pgs_cons (pg_name (i := 4) sc_pattern.nd rfl (Or.inl rfl)) (pgs_cons (pg_name (i := 5) sc_pattern.nd rfl (Or.inl rfl)) pgs_nil))))
      (pss_one (ps_ret (pe_tup (pa_cons pe_str (pa_cons (pv 4) (pa_cons (pe_callTy call_tuple_of (by rfl) T.z_tuple (by decide +kernel) (pa_cons (pe_lc (g := (gName 6)) rfl sc_pattern.nd (pi_range1 rfl T.z_range (pa_cons (pv 5) pa_nil)) (blkOk_by (own := [("_law_k", 6)]) (N := ["_law_deck_here", "_law_shapes", "_law_deep", "_law_way", "_law_name", "_law_many", "_law_k"]) (sc := defScope s_pattern) (by decide +kernel)) (fun _ _ _ _ _ => (pg_name (i := 6) sc_pattern.nd rfl (Or.inl rfl))) (fun _ _ _ _ _ => pts_nil) (fun _ _ _ _ _ => (pe_c c_pattern hr (by omega) rfl (pa_cons (pv 0) (pa_cons (pv 1) (pa_cons (pe_op op_sub (pv 2) pe_int) pa_nil)))))) pa_nil)) pa_nil))))))))), ?_⟩
      refine ⟨_, rfl, dk, cs, 5, rfl, dok, ⟨by decide, by decide⟩, fun way H1 hway k1 d1 => ?_⟩
      by_cases hA : way < 2 ∨ d = 0
      · refine ⟨_, rfl, _, _, rfl, rfl, _, rfl, or_yes (ift rfl ?_) fun e hh => ⟨_, rfl, rfl, true, congrArg V.bl (decide_eq_true (by
          have h2 : ¬ way < 2 := fun z => by
            have := of_decide_eq_false e
            omega
          rw [hA.resolve_left h2]
          rfl)), hh⟩⟩
        refine ⟨(by show 1 ≤ sizeLine; decide), fun t1 nt1 => ⟨(by show 1 ≤ sizeLine; decide), fun t2 nt2 => ⟨(by show 2 ≤ sizeLine; decide), fun l nl => ?_⟩⟩⟩
        have k2 := (Keep.new (o := .tup [.str "take"]) nt1 (Keep.refl [] H1)).new_ (o := .tup [.str "pass"]) nt2
        have ht1 : upd (upd H1 t1 (.tup [.str "take"])) t2 (.tup [.str "pass"]) t1 = some (.tup [.str "take"]) := by rw [upd_ne (new_ne nt2).symm]; exact upd_same
        have ht2 : upd (upd H1 t1 (.tup [.str "take"])) t2 (.tup [.str "pass"]) t2 = some (.tup [.str "pass"]) := upd_same
        generalize upd (upd H1 t1 (.tup [.str "take"])) t2 (.tup [.str "pass"]) = H2 at k2 ht1 ht2 nl
        have k3 := k2.new_ (o := .lst [.ref t1, .ref t2]) nl
        have kl := Keep.new (o := .lst [.ref t1, .ref t2]) nl (Keep.refl [] H2)
        have k13 := k1.trans (k3.mono (S' := [dk, cs]) (by simp))
        have d3 := d1.keep0 k3
        refine ⟨_, rfl, rfl, .inr ⟨_, rfl, ?_⟩⟩
        by_cases h1 : way = 1
        · subst h1
          refine ⟨l, _, ((1 : Nat) : Int), .ref t2, rfl, ?_, .of upd_same, atI_nat rfl, ?_⟩
          · rw [if_pos (by decide +kernel)]
            rfl
          · exact q .pass 0 _ _ k13 d3 (.tup (kl.sqT (.of ht2)) (.cons (.str _) .nil)) rfl (Nat.zero_le _) (Nat.zero_le _) (by
              show 1 ≤ pn d
              cases d with
              | zero => exact Nat.le_refl _
              | succ d => exact Nat.le_add_right _ _)
        · refine ⟨l, _, ((0 : Nat) : Int), .ref t1, rfl, ?_, .of upd_same, atI_nat rfl, ?_⟩
          · rw [if_neg (by simp; omega)]
            rfl
          · exact q .take 1 _ _ k13 d3 (.tup (kl.sqT (.of ht1)) (.cons (.str _) .nil)) rfl (Nat.pow_pos (by decide)) (Nat.zero_le _) (by
              show 1 ≤ pn d
              cases d with
              | zero => exact Nat.le_refl _
              | succ d => exact Nat.le_add_right _ _)
      · have hA1 : ¬ way < 2 := fun z => hA (.inl z)
        obtain ⟨d', rfl⟩ : ∃ d', d = d' + 1 := ⟨d - 1, by omega⟩
        refine ⟨_, rfl, _, _, rfl, rfl, _, rfl, iff' (decide_eq_false (by omega)) ?_⟩
        refine ⟨_, rfl, rfl, false, congrArg V.bl (decide_eq_false fun z => by have := V.int.inj z; omega), iff' rfl ?_⟩
        have hsl1 := k1.at_ _ _ (by simp [n1, n2]) hsl
        have hxl := hxs.length
        rw [List.length_map] at hxl
        have hsp : shs.length ≠ 0 := fun z => hshs.1 (List.eq_nil_of_length_eq_zero z)
        refine ⟨_, rfl, _, rfl, dk, cs, sl, xs, rfl, d1, .of hsl1, n1, n2, ⟨by omega, by have := hshs.2.1; omega⟩, fun i v H2 ev k2 d2 => ?_⟩
        obtain ⟨sd, e1, hv⟩ := hxs.get' ev
        rw [List.getElem?_map] at e1
        obtain ⟨⟨nm, m⟩, es, rfl⟩ := Option.map_eq_some_iff.mp e1
        have k12 := k1.trans k2
        obtain ⟨a, x1, x2, rfl, ha, z1, z2⟩ := (hv.keep k12).t2
        obtain rfl := z1.s
        obtain rfl := z2.i
        obtain ⟨em, hm⟩ := hshs.2.2 _ (List.mem_of_getElem? es)
        have hm3 : m ≤ 3 := hm.1
        refine ⟨a, _, rfl, ha, rfl, _, _, rfl, _, _, rfl, rfl, ?_⟩
        have hsl2 := k2.at_ _ _ (by simp [n1, n2]) hsl1
        refine ⟨_, rfl, _, rfl, (m : Int), rfl, by omega, by omega, fun D nD => lc_dr (walk_range (n := m)) [dk, cs] (fun i ys H => DeckOk H dk cs ∧ ∃ (ps : List Pat) (k : Nat), AtL K H ys (encPs ps) ∧ PatsK F ps (List.replicate i .data) (List.replicate k .data) ∧ ps.length = i ∧ k ≤ i * 3 ^ d' ∧ pdeepL ps ≤ d' ∧ pnodesL ps ≤ i * pn d')
          (Nat.le_trans hm3 (by decide)) nD d2.there (fun H k => ⟨d2.keep0 k, [], 0, .nil, rfl, rfl, Nat.zero_le _, Nat.zero_le _, Nat.zero_le _⟩) (fun _ _ => trivial) (fun i x H3 H4 ys Qn F' hi k3 hD3 hl3 hp y1 hQ => ?_) (fun ys H3 k3 hD hl hp => ?_)⟩
        · obtain ⟨rfl, rfl⟩ := y1
          obtain ⟨d3, ps, k, hys, hpk, hpl, hk, hpd, hpn⟩ := hp
          refine ⟨rfl, tyes ?_⟩
          have nDk := (d2.no nD)
          refine ⟨_, rfl, _, rfl, _, rfl, _, _, rfl, rfl, dk, cs, sl, xs, shs, d', by
            have : ((d' + 1 : Nat) : Int) - 1 = (d' : Int) := by omega
            show [V.ref dk, V.ref sl, V.int (((d' + 1 : Nat) : Int) - 1)] = _
            rw [this], by omega, d3, (k3.at_ _ _ (by simp [n1, n2]) hsl2), hxs.keep (k12.trans k3), hshs, ⟨n1, n2⟩, fun p kp v H5 k5 d5 hv5 hpk5 hkp hpd5 hpn5 => ?_⟩
          refine hQ _ _ k5 fun H6 k6 => ⟨d5.keep k6 (by simp [nDk.1.symm]) (by simp [nDk.2.symm]), ps ++ [p], k + kp, ?_, ?_, by simp [hpl], ?_, ?_, ?_⟩
          · rw [encPs_map, List.map_append]
            have h1 := (hys.keep k5).keep k6
            rw [encPs_map] at h1
            exact h1.append (.cons (hv5.keep k6) .nil)
          · have h1 := PatsK.snoc hpk5 hpk
            rw [rep_snoc, List.replicate_append_replicate] at h1
            exact h1
          · rw [Nat.add_mul, Nat.one_mul]
            omega
          · rw [pdeepL_snoc]
            omega
          · rw [pnodesL_append, Nat.add_mul, Nat.one_mul]
            simp only [pnodesL]
            omega
        · obtain ⟨d3, ps, k, hys, hpk, hpl, hk, hpd, hpn⟩ := hp
          refine ⟨D, ys, rfl, .inl ⟨.of hD, fun t nt => ⟨(by show 3 ≤ sizeLine; decide), fun r nr => ?_⟩⟩⟩
          have k4 := (Keep.new (o := .tup ys) nt (Keep.refl [] H3)).new_ (o := .tup [.str "shape", .str nm, .ref t]) nr
          have ht : upd (upd H3 t (.tup ys)) r (.tup [.str "shape", .str nm, .ref t]) t = some (.tup ys) := by rw [upd_ne (new_ne nr).symm]; exact upd_same
          refine q (.shape nm ps) k _ _ (k12.trans (k3.trans (k4.mono (by simp)))) (d3.keep0 k4) (.tup (.of upd_same) (.cons (.str _) (.cons (.str _) (.cons (.tup (.of ht) (hys.keep k4)) .nil)))) ⟨rfl, by rw [hpl]; exact em.symm, by rw [hpl]; exact hpk⟩ ?_ ?_ ?_
          · rw [Nat.pow_succ]
            have := Nat.mul_le_mul_right (3 ^ d') hm3
            omega
          · show 1 + pdeepL ps ≤ d' + 1
            omega
          · show 1 + pnodesL ps ≤ 1 + 3 * pn d'
            have := Nat.mul_le_mul_right (pn d') hm3
            omega
def sp_takes (K : PySem.W.Frag) (n : Nat) : Sp := fun vs H Q _ => ∃ (px : V) (p : Pat) (b : Bool), vs = [px, .bl b] ∧ pdeep p < n ∧ At K H px (encP p) ∧ pnodes p ≤ 1000 ∧ ∀ l (bs : List Bool) H', Keep [] H H' → H l = none → H' l = some (.lst (bs.map V.bl)) → bs.length = ptk p → Q (.ref l) H'
theorem ok_takes (T : Tx K mg) : ∀ n, Cal P w K mg base (n + 1) "_law_takes" (sp_takes K n) []
  | 0 => by
    refine cal_mk T.f_takes T.g_takes sc_takes (fun _ _ _ _ _ _ us hl => match us, hl with | [_, _], _ => rfl) (fun vs H Q E h => ?_) (fun cdv A outer s0 H vs Q E hr h => ?_)
    · obtain ⟨px, p, b, rfl, _⟩ := h
      rfl
    · obtain ⟨px, p, b, rfl, hd, _⟩ := h
      exact absurd hd (Nat.not_lt_zero _)
  | n + 1 => by
    have c_takes := ok_takes T n
    refine cal_mk T.f_takes T.g_takes sc_takes (fun _ _ _ _ _ _ us hl => match us, hl with | [_, _], _ => rfl) (fun vs H Q E h => ?_) (fun cdv A outer s0 H vs Q E hr h => ?_)
    · obtain ⟨px, p, b, rfl, _⟩ := h
      rfl
    · obtain ⟨px, p, b, rfl, hd, hp, hz, q⟩ := h
      refine ⟨_, (pss_cons (ps_if (pt_cmpR op_ne (pe_ix ix_tup (pv 0) pe_int (fun _ _ => rfl)) pe_str (nomark _)) (pss_one (ps_ret (pe_op op_rep (pe_lst (pa_cons (pv 1) pa_nil)) (pe_callTy call_int1 (by rfl) T.z_int (by decide +kernel) (pa_cons (pe_cmpR op_eq (pe_ix ix_tup (pv 0) pe_int (fun _ _ => rfl)) pe_str (nomark _)) pa_nil))))) pss_nil)
      (pss_cons (ps_set (i := 2) sc_takes.nd rfl (Or.inl rfl) (pe_lst pa_nil))
      (pss_cons (ps_for PassesOwn.never rfl (pi_tup (pe_ix ix_tup (pv 0) pe_int (fun _ _ => rfl))) (pg_name (i := 3) sc_takes.nd rfl (Or.inl rfl)) (pss_one (ps_expr (pe_bm PySem.F.plainAttrs_list PySem.F.slot_list_extend PySem.F.type_list_extend mt_extend (pv 2) (pa_cons (pe_c c_takes hr (by omega) rfl (pa_cons (pv 3) (pa_cons pe_bl pa_nil))) pa_nil)))))
      (pss_one (ps_ret (pv 2)))))), ?_⟩
      have hcut : (∃ (w0 : Str), w0 ≠ "shape" ∧ ((w0 = "take" ∧ ptk p = 1) ∨ (w0 ≠ "take" ∧ ptk p = 0)) ∧ At K H px (.tup [.str w0])) ∨ ∃ nm ps, p = .shape nm ps := by
        cases p with
        | take => exact .inl ⟨_, by decide +kernel, .inl ⟨rfl, rfl⟩, hp⟩
        | pass => exact .inl ⟨_, by decide +kernel, .inr ⟨by decide +kernel, rfl⟩, hp⟩
        | shape nm ps => exact .inr ⟨_, _, rfl⟩
      rcases hcut with ⟨w0, nw, hw, hp0⟩ | ⟨nm, ps, rfl⟩
      · obtain ⟨a, x, rfl, hq, h1⟩ := hp0.t1
        obtain rfl := h1.s
        refine ⟨_, rfl, a, _, 0, .str w0, rfl, rfl, hq, atI_nat (j := 0) rfl, rfl, _, rfl, ift (by simp [nw]) ?_⟩
        refine ⟨_, rfl, (by show 1 ≤ sizeLine; decide), fun l nl => ?_⟩
        have k1 := Keep.new (o := .lst [V.bl b]) nl (Keep.refl [] H)
        refine ⟨_, rfl, a, _, 0, .str w0, rfl, rfl, k1.sqT hq, atI_nat (j := 0) rfl, rfl, .inr ⟨_, rfl, ?_⟩⟩
        have e1 : (if decide (V.str w0 = V.str "take") = true then (1 : Int) else 0) = (ptk p : Int) := by
          rcases hw with ⟨rfl, e⟩ | ⟨ne, e⟩
          · rw [if_pos (by decide +kernel), e]
            rfl
          · rw [if_neg (by simpa using ne), e]
            rfl
        have sz1 : ∀ {n : Nat}, n ≤ 1 → [V.bl b].length * ((n : Int)).toNat ≤ sizeLine := fun {n} h => by
          have : 10 ≤ sizeLine := by decide
          show 1 * ((n : Int)).toNat ≤ sizeLine
          omega
        have hp1 : ptk p ≤ 1 := by rcases hw with ⟨_, e⟩ | ⟨_, e⟩ <;> omega
        refine ⟨l, (ptk p : Int), [V.bl b], rfl, congrArg V.int e1, upd_same, by omega, by omega, sz1 hp1, fun r nr => ?_⟩
        have k2 := k1.new_ (o := .lst (List.replicate (ptk p : Int).toNat [V.bl b]).flatten) nr
        refine q r (List.replicate (ptk p) b) _ k2 (new_old nr) ?_ (by simp)
        rw [upd_same, Int.toNat_natCast]
        have : ∀ n, (List.replicate n [V.bl b]).flatten = (List.replicate n b).map V.bl := by
          intro n
          induction n with
          | zero => rfl
          | succ n ih => rw [List.replicate_succ, List.flatten_cons, ih]; rfl
        rw [this]
      · obtain ⟨a, x, y, z, rfl, hq, h1, h2, h3⟩ := hp.t3
        obtain rfl := h1.s
        obtain rfl := h2.s
        obtain ⟨b2, zs, rfl, hb, hzs⟩ := id h3.t
        have hlz := hzs.length
        rw [encPs_map, List.length_map] at hlz
        refine ⟨_, rfl, a, _, 0, .str "shape", rfl, rfl, hq, atI_nat (j := 0) rfl, rfl, _, rfl, iff' (by decide +kernel) ?_⟩
        refine ⟨by decide, fun f nf => ?_⟩
        have kf := Keep.new (o := .lst []) nf (Keep.refl [] H)
        refine ⟨_, rfl, a, _, 2, .ref b2, rfl, rfl, kf.sqT hq, atI_nat (j := 2) rfl, b2, rfl, ⟨zs, kf.sqT hb⟩, for_it (walk_tup (xs := zs)) (fun i σ H' => ∃ (bs : List Bool) (o3 : Option V), σ = [some (.ref a), some (.bl b), some (.ref f), o3] ∧ Keep [] H H' ∧ H' f = some (.lst (bs.map V.bl)) ∧ bs.length = ptkL (ps.take i) ∧ bs.length ≤ pnodesL (ps.take i))
          ⟨[], none, rfl, kf, upd_same, rfl, Nat.zero_le _⟩ (fun i σ H' _ ⟨bs, o3, e, k, _⟩ => k.sqT hb) (fun i v σ H' H'' hi ⟨bs, o3, e, k, hfv, hbl, hbn⟩ yy => ?_) (fun σ H' ⟨bs, o3, e, k, hfv, hbl, hbn⟩ => ?_)⟩
        · subst e
          obtain ⟨rfl, ev⟩ := yy
          obtain ⟨pd, e3, hx1⟩ := hzs.get' ev
          rw [encPs_map, List.getElem?_map] at e3
          obtain ⟨p, e4, rfl⟩ := Option.map_eq_some_iff.mp e3
          have hpm : p ∈ ps := List.mem_of_getElem? e4
          have hpd : pdeep p < n := by
            have := pdeepL_mem hpm
            have : pdeep (Pat.shape nm ps) = 1 + pdeepL ps := by simp [pdeep]
            omega
          have hpt := pnodesL_take e4
          have hpn : pnodes (Pat.shape nm ps) = 1 + pnodesL ps := by simp [pnodes]
          refine ⟨_, rfl, .inl ⟨rfl, _, .of hfv⟩, _, rfl, v, p, true, rfl, hpd, hx1.keep k, by omega, fun l2 bs2 H5 k5 nl2 hl2 hb2 => ?_⟩
          have hf5 := k5.at_ _ _ (by simp) hfv
          have htl := ptk_le p
          have hz1 : 1000 < sizeLine := by decide
          refine ⟨f, l2, _, _, rfl, rfl, hf5, hl2, by simp only [List.length_map]; omega, ?_⟩
          refine ⟨bs ++ bs2, _, rfl, Keep.lst hf5 (.inr nf) (k.trans k5), by rw [upd_same, List.map_append], ?_, ?_⟩
          · rw [take_snoc e4, ptkL_snoc, List.length_append, hbl, hb2]
          · rw [take_snoc e4, pnodesL_append, List.length_append]
            simp only [pnodesL]
            omega
        · subst e
          rw [hlz, List.take_length] at hbl
          exact ⟨_, rfl, q f bs _ k nf hfv hbl⟩
def sp_name_of (K : PySem.W.Frag) (F : Tab) : Sp := fun vs H Q _ => ∃ (dk cs al : Addr) (Γ : List Kd) (κ : Kd), vs = [.ref dk, .ref al, .str (kS κ)] ∧ DeckOk H dk cs ∧ H al = some (.lst (Γ.map fun κ => V.str (kS κ))) ∧ Γ.length ≤ 1000 ∧ (al ≠ dk ∧ al ≠ cs) ∧
  (∀ H', Keep [dk, cs] H H' → DeckOk H' dk cs → Q .non H') ∧ ∀ i a H', Keep [dk, cs] H H' → DeckOk H' dk cs → HasK F Γ (.at i) κ → At K H' (.ref a) (encT (.at i)) → Q (.ref a) H'
theorem ok_name_of (T : Tx K mg) (F : Tab) : Cal P w K mg base 3 "_law_name_of" (sp_name_of K F) [] := by
  have c_pick := ok_pick (P := P) (w := w) (base := base) T
  refine cal_mk T.f_name_of T.g_name_of sc_name_of (fun _ _ _ _ _ _ us hl => match us, hl with | [_, _, _], _ => rfl) (fun vs H Q E h => ?_) (fun cdv A outer s0 H vs Q E hr h => ?_)
  · obtain ⟨dk, cs, al, Γ, κ, rfl, _⟩ := h
    rfl
  · obtain ⟨dk, cs, al, Γ, κ, rfl, dok, hal, hz, ⟨n1, n2⟩, qn, qs⟩ := h
    refine ⟨_, (pss_cons (ps_setLc (i := 3) (g := (gName 4)) rfl sc_name_of.nd rfl rfl (sw_true rfl rfl rfl (by decide +kernel)) (pi_range1 rfl T.z_range (pa_cons (pe_callB call_len_seq (by rfl) T.z_len PySem.boot_len (pa_cons (pv 1) pa_nil)) pa_nil)) (blkOk_by (own := [("_law_k", 4)]) (N := ["_law_deck_here", "_law_around", "_law_kind", "_law_some", "_law_k"]) (sc := defScope s_name_of) (by decide +kernel)) (fun _ _ _ _ _ => (pg_name (i := 4) sc_name_of.nd rfl (Or.inl rfl))) (fun _ _ _ _ _ => (pts_one (pt_cmpR op_eq (pe_ix (ix_listK (K := K) rfl) (pv 1) (pv 4) (fun _ _ => rfl)) (pv 2) (nomark _)))) (fun _ _ _ _ _ => (pv 4)))
      (pss_one (ps_ret (pe_ifExp (pt_cmpR (op_ne0 hr.units0) (pv 3) (pe_lst pa_nil) (nomark _)) (pe_tup (pa_cons pe_str (pa_cons (pe_op op_sub (pe_op op_sub (pe_callB call_len_seq (by rfl) T.z_len PySem.boot_len (pa_cons (pv 1) pa_nil)) pe_int) (pe_c c_pick hr (by omega) rfl (pa_cons (pv 0) (pa_cons (pv 3) pa_nil)))) pa_nil))) pe_non)))), ?_⟩
    refine ⟨_, rfl, al, _, rfl, .inl (.of hal), (Γ.length : Int), (by rw [List.length_map]), by omega, by omega, fun D nD => ?_⟩
    refine lc_it (walk_range (n := Γ.length)) (fun i H' => ∃ ks : List Nat, Keep [] H H' ∧ H' D = some (.lst (ks.map fun (k : Nat) => V.int (k : Int))) ∧ ks.length ≤ i ∧ ∀ k ∈ ks, Γ[k]? = some κ) ⟨[], Keep.new nD (Keep.refl _ _), upd_same, Nat.le_refl _, fun k z => by cases z⟩ (fun _ _ _ _ => trivial) (fun i v H1 H2 hi ⟨ks, k, hD, hkl, hks⟩ yy => ?_) (fun H1 ⟨ks, k, hD, hkl, hks⟩ => ?_)
    · obtain ⟨rfl, rfl⟩ := yy
      have hal1 := k.at_ _ _ (by simp) hal
      have hg : (Γ.map fun κ => V.str (kS κ))[i]? = some (.str (kS Γ[i])) := by rw [List.getElem?_map, List.getElem?_eq_getElem hi]; rfl
      have e0 : (0 : Int) + (i : Int) = (i : Int) := by omega
      refine ⟨rfl, ?_⟩
      refine ⟨_, rfl, _, rfl, al, _, (i : Int), .str (kS Γ[i]), rfl, congrArg V.int e0, .of hal1, atI_nat hg, _, rfl, rfl, _, rfl, ?_⟩
      by_cases en : Γ[i] = κ
      · refine ift (decide_eq_true (by rw [en])) ?_
        refine ⟨_, rfl, _, hD, by rw [List.length_map]; exact Nat.lt_of_le_of_lt (show ks.length ≤ 1000 by omega) (by decide), ks ++ [i], Keep.lst hD (.inr nD) k, ?_, by simp; omega, ?_⟩
        · rw [upd_same, List.map_append]
          show some (HO.lst (_ ++ [V.int (0 + (i : Int))])) = _
          rw [e0]
          rfl
        · intro k2 z
          rcases List.mem_append.mp z with z | z
          · exact hks k2 z
          · rw [List.mem_singleton.mp z, List.getElem?_eq_getElem hi, en]
      · refine iff' (decide_eq_false fun z => en (kS_inj (V.str.inj z))) ?_
        exact ⟨ks, k, hD, by omega, hks⟩
    · have d1 := dok.keep0 k
      have hal1 := k.at_ _ _ (by simp) hal
      refine ⟨_, rfl, (by decide), fun q0 nq => ⟨D, q0, _, rfl, rfl, .inl ⟨.of ((Keep.new nq (Keep.refl [] _)).at_ _ _ (by simp) hD), .of upd_same⟩, _, rfl, ?_⟩⟩
      have kq := Keep.new (o := .lst []) nq (Keep.refl [] H1)
      have hD2 := kq.at_ _ _ (by simp) hD
      have hal2 := kq.at_ _ _ (by simp) hal1
      generalize upd H1 q0 (.lst []) = H2 at kq hD2 hal2
      have k02 := k.trans kq
      cases ks with
      | nil => exact iff' rfl (qn _ (k02.mono (by simp)) (dok.keep0 k02))
      | cons k0 ks =>
        refine ift rfl ?_
        have nDk := dok.no nD
        refine ⟨_, rfl, al, _, rfl, .inl (.of hal2), _, _, rfl, rfl, _, rfl, _, rfl, dk, cs, D, _, rfl, dok.keep0 k02, .of hD2, nDk.1, nDk.2, ⟨by simp, by rw [List.length_map]; omega⟩, fun i v H3 ev k3 d3 => ?_⟩
        rw [List.getElem?_map] at ev
        obtain ⟨j, ej, rfl⟩ := Option.map_eq_some_iff.mp ev
        have hj := hks j (List.mem_of_getElem? ej)
        have hjl := (List.getElem?_eq_some_iff.mp hj).1
        have k03 := (k02.mono (S' := [dk, cs]) (by simp)).trans k3
        refine ⟨_, _, rfl, rfl, (by show 2 ≤ sizeLine; decide), fun t nt => ?_⟩
        have k4 := Keep.new (o := .tup [.str "at", .int (((Γ.map fun κ => V.str (kS κ)).length : Int) - 1 - (j : Int))]) nt (Keep.refl [] H3)
        refine qs (Γ.length - 1 - j) t _ (k03.trans (k4.mono (by simp))) (d3.keep0 k4) ⟨by omega, ?_⟩ ?_
        · rw [show Γ.length - 1 - (Γ.length - 1 - j) = j by omega]
          exact hj
        · have e : (((Γ.map fun κ => V.str (kS κ)).length : Int) - 1 - (j : Int)) = ((Γ.length - 1 - j : Nat) : Int) := by
            rw [List.length_map]
            omega
          show At K (upd H3 t (.tup [.str "at", .int (((Γ.map fun κ => V.str (kS κ)).length : Int) - 1 - (j : Int))])) _ _
          rw [e]
          exact .tup (.of upd_same) (.cons (.str _) (.cons (.int _) .nil))
end
end K46
/-! K46P5 -/
set_option maxHeartbeats 4000000
namespace K46
open PySem PySem.Spec PyProof.Rows L2 C8
/-! ### the kit -/
structure GenD where
  dk : Addr
  cs : Addr
  kd : Addr
  ll : Addr
  sl : Addr
  dl : Addr
  ov : V
  xs : List V
  ds : List V
  shs : List (Str × Nat)
abbrev GenD.S (g : GenD) : List Addr := [g.dk, g.cs, g.ll]
abbrev kitF (sl dl : Addr) (ov : V) (ll : Addr) : List (Key × V) := [(.inr "shapes", .ref sl), (.inr "done", .ref dl), (.inr "own", ov), (.inr "left", .ref ll)]
section
variable {H : Hp} {a sl dl ll : Addr} {ov v : V}
theorem kit_gshapes (h : H a = some (.dK (kitF sl dl ov ll))) : DGet H a (.str "shapes") (some (.ref sl)) := by
  have := DGet.k (k := Sum.inr (Str.ofString "shapes")) h
  rwa [show valV (kitF sl dl ov ll) (.inr (Str.ofString "shapes")) = some (.ref sl) by kernel_rfl] at this
theorem kit_gdone (h : H a = some (.dK (kitF sl dl ov ll))) : DGet H a (.str "done") (some (.ref dl)) := by
  have := DGet.k (k := Sum.inr (Str.ofString "done")) h
  rwa [show valV (kitF sl dl ov ll) (.inr (Str.ofString "done")) = some (.ref dl) by kernel_rfl] at this
theorem kit_gown (h : H a = some (.dK (kitF sl dl ov ll))) : DGet H a (.str "own") (some ov) := by
  have := DGet.k (k := Sum.inr (Str.ofString "own")) h
  rwa [show valV (kitF sl dl ov ll) (.inr (Str.ofString "own")) = some ov by kernel_rfl] at this
theorem kit_gleft (h : H a = some (.dK (kitF sl dl ov ll))) : DGet H a (.str "left") (some (.ref ll)) := by
  have := DGet.k (k := Sum.inr (Str.ofString "left")) h
  rwa [show valV (kitF sl dl ov ll) (.inr (Str.ofString "left")) = some (.ref ll) by kernel_rfl] at this
end
abbrev kVs (κs : List Kd) : List V := κs.map fun κ => V.str (kS κ)
/-- a definition that may be called, its places a list -/
def DoneAt (K : PySem.W.Frag) (F : Tab) (H : Hp) (S : List Addr) (v : V) : Prop := ∃ (t pl : Addr) (n : Str), v = .ref t ∧ SqT K H t [.str n, .ref pl] ∧ H pl = some (.lst (kVs (F.fn n))) ∧ pl ∉ S ∧ F.fn n ≠ [] ∧ (F.fn n).length ≤ 4 ∧ F.S.ca n = (F.fn n).length
def LeftOk (H : Hp) (ll : Addr) : Prop := ∃ c : Int, H ll = some (.lst [.int c])
structure GenOk (K : PySem.W.Frag) (F : Tab) (H : Hp) (g : GenD) : Prop where
  deck : DeckOk H g.dk g.cs
  left : LeftOk H g.ll
  kit : H g.kd = some (.dK (kitF g.sl g.dl g.ov g.ll))
  shH : H g.sl = some (.lst g.xs)
  shs : AtL K H g.xs (g.shs.map encSh)
  shok : ShsOk F g.shs
  zero : ∃ n0, g.shs[0]? = some (n0, 0)
  doneH : H g.dl = some (.lst g.ds)
  few : g.ds.length ≤ 1000
  done : ∀ v ∈ g.ds, DoneAt K F H g.S v
  ap : (g.kd ∉ g.S ∧ g.sl ∉ g.S ∧ g.dl ∉ g.S) ∧ g.ll ≠ g.dk ∧ g.ll ≠ g.cs
/-- what is the definition's own, for calls on less -/
def OwnAt (K : PySem.W.Frag) (F : Tab) (H : Hp) (S : List Addr) (Γ : List Kd) (ov : V) : Prop := ov = .non ∨ ∃ (t pl ml : Addr) (n : Str) (ms : List Nat), ov = .ref t ∧ SqT K H t [.str n, .ref pl, .int 0, .ref ml] ∧ H pl = some (.lst (kVs (F.fn n))) ∧ pl ∉ S ∧
  H ml = some (.lst (ms.map fun (k : Nat) => V.int (k : Int))) ∧ ml ∉ S ∧ ms.length ≤ 1000 ∧ (∀ m ∈ ms, Γ[m]? = some .data) ∧ (F.fn n)[0]? = some .data ∧ (F.fn n).length ≤ 4 ∧ F.S.ca n = (F.fn n).length
def ArdAt (H : Hp) (S : List Addr) (al : Addr) (Γ : List Kd) : Prop := H al = some (.lst (kVs Γ)) ∧ al ∉ S
section
variable {K : PySem.W.Frag} {F : Tab} {H H1 : Hp} {g : GenD} {S : List Addr} {Γ : List Kd} {ov v : V} {al p : Addr}
theorem DoneAt.keep (k : Keep S H H1) (h : DoneAt K F H S v) : DoneAt K F H1 S v := by
  obtain ⟨t, pl, n, e, h1, h2, h3, h4⟩ := h
  exact ⟨t, pl, n, e, k.sqT h1, k.at_ _ _ h3 h2, h3, h4⟩
theorem OwnAt.keep (k : Keep S H H1) (h : OwnAt K F H S Γ ov) : OwnAt K F H1 S Γ ov := by
  rcases h with h | ⟨t, pl, ml, n, ms, e, h1, h2, h3, h4, h5, h6⟩
  · exact .inl h
  · exact .inr ⟨t, pl, ml, n, ms, e, k.sqT h1, k.at_ _ _ h3 h2, h3, k.at_ _ _ h5 h4, h5, h6⟩
theorem OwnAt.grow (h : OwnAt K F H S Γ ov) (X : List Kd) : OwnAt K F H S (Γ ++ X) ov := by
  rcases h with h | ⟨t, pl, ml, n, ms, e, h1, h2, h3, h4, h5, h6, h7, h8⟩
  · exact .inl h
  · refine .inr ⟨t, pl, ml, n, ms, e, h1, h2, h3, h4, h5, h6, fun m z => ?_, h8⟩
    have := h7 m z
    rw [List.getElem?_append_left (List.getElem?_eq_some_iff.mp this).1]
    exact this
theorem ArdAt.keep (k : Keep S H H1) (h : ArdAt H S al Γ) : ArdAt H1 S al Γ := ⟨k.at_ _ _ h.2 h.1, h.2⟩
theorem GenOk.keep (k : Keep g.S H H1) (d : DeckOk H1 g.dk g.cs) (l : LeftOk H1 g.ll) (h : GenOk K F H g) : GenOk K F H1 g :=
  ⟨d, l, k.at_ _ _ h.ap.1.1 h.kit, k.at_ _ _ h.ap.1.2.1 h.shH, h.shs.keep k, h.shok, h.zero, k.at_ _ _ h.ap.1.2.2 h.doneH, h.few, fun v z => (h.done v z).keep k, h.ap⟩
theorem LeftOk.keep (k : Keep S H H1) {ll : Addr} (n : ll ∉ S) (h : LeftOk H ll) : LeftOk H1 ll := let ⟨c, e⟩ := h; ⟨c, k.at_ _ _ n e⟩
theorem GenOk.keep0 (k : Keep [] H H1) (h : GenOk K F H g) : GenOk K F H1 g := h.keep (k.mono (by simp)) (h.deck.keep0 k) (h.left.keep k (by simp))
theorem GenOk.keepD (k : Keep [g.dk, g.cs] H H1) (d : DeckOk H1 g.dk g.cs) (h : GenOk K F H g) : GenOk K F H1 g := h.keep (k.mono fun b z => by
  simp only [List.mem_cons, List.not_mem_nil, or_false] at z ⊢
  rcases z with z | z <;> simp [z]) d (h.left.keep k (by simp [h.ap.2]))
theorem GenOk.there (h : GenOk K F H g) : ∀ b ∈ g.S, H b ≠ none := fun b z => by
  simp only [GenD.S, List.mem_cons, List.not_mem_nil, or_false] at z
  rcases z with z | z | z
  · exact h.deck.there b (by simp [z])
  · exact h.deck.there b (by simp [z])
  · obtain ⟨c, e⟩ := h.left
    rw [z, e]
    simp
theorem GenOk.no (h : GenOk K F H g) (n : H p = none) : p ∉ g.S := fun z => h.there p z n
theorem keepS {H H1 : Hp} (k : Keep [g.dk, g.cs] H H1) : Keep g.S H H1 := k.mono fun b z => by
  simp only [List.mem_cons, List.not_mem_nil, or_false] at z ⊢
  rcases z with z | z <;> simp [z]
theorem keep0S {H H1 : Hp} (k : Keep [] H H1) : Keep g.S H H1 := k.mono (by simp)
end
/-! ### how great terms may be -/
def Sz : Nat → Nat
  | 0 => 1
  | 1 => 1
  | m + 2 => 1 + 4 * max (Sz (m + 1)) (1 + Sz m)
def So (m : Nat) : Nat := max (Sz m) (1 + Sz (m - 1))
def Cd : Nat → Nat
  | 0 => 0
  | 1 => 0
  | m + 2 => max (Cd (m + 1)) (1 + Cd m)
def Co (m : Nat) : Nat := max (Cd m) (1 + Cd (m - 1))
theorem Sz_pos : ∀ m, 1 ≤ Sz m
  | 0 => Nat.le_refl _
  | 1 => Nat.le_refl _
  | m + 2 => by show 1 ≤ 1 + _; omega
/-- a term of a kind, so high, so great -/
structure Tg (F : Tab) (Γ : List Kd) (κ : Kd) (e s c : Nat) (t : Tm) : Prop where
  k : HasK F Γ t κ
  e : evh t ≤ e
  s : nodes t ≤ s
  c : cdeep t ≤ c
structure Tgs (F : Tab) (Γ : List Kd) (κs : List Kd) (e s c : Nat) (ts : List Tm) : Prop where
  k : HasKs F Γ ts κs
  e : ∀ t ∈ ts, evh t ≤ e
  s : nodesL ts ≤ ts.length * s
  c : cdeepL ts ≤ c
theorem nodesL_snoc (t : Tm) : ∀ ts, nodesL (ts ++ [t]) = nodesL ts + nodes t
  | [] => by simp [nodesL]
  | q :: ts => by
    have := nodesL_snoc t ts
    simp only [List.cons_append, nodesL, this]
    omega
theorem cdeepL_snoc (t : Tm) : ∀ ts, cdeepL (ts ++ [t]) = max (cdeepL ts) (cdeep t)
  | [] => by simp [cdeepL]
  | q :: ts => by
    have := cdeepL_snoc t ts
    simp only [List.cons_append, cdeepL, this]
    omega
theorem HasKs.snoc {F : Tab} {Γ : List Kd} {t : Tm} {κ : Kd} (h2 : HasK F Γ t κ) : ∀ {ts : List Tm} {κs : List Kd}, HasKs F Γ ts κs → HasKs F Γ (ts ++ [t]) (κs ++ [κ])
  | [], [], _ => ⟨h2, trivial⟩
  | _ :: _, _ :: _, h => ⟨h.1, HasKs.snoc h2 h.2⟩
  | [], _ :: _, h => h.elim
  | _ :: _, [], h => h.elim
theorem Tgs.nil {F : Tab} {Γ : List Kd} {e s c : Nat} : Tgs F Γ [] e s c [] := ⟨trivial, fun t z => (by cases z), Nat.zero_le _, Nat.zero_le _⟩
theorem Tgs.snoc {F : Tab} {Γ κs : List Kd} {κ : Kd} {e s c : Nat} {ts : List Tm} {t : Tm} (h : Tgs F Γ κs e s c ts) (h2 : Tg F Γ κ e s c t) : Tgs F Γ (κs ++ [κ]) e s c (ts ++ [t]) := by
  refine ⟨h.k.snoc h2.k, fun t' z => ?_, ?_, ?_⟩
  · rcases List.mem_append.mp z with z | z
    · exact h.e _ z
    · rw [List.mem_singleton.mp z]
      exact h2.e
  · rw [nodesL_snoc, List.length_append, List.length_singleton, Nat.add_mul, Nat.one_mul]
    have := h.s
    have := h2.s
    omega
  · rw [cdeepL_snoc]
    have := h.c
    have := h2.c
    omega
theorem evhL_of {e : Nat} : ∀ {ts : List Tm}, (∀ t ∈ ts, evh t ≤ e) → evhL ts ≤ e + 1
  | [], _ => Nat.zero_le _
  | t :: ts, h => by
    have h1 := h t (List.mem_cons_self ..)
    have h2 := evhL_of (fun x z => h x (List.mem_cons_of_mem t z))
    simp only [evhL]
    omega
theorem Tg.mono {F : Tab} {Γ : List Kd} {κ : Kd} {e s c e' s' c' : Nat} {t : Tm} (h : Tg F Γ κ e s c t) (h1 : e ≤ e') (h2 : s ≤ s') (h3 : c ≤ c') : Tg F Γ κ e' s' c' t := ⟨h.k, Nat.le_trans h.e h1, Nat.le_trans h.s h2, Nat.le_trans h.c h3⟩
/-- what a generator's call gives -/
def GenQ (K : PySem.W.Frag) (H : Hp) (g : GenD) (G : Tm → Prop) (Q : VK) : Prop := ∀ t v H', G t → Keep g.S H H' → DeckOk H' g.dk g.cs → LeftOk H' g.ll → At K H' v (encT t) → Q v H'
end K46
/-! K46R7 -/
set_option maxHeartbeats 4000000
/-! ### defs that are called where nothing is being shown (guards), and little stands around (units) -/
namespace K46
open PySem PySem.Spec PyProof.Rows L2
/-- nothing is being shown, the units are few -/
structure Calm (u : Nat) (A : Around) : Prop where
  gs : A.guards = some []
  un : A.units ≤ u
theorem Calm.deeper {u : Nat} {A : Around} (c : Calm u A) (env : Env) : Calm (u + 3) (A.deeper env) := ⟨c.gs, Nat.add_le_add_right c.un 3⟩
structure FnG (P : Program) (w : World) (K : PySem.W.Frag) (mg : Str → Option Value) (base : Heap) (CX : CXT) (u k : Nat) (f : Addr) (fd : FuncData) (ps : List Str) (sp : Sp) : Prop where
  len : ∀ vs H Q E, sp vs H Q E → vs.length = ps.length
  go : ∀ (A : Around), Calm u A → Room k A → ∀ (outer : List Env) (s : Shared) (H : Hp) (args : Args) (us : List Value) (vs : List V) (Q : VK) (E : XK), Env0 P w K mg base A outer s H → BindsTo s fd args (ps.zip us) → Vals vs us → sp vs H Q E →
    codeAny (model P w) A (.call (.ref f) args) (CR CX outer P w H s Q E) s
section
variable {P : Program} {w : World} {K : PySem.W.Frag} {mg : Str → Option Value} {base : Heap} {CX : CXT} {u k : Nat} {f : Addr} {fd : FuncData} {ps N : List Str} {sp : Sp} {x qual : Str} {params : Arguments} {body : List Stmt} {scope : Scope} {dvs : List V} {kws : List (Str × V)}
theorem FnG_of (F : FunD K x qual params body scope dvs kws f fd) (S : FnScope N ps scope) (len : ∀ vs H Q E, sp vs H Q E → vs.length = ps.length)
    (hbody : ∀ (cdv : Value) (A : Around) (outer : List Env) (s : Shared) (H : Hp) (vs : List V) (Q : VK) (E : XK), Calm (u + 3) (A.deeper (envOfC qual scope s.heap.objs.size f cdv)) → Room k (A.deeper (envOfC qual scope s.heap.objs.size f cdv)) → sp vs H Q E →
      ∃ t, PSs (cxOf CX P w K mg base N qual scope f cdv A outer s H E) body t ∧ t { nx := fun _ H' => Q .non H', rt := Q } (start N vs) H) : FnG P w K mg base CX u (k + 1) f fd ps sp := by
  obtain ⟨oc, od, dV, kV, doc, pm, an, cdv, ct, osl, rfl, lk, hcd, _, _⟩ := F.ex
  refine ⟨len, fun A hc hr outer s H args us vs Q E e0 hb r hsp => ?_⟩
  have KX : K.In s.heap := e0.mod.kin.keeps fun b o e => (e0.bs b o e).1
  have lim : s.heap.NoLimit := e0.mod.nolimit.keeps fun b o e => (e0.bs b o e).1
  refine codeAny_call_function hr.depth (KX _ _ lk) rfl S.co S.gen rfl (PySem.W.codeRec_of KX hcd) (hb _ _ _ _ ?_)
  refine wpAny_newFunctionEnv_cells S.kind (fun y hy => ?_) fun env he s1 z => ?_
  · rcases S.par y.1 (List.of_mem_zip hy).1 with q | q
    · exact .inl q
    · exact .inr ⟨q, PySem.W.cellsFrom_some _ _ _ (.inl q)⟩
  · subst he
    obtain ⟨t, ht, hq⟩ := hbody cdv A outer s H vs Q E (hc.deeper _) (hr.deeper _) hsp
    have I := inv_start (CX := CX) (E := E) (qual := qual) (f := f) (cd := cdv) (A := A) S hr.hd e0 (len _ _ _ _ hsp) r z
    refine ⟨lim.keeps z.toInCall.keep, codeAny_func (wpAny_mono (ht.run [] s1 (start N vs) H _ I hq) (fun fl s' hs => ?_) fun e s' hs => hs)⟩
    cases fl with
    | ret y =>
      obtain ⟨v, σ', H', J, rv, q⟩ := hs
      exact ⟨v, H', J.os, J.bare, J.base, J.hok, rv, q⟩
    | next =>
      obtain ⟨σ', H', J, q⟩ := hs
      exact ⟨V.non, H', J.os, J.bare, J.base, J.hok, rfl, q⟩
    | brk => exact hs.elim fun _ ⟨_, _, q⟩ => False.elim q
    | cont => exact hs.elim fun _ ⟨_, _, q⟩ => False.elim q
end
section
variable {X : Cx} {CX : CXT} {u k : Nat} {f : Addr} {fd : FuncData} {ps : List Str} {sp : Sp} {E : XK} {x : Str} {p pos : Pos} {e : Expr} {es : List Expr} {t : TA}
theorem pe_callC (F : FnG X.prog X.w X.K X.mg X.base CX u k f fd ps sp) (hc : Calm u X.A) (hr : Room k X.A) (hg : Gl X x) (hm : X.mg x = some (.ref f)) (hk : PySem.W.keepIn X.K (.ref f) = true) (hb : Binds X.K fd ps []) (hx : Passes CX X E)
    (ha : PA X (e :: es) t) (hdb : (x == ("__debug__" : Str)) = false := by decide) (he : starEach (e :: es) X.env = (false, eval e X.env) :: starEach es X.env := by rfl) (hpl : (backTo pos (starEach es X.env)).any (·.1) = false := by rfl) :
    PE X (.Call (.Name x p) (e :: es) [] pos) (tCall sp [] E t) := by
  refine ⟨fun pins s σ H Q I h => wpAny_Call_Name_kw (ld_glob I hg hm ?_ hdb)⟩
  refine PySem.W.callWith_K (h₀ := X.base) I.ok.mod.kin hk (thn (ha.run pos pins s σ H _ I h) fun us s1 ⟨vs, H1, I1, r, q⟩ => ⟨I1.kIn, ?_⟩) he hpl
  have q : sp (vs ++ []) H1 Q E := q
  rw [List.append_nil] at q
  have b := hb s1 us I1.kIn (by rw [List.append_nil, ← r.length]; exact F.len _ _ _ _ q)
  rw [List.append_nil] at b
  refine wpAny_call (codeAny_mono (F.go X.A hc hr X.stack s1 H1 ⟨us, []⟩ us vs Q E I1.env0 b r q) fun z s' hq => ?_)
  cases z with
  | error er => exact hx pins σ H1 s1 er s' I1 hq
  | ok fl => cases fl <;> first | exact I1.after hq | exact False.elim hq
/-! ### repr of a list or tuple of data -/
def rRepr (X : Cx) : List V → Hp → VK → Prop := fun xs H Q => ∃ (a : Addr) (d : PyData), xs = [.ref a] ∧ Dp X.K H (.ref a) d ∧ d.showable = true ∧ d.hasDict = false ∧ X.A.units + (d.depth + 1) < cLine ∧ d.shown.length ≤ sizeLine ∧ Q (.str d.shown) H
theorem call_repr {u : Nat} (hc : Calm u X.A) : CallR X (.builtin "repr") (rRepr X) := by
  intro pins s σ H xs us Q I r h
  obtain ⟨a, d, rfl, hd, h1, h2, h3, h4, q⟩ := h
  obtain ⟨v, rfl, rv⟩ := vals1 r
  obtain ⟨as, hr⟩ := Dp.reads I d _ _ hd rv
  obtain rfl : v = Value.ref a := rv
  exact repr_of_reads' hr h1 (PyData.noDict_hsm h2) hc.gs h3 (fun _ _ z => z) (fun h' y tk hk => ⟨.str d.shown, H, I.kept (t' := tk) hk, ⟨_, rfl⟩, q⟩) h4
end
/-! ### the end: the law is called where nothing is being shown -/
theorem caller_calm : Calm 4 callerA := ⟨rfl, Nat.le_refl _⟩
section
variable {P : Program} {w : World} {K : PySem.W.Frag} {mg mb : Str → Option Value} {CX : CXT} {k : Nat} {fa a : Addr} {fd : FuncData} {x : Str} {sp : Sp} {s₁ : Shared} {vs : List Value} {ns : List Int}
/-- what the law's call has to give -/
abbrev Given (s₁ : Shared) (r : Result) (s' : Shared) : Prop := r = .ok (.ret (.bool true)) ∧ OldK s₁.heap s'.heap ∧ s'.os = s₁.os ∧ AllBare s'.gens
/-- from an abstract heap that tracks the script at most -/
theorem core_calm (KX : K.In s₁.heap) (hns : s₁.heap.Ns mainGlobals mg) (hb : s₁.heap.Ns builtinsNs mb) (hbb : ∀ x : Str, x ≠ "__name__" → mb x = bootBuiltins x) (hlim : s₁.heap.NoLimit) (hg : s₁.gens = #[])
    (ha : s₁.heap.get? a = some { cls := .type "list", data := .seq vs.toArray }) (hr : Room k callerA) (F : ∀ base : Heap, K.In base → base.Ns mainGlobals mg → FnG P w K mg base CX 4 k fa fd [x] sp) (hbind : ∀ (s : Shared) (u : Value), BindsTo s fd ⟨[u], []⟩ [(x, u)])
    (hCX : ∀ H e s', CX [] H s₁ (fun _ _ _ => False) e s' → False) {H : Hp} (hO : Only H) (hsp : sp [.ref a] H (fun v _ => v = .bl true) fun _ _ _ => False) (hok : HOk P w H s₁.heap) (hA : ∀ b, H b ≠ none → b = a) (hK : H a ≠ none → K.lookup a = none) :
    codeAny (model P w) callerA (.call (.ref fa) ⟨[.ref a], []⟩) (Given s₁) s₁ := by
  have free : ∀ {b : Addr}, b ≠ a → H b = none := fun {b} n => by
    cases q : H b with
    | none => rfl
    | some u => exact absurd (hA b (by simp [q])) n
  have nsK : ∀ {b : Addr} {m : Str → Option Value}, s₁.heap.Ns b m → (hidT s₁.heap H).Ns b m := by
    rintro b m ⟨o, es, ep, e, d, r⟩
    refine ⟨o, es, ep, hidT_get e (free fun z => ?_), d, r⟩
    subst z
    rw [ha] at e
    cases e
    exact Data.noConfusion (show Data.seq vs.toArray _ = Data.dict es ep from d)
  have hKb : K.In (hidT s₁.heap H) := fun b o e => hidT_get (KX b o e) (by
    by_cases n : b = a
    · subst n
      cases q : H b with
      | none => rfl
      | some u =>
        rw [hK (by simp [q])] at e
        cases e
    · exact free n)
  have hM : Mod K mg (hidT s₁.heap H) := ⟨hKb, nsK hns, ⟨mb, nsK hb, hbb⟩, let ⟨mc, h1, h2⟩ := hlim; ⟨mc, nsK h1, h2⟩⟩
  have e0 : Env0 P w K mg (hidT s₁.heap H) callerA [] s₁ H :=
    { frames := rfl, mod := hM, bs := fun b o e => of_hidT e, bsz := Nat.le_of_eq (hidT_size _ _), funs := trivial, frf := fun b hb => absurd (show b ∈ ([] : List Addr) from hb) (by simp), hok := hok, bare := .of_eq hg }
  refine codeAny_mono ((F _ hKb (nsK hns)).go callerA caller_calm hr [] s₁ H ⟨[.ref a], []⟩ [.ref a] [.ref a] _ _ e0 (hbind s₁ (.ref a)) (.cons rfl .nil) hsp) fun r s' h => ?_
  match r, h with
  | .error e, h => exact (hCX H e s' h).elim
  | .ok .next, h => exact False.elim h
  | .ok .brk, h => exact False.elim h
  | .ok .cont, h => exact False.elim h
  | .ok (.ret u), ⟨v, H', os, bare, un, hok', r', (q : v = .bl true)⟩ =>
    subst q
    obtain rfl : u = Value.bool true := r'
    refine ⟨rfl, OldK.of_keep fun b o e => ?_, os, bare⟩
    rcases hO b with z | ⟨ob, xs, z⟩
    · exact un.keep b o e z (by intro y; exact absurd (show b ∈ ([] : List Addr) from y) (by simp)) (by simp)
    · have e1 := (hok b _ z).1
      have e2 := (hok' b _ (un.frzs b ob _ z)).1
      rw [e1] at e
      cases e
      exact e2
theorem call_calm (KX : K.In s₁.heap) (hns : s₁.heap.Ns mainGlobals mg) (hb : s₁.heap.Ns builtinsNs mb) (hbb : ∀ x : Str, x ≠ "__name__" → mb x = bootBuiltins x) (hlim : s₁.heap.NoLimit) (hg : s₁.gens = #[])
    (ha : s₁.heap.get? a = some { cls := .type "list", data := .seq vs.toArray }) (hi : IntsAre vs ns) (hl : ns.length ≤ sizeLine) (hr : Room k callerA)
    (F : ∀ base : Heap, K.In base → base.Ns mainGlobals mg → FnG P w K mg base CX 4 k fa fd [x] sp) (hbind : ∀ (s : Shared) (u : Value), BindsTo s fd ⟨[u], []⟩ [(x, u)])
    (hsp : ∀ H : Hp, Only H → SqL K H a (ns.map V.int) → sp [.ref a] H (fun v _ => v = .bl true) fun _ _ _ => False)
    (hCX : ∀ H e s', CX [] H s₁ (fun _ _ _ => False) e s' → False) : codeAny (model P w) callerA (.call (.ref fa) ⟨[.ref a], []⟩) (Given s₁) s₁ := by
  have rv := vals_ints hi
  have go := fun {H : Hp} => core_calm (H := H) KX hns hb hbb hlim hg ha hr F hbind hCX
  cases hk : K.lookup a with
  | some o =>
    have e := KX a o hk
    rw [ha] at e
    cases e
    have hS : SqL K (fun _ => none) a (ns.map V.int) := .inr ⟨_, vs.toArray, _, hk, rfl, rfl, rfl, by rw [List.size_toArray, hi.length]; exact hl, by simpa using rv⟩
    exact go (H := fun _ => none) (fun _ => .inl rfl) (hsp _ (fun _ => .inl rfl) hS) (fun b u z => nomatch z) (fun b z => absurd rfl z) fun z => absurd rfl z
  | none =>
    let Hs : Hp := fun b => if b = a then some (.frz { cls := .type "list", data := .seq vs.toArray } (.lst (ns.map V.int))) else none
    have at_ : Hs a = some (.frz { cls := .type "list", data := .seq vs.toArray } (.lst (ns.map V.int))) := if_pos rfl
    have off : ∀ {b}, b ≠ a → Hs b = none := fun n => if_neg n
    have hO : Only Hs := fun b => by
      by_cases n : b = a
      · exact .inr ⟨_, _, n ▸ at_⟩
      · exact .inl (off n)
    refine go (H := Hs) hO (hsp _ hO (.inl (.inr ⟨_, at_⟩))) (fun b u z => ?_) (fun b z => ?_) fun _ => hk
    · by_cases n : b = a
      · subst n
        rw [at_] at z
        cases z
        exact ⟨ha, by rw [List.length_map]; exact hl, vs, _, rv, ha⟩
      · rw [off n] at z
        cases z
    · by_cases n : b = a
      · exact n
      · exact absurd (off n) z
end
theorem walk_calm {l : PySem.W.OpenLaw} {n k : Nat} {q : Program} {loose : List Str} {XP : (Str → Option Value) → Heap → Prop} {YP : World → Heap → Prop} {d : DefRec} {CX : CXT} {x : Str} (hn : l.most = some n) (hn2 : n ≤ sizeLine) (hdf : d.params.defaults = []) (hr : Room k callerA)
    (F : ∀ (w : World) (mg : Str → Option Value) (fa : Addr) (h : Heap), YP w h → h.Ns mainGlobals mg → mg d.name = some (.ref fa) →
      ∃ (K : PySem.W.Frag) (fd : FuncData) (sp : Sp), K.In h ∧ (∀ (s : Shared) (u : Value), BindsTo s fd ⟨[u], []⟩ [(x, u)]) ∧
        (∀ (H : Hp) (a : Addr) (ns : List Int), ns.length ≤ n → Only H → SqL K H a (ns.map V.int) → sp [.ref a] H (fun v _ => v = .bl true) fun _ _ _ => False) ∧
        ∀ base : Heap, K.In base → base.Ns mainGlobals mg → FnG l.prog w K mg base CX 4 k fa fd [x] sp)
    (hCX : ∀ (H : Hp) (s : Shared) (e : Value) (s' : Shared), CX [] H s (fun _ _ _ => False) e s' → False) : PySem.W.WalkO q loose XP YP l.row.toRowW d [] (fun f vs => PySem.call f vs) := by
  refine Att.attach_call hn hdf fun w s₀ s₁ mg mb fa o pm cd doc a vs ns G Y _ _ _ hmg hobj hints hlen hg => ?_
  obtain ⟨K, fd, sp, KX, hb, hsp, hF⟩ := F w mg fa _ Y G.T.g hmg
  exact call_calm KX G.T.g G.T.b G.T.builtins G.T.nolimit hg hobj hints (Nat.le_trans hlen hn2) hr hF hb (fun H hO hS => hsp H a ns hlen hO hS) fun H e s' => hCX H s₁ e s'
end K46
/-! K46R14 -/
set_option maxHeartbeats 4000000
namespace K46
open PySem PySem.Spec PyProof.Rows L2 C8
/-! ### defs that call one another deep: room by single calls -/
structure RoomF (m : Nat) (A : Around) : Prop where
  hd : A.handled = none
  dp : A.depth + m + 8 < recursionLimit
  un : A.units + 16 * m + 300 < cLine
theorem RoomF.mono {j m : Nat} {A : Around} (r : RoomF m A) (h : j ≤ m) : RoomF j A := ⟨r.hd, by have := r.dp; omega, by have := r.un; omega⟩
theorem RoomF.deeper {m : Nat} {A : Around} (r : RoomF (m + 1) A) (env : Env) : RoomF m (A.deeper env) :=
  ⟨r.hd, by have := r.dp; show A.depth + 1 + m + 8 < _; omega, by have := r.un; show A.units + 3 + 16 * m + 300 < _; omega⟩
theorem RoomF.room {m k : Nat} {A : Around} (r : RoomF m A) (h : 3 * k ≤ m) : Room k A := ⟨r.hd, by have := r.dp; omega, by have := r.un; omega⟩
structure FnF (P : Program) (w : World) (K : PySem.W.Frag) (mg : Str → Option Value) (base : Heap) (m : Nat) (f : Addr) (fd : FuncData) (ps : List Str) (sp : Sp) : Prop where
  len : ∀ vs H Q E, sp vs H Q E → vs.length = ps.length
  go : ∀ (A : Around), RoomF m A → ∀ (outer : List Env) (s : Shared) (H : Hp) (args : Args) (us : List Value) (vs : List V) (Q : VK) (E : XK), Env0 P w K mg base A outer s H → BindsTo s fd args (ps.zip us) → Vals vs us → sp vs H Q E →
    codeAny (model P w) A (.call (.ref f) args) (CR C8.CX0 outer P w H s Q E) s
structure CalF (P : Program) (w : World) (K : PySem.W.Frag) (mg : Str → Option Value) (base : Heap) (m : Nat) (x : Str) (sp : Sp) : Prop where
  ex : ∃ (f : Addr) (fd : FuncData) (ps : List Str), FnF P w K mg base m f fd ps sp ∧ mg x = some (.ref f) ∧ PySem.W.keepIn K (.ref f) = true ∧ Binds K fd ps []
section
variable {P : Program} {w : World} {K : PySem.W.Frag} {mg : Str → Option Value} {base : Heap} {m k j : Nat} {f : Addr} {fd : FuncData} {ps N : List Str} {sp sp' : Sp} {x : Str} {st : Stmt}
abbrev BodyF (P : Program) (w : World) (K : PySem.W.Frag) (mg : Str → Option Value) (base : Heap) (qual : Str) (st : Stmt) (f : Addr) (N : List Str) (m : Nat) (sp : Sp) : Prop :=
  ∀ (cdv : Value) (A : Around) (outer : List Env) (s : Shared) (H : Hp) (vs : List V) (Q : VK) (E : XK), RoomF m (A.deeper (envOfC qual (defScope st) s.heap.objs.size f cdv)) → sp vs H Q E →
    ∃ t, PSs (cxOf C8.CX0 P w K mg base N qual (defScope st) f cdv A outer s H E).nox (defBody st) t ∧ t { nx := fun _ H' => Q .non H', rt := Q } (start N vs) H
theorem fnF_mk (F : Fd K x x st [] f fd) (S : FnScope N ps (defScope st)) (len : ∀ vs H Q E, sp vs H Q E → vs.length = ps.length) (hb : BodyF P w K mg base x st f N m sp) : FnF P w K mg base (m + 1) f fd ps sp := by
  obtain ⟨oc, od, dV, kV, doc, pm, an, cdv, ct, osl, rfl, lk, hcd, _, _⟩ := F.ex
  refine ⟨len, fun A hr outer s H args us vs Q E e0 hbi r hsp => ?_⟩
  have KX : K.In s.heap := e0.mod.kin.keeps fun b o e => (e0.bs b o e).1
  have lim : s.heap.NoLimit := e0.mod.nolimit.keeps fun b o e => (e0.bs b o e).1
  refine codeAny_call_function (by have := hr.dp; omega) (KX _ _ lk) rfl S.co S.gen rfl (PySem.W.codeRec_of KX hcd) (hbi _ _ _ _ ?_)
  refine wpAny_newFunctionEnv_cells S.kind (fun y hy => ?_) fun env he s1 z => ?_
  · rcases S.par y.1 (List.of_mem_zip hy).1 with q | q
    · exact .inl q
    · exact .inr ⟨q, PySem.W.cellsFrom_some _ _ _ (.inl q)⟩
  · subst he
    obtain ⟨t, ht, hq⟩ := hb cdv A outer s H vs Q E (hr.deeper _) hsp
    have ht := ht.nox
    have I := inv_start (CX := C8.CX0) (E := E) (qual := x) (f := f) (cd := cdv) (A := A) S hr.hd e0 (len _ _ _ _ hsp) r z
    refine ⟨lim.keeps z.toInCall.keep, codeAny_func (wpAny_mono (ht.run [] s1 (start N vs) H _ I hq) (fun fl s' hs => ?_) fun e s' hs => hs)⟩
    cases fl with
    | ret y =>
      obtain ⟨v, σ', H', J, rv, q⟩ := hs
      exact ⟨v, H', J.os, J.bare, J.base, J.hok, rv, q⟩
    | next =>
      obtain ⟨σ', H', J, q⟩ := hs
      exact ⟨V.non, H', J.os, J.bare, J.base, J.hok, rfl, q⟩
    | brk => exact hs.elim fun _ ⟨_, _, q⟩ => False.elim q
    | cont => exact hs.elim fun _ ⟨_, _, q⟩ => False.elim q
theorem calF_mk (hf : ∃ fd, Fd K x x st [] f fd) (hg : mg x = some (.ref f)) (S : FnScope N ps (defScope st)) (hbd : BindsN x st x ps) (len : ∀ vs H Q E, sp vs H Q E → vs.length = ps.length) (hb : BodyF P w K mg base x st f N m sp) :
    CalF P w K mg base (m + 1) x sp := by
  obtain ⟨fd, F⟩ := hf
  exact ⟨f, fd, ps, fnF_mk F S len hb, hg, F.kp, F.bindsN hbd⟩
theorem calF_imp (c : CalF P w K mg base m x sp) (h : ∀ vs H Q E, sp' vs H Q E → sp vs H Q E) : CalF P w K mg base m x sp' := by
  obtain ⟨f, fd, ps, F, h1, h2, h3⟩ := c.ex
  exact ⟨f, fd, ps, ⟨fun vs H Q E z => F.len vs H Q E (h _ _ _ _ z), fun A hr outer s H args us vs Q E e0 b r z => F.go A hr outer s H args us vs Q E e0 b r (h _ _ _ _ z)⟩, h1, h2, h3⟩
theorem calF_lift (c : CalF P w K mg base m x sp) (h : m ≤ j) : CalF P w K mg base j x sp := by
  obtain ⟨f, fd, ps, F, h1, h2, h3⟩ := c.ex
  exact ⟨f, fd, ps, ⟨F.len, fun A hr => F.go A (hr.mono h)⟩, h1, h2, h3⟩
theorem calF_of (c : Cal P w K mg base k x sp []) (h : 3 * k ≤ m) : CalF P w K mg base m x sp := by
  obtain ⟨f, fd, ps, ds, F, h1, h2, h3, h4⟩ := c.ex
  cases h4
  exact ⟨f, fd, ps, ⟨F.len, fun A hr outer s H args us vs Q E e0 b r z => F.run A outer s H args us vs Q E (hr.room h) e0 b r z⟩, h1, h2, h3⟩
end
section
variable {X : Cx} {m j : Nat} {x : Str} {sp : Sp} {p pos : Pos} {e : Expr} {es : List Expr} {t : TA}
theorem pe_cF (c : CalF X.prog X.w X.K X.mg X.base m x sp) (hr : RoomF j X.A) (hk : m ≤ j) (hg : Gl X x) (ha : PA X (e :: es) t)
    (hdb : (x == ("__debug__" : Str)) = false := by decide) (he : starEach (e :: es) X.env = (false, eval e X.env) :: starEach es X.env := by rfl) (hpl : (backTo pos (starEach es X.env)).any (·.1) = false := by rfl) :
    PE X (.Call (.Name x p) (e :: es) [] pos) (tCall sp [] C8.E0 t) := by
  obtain ⟨f, fd, ps, F, hm, kp, hb⟩ := c.ex
  refine ⟨fun pins s σ H Q I h => wpAny_Call_Name_kw (ld_glob I hg hm ?_ hdb)⟩
  refine PySem.W.callWith_K (h₀ := X.base) I.ok.mod.kin kp (thn (ha.run pos pins s σ H _ I h) fun us s1 ⟨vs, H1, I1, r, q⟩ => ⟨I1.kIn, ?_⟩) he hpl
  have q : sp (vs ++ []) H1 Q C8.E0 := q
  rw [List.append_nil] at q
  have b := hb s1 us I1.kIn (by rw [List.append_nil, ← r.length]; exact F.len _ _ _ _ q)
  rw [List.append_nil] at b
  refine wpAny_call (codeAny_mono (F.go X.A (hr.mono hk) X.stack s1 H1 ⟨us, []⟩ us vs Q C8.E0 I1.env0 b r q) fun z s' hq => ?_)
  cases z with
  | error er => exact C8.pass0 (E := C8.E0) pins σ H1 s1 er s' I1 hq
  | ok fl => cases fl <;> first | exact I1.after hq | exact False.elim hq
theorem pe_cFX {ι : Type} [ne : Nonempty ι] {sp : ι → Sp} (c : ∀ i, CalF X.prog X.w X.K X.mg X.base m x (sp i)) (hr : RoomF j X.A) (hk : m ≤ j) (hg : Gl X x) (ha : PA X (e :: es) t)
    (hdb : (x == ("__debug__" : Str)) = false := by decide) (he : starEach (e :: es) X.env = (false, eval e X.env) :: starEach es X.env := by rfl) (hpl : (backTo pos (starEach es X.env)).any (·.1) = false := by rfl) :
    PE X (.Call (.Name x p) (e :: es) [] pos) (tCall (fun vs H Q E => ∃ i, sp i vs H Q E) [] C8.E0 t) := by
  obtain ⟨i0⟩ := ne
  obtain ⟨f, fd0, ps0, F0, hm, kp, _⟩ := (c i0).ex
  refine ⟨fun pins s σ H Q I h => wpAny_Call_Name_kw (ld_glob I hg hm ?_ hdb)⟩
  refine PySem.W.callWith_K (h₀ := X.base) I.ok.mod.kin kp (thn (ha.run pos pins s σ H _ I h) fun us s1 ⟨vs, H1, I1, r, q⟩ => ⟨I1.kIn, ?_⟩) he hpl
  obtain ⟨i, q⟩ := (q : ∃ i, sp i (vs ++ []) H1 Q C8.E0)
  rw [List.append_nil] at q
  obtain ⟨f', fd, ps, F, hm', _, hb⟩ := (c i).ex
  rw [hm] at hm'
  cases hm'
  have b := hb s1 us I1.kIn (by rw [List.append_nil, ← r.length]; exact F.len _ _ _ _ q)
  rw [List.append_nil] at b
  refine wpAny_call (codeAny_mono (F.go X.A (hr.mono hk) X.stack s1 H1 ⟨us, []⟩ us vs Q C8.E0 I1.env0 b r q) fun z s' hq => ?_)
  cases z with
  | error er => exact C8.pass0 (E := C8.E0) pins σ H1 s1 er s' I1 hq
  | ok fl => cases fl <;> first | exact I1.after hq | exact False.elim hq
end
end K46
/-! K46N4 -/
set_option maxHeartbeats 4000000
namespace K46
open PySem PySem.Spec PyProof.Rows L2 C8
theorem Keep.there {S S' : List Addr} {H H1 : Hp} (k : Keep S' H H1) (h : ∀ b ∈ S, H b ≠ none) (h' : ∀ b ∈ S', H1 b ≠ none) : ∀ b ∈ S, H1 b ≠ none := fun b z => by
  by_cases m : b ∈ S'
  · exact h' b m
  · cases e : H b with
    | none => exact absurd e (h b z)
    | some o =>
      rw [k.at_ b o m e]
      simp
section
variable {P : Program} {w : World} {K : PySem.W.Frag} {mg : Str → Option Value} {base : Heap}
/-- what a run may come to: None, or a worth by so many steps -/
def RunRes (K : PySem.W.Frag) (F : Tab) (S : List Addr) (cl : Addr) (H : Hp) (c : Nat) (κ : Kd) (G : Wo → Nat → Prop) (Q : VK) : Prop :=
  (∀ H', Keep [cl] H H' → Q .non H') ∧ ∀ wo s v H', G wo s → WoK F wo κ → Keep [cl] H H' → H' cl = some (.lst [.int ((c + s : Nat) : Int), .int 40]) → WAt K S H' v wo → c + s ≤ 40 → Q v H'
def sp_run (K : PySem.W.Frag) (F : Tab) (g : List Df) (r e : Nat) : Sp := fun vs H Q _ => ∃ (S : List Addr) (gv tv : V) (al cl : Addr) (us : List V) (env : List Wo) (t : Tm) (Γ : List Kd) (κ : Kd) (c : Nat), vs = [gv, tv, .ref al, .ref cl] ∧ At K H gv (encG g) ∧ At K H tv (encT t) ∧ H al = some (.lst us) ∧ (al ∉ S ∧ cl ∈ S ∧ ∀ b ∈ S, H b ≠ none) ∧ WAtL K S H us env ∧ WosK F env Γ ∧ HasK F Γ t κ ∧ evh t ≤ e ∧
  H cl = some (.lst [.int (c : Int), .int 40]) ∧ (c ≤ 40 ∧ 40 ≤ c + r) ∧ us.length < sizeLine ∧ RunRes K F S cl H c κ (fun wo s => EvL g env [t] [wo] s) Q
def sp_step (K : PySem.W.Frag) (F : Tab) (g : List Df) (r : Nat) : Sp := fun vs H Q _ => ∃ (S : List Addr) (gv bv : V) (al cl : Addr) (us : List V) (env : List Wo) (b : Tm) (Γ : List Kd) (c : Nat), vs = [gv, bv, .ref al, .ref cl] ∧ At K H gv (encG g) ∧ At K H bv (encT b) ∧ H al = some (.lst us) ∧ (al ∉ S ∧ cl ∈ S ∧ ∀ b ∈ S, H b ≠ none) ∧ WAtL K S H us env ∧ WosK F env Γ ∧ HasK F Γ b .data ∧ evh b ≤ 3 ∧
  H cl = some (.lst [.int (c : Int), .int 40]) ∧ (c ≤ 40 ∧ 40 ≤ c + r) ∧ us.length < sizeLine ∧ RunRes K F S cl H c .data (fun wo s => ∃ s2, s = 1 + s2 ∧ EvL g env [b] [wo] s2) Q
/-- the run one step on, at what height a body has -/
def sp_runS (K : PySem.W.Frag) (F : Tab) (g : List Df) (r : Nat) : Sp := fun vs H Q E => ∃ r', r = r' + 1 ∧ sp_run K F g r' 3 vs H Q E
theorem ok_step (T : Tx K mg) (F : Tab) (g : List Df) (r : Nat) (c_run : CalF P w K mg base (7 * r + 15) "_law_run" (sp_runS K F g r)) : CalF P w K mg base (7 * r + 16) "_law_step" (sp_step K F g r) := by
  refine calF_mk T.f_step T.g_step sc_step (fun _ _ _ _ _ _ us hl => match us, hl with | [_, _, _, _], _ => rfl) (fun vs H Q E h => ?_) (fun cdv A outer s0 H vs Q E hr h => ?_)
  · obtain ⟨S, gv, bv, al, cl, us, env, b, Γ, c, rfl, _⟩ := h
    rfl
  · obtain ⟨S, gv, bv, al, cl, us, env, b, Γ, c, rfl, hg, hb, hal, ⟨nas, cs, hS⟩, hus, hek, hbk, hev, hcl, hc, hsz, q⟩ := h
    refine ⟨_, (pss_cons (ps_asg (pe_op op_add (pe_ix ix_list (pv 3) pe_int (fun _ _ => rfl)) pe_int) (pg_sub (pv 3) pe_int set_list))
      (pss_one (ps_ret (pe_ifExp (pt_cmpR op_gt (pe_ix ix_list (pv 3) pe_int (fun _ _ => rfl)) (pe_ix ix_list (pv 3) pe_int (fun _ _ => rfl)) (nomark _)) pe_non (pe_cF c_run hr (by omega) rfl (pa_cons (pv 0) (pa_cons (pv 1) (pa_cons (pv 2) (pa_cons (pv 3) pa_nil))))))))), ?_⟩
    refine ⟨_, rfl, cl, _, 0, .int (c : Int), rfl, rfl, .of hcl, atI_nat (j := 0) rfl, _, _, rfl, rfl, ?_⟩
    refine ⟨_, rfl, cl, _, 0, 0, rfl, rfl, hcl, rfl, ?_⟩
    have ec : (c : Int) + 1 = ((c + 1 : Nat) : Int) := by omega
    have k1 : Keep [cl] H (upd H cl (.lst [.int ((c : Int) + 1), .int 40])) := Keep.lst hcl (.inl (by simp)) (Keep.refl _ _)
    have hcl1 : upd H cl (.lst [.int ((c : Int) + 1), .int 40]) cl = some (.lst [.int ((c + 1 : Nat) : Int), .int 40]) := by rw [upd_same, ec]
    rw [show ([V.int (c : Int), V.int 40].set 0 ((fun i j => V.int (i + j)) (c : Int) 1)) = [V.int ((c : Int) + 1), V.int 40] from rfl]
    generalize upd H cl (.lst [.int ((c : Int) + 1), .int 40]) = H1 at k1 hcl1
    refine ⟨_, rfl, cl, _, 0, .int ((c + 1 : Nat) : Int), rfl, rfl, .of hcl1, atI_nat (j := 0) rfl, _, rfl, cl, _, 1, .int 40, rfl, rfl, .of hcl1, atI_nat (j := 1) rfl, _, _, rfl, rfl, ?_⟩
    by_cases hr0 : 40 < c + 1
    · refine ⟨true, congrArg V.bl (decide_eq_true (by omega)), ift rfl ?_⟩
      exact q.1 _ k1
    · refine ⟨false, congrArg V.bl (decide_eq_false (by omega)), iff' rfl ?_⟩
      refine ⟨_, rfl, _, rfl, _, rfl, _, rfl, r - 1, by omega, S, gv, bv, al, cl, us, env, b, Γ, .data, c + 1, rfl, hg.keep k1, hb.keep k1, k1.at_ _ _ (by simp only [List.mem_singleton]; exact fun e => nas (e ▸ cs)) hal, ⟨nas, cs, k1.there hS (fun b z => by rw [List.mem_singleton.mp z, hcl1]; simp)⟩, hus.keep (k1.mono fun b z => List.mem_singleton.mp z ▸ cs), hek, hbk, hev, hcl1, ⟨by omega, by omega⟩, hsz, fun H' k2 => q.1 _ (k1.trans k2), fun wo s v H' he hwk k2 hc2 hwa hle => ?_⟩
      refine q.2 wo (1 + s) v H' ⟨s, rfl, he⟩ hwk (k1.trans k2) ?_ hwa (by omega)
      rw [hc2]
      have : c + 1 + s = c + (1 + s) := by omega
      rw [this]
end
end K46
/-! K46N5 -/
set_option maxHeartbeats 4000000
namespace K46
open PySem PySem.Spec PyProof.Rows L2 C8
theorem EvL.append {g : List Df} {env : List Wo} {a b : List Tm} {wa wb : List Wo} {s1 s2 : Nat} (h : EvL g env a wa s1) (h2 : EvL g env b wb s2) : EvL g env (a ++ b) (wa ++ wb) (s1 + s2) := by
  induction h with
  | nil => simpa using h2
  | «at» hi e _ ih => exact .at hi e (ih h2)
  | clo _ ih => exact .clo (ih h2)
  | dull e _ ih => exact .dull e (ih h2)
  | shape h1 _ _ ih => rw [Nat.add_assoc]; exact .shape h1 (ih h2)
  | call h1 hr hp h3 _ _ _ ih => rw [Nat.add_assoc]; exact .call h1 hr hp h3 (ih h2)
  | give h1 h3 _ _ _ ih => rw [Nat.add_assoc]; exact .give h1 h3 (ih h2)
  | go h1 h3 _ _ _ ih => rw [Nat.add_assoc]; exact .go h1 h3 (ih h2)
theorem HasKs.get {F : Tab} {Γ : List Kd} : ∀ {ts : List Tm} {κs : List Kd} {i : Nat} {t : Tm}, HasKs F Γ ts κs → ts[i]? = some t → ∃ κ, κs[i]? = some κ ∧ HasK F Γ t κ
  | [], [], _, _, _, e => by simp at e
  | _ :: _, _ :: _, 0, _, h, e => by
    simp at e
    subst e
    exact ⟨_, rfl, h.1⟩
  | _ :: _, _ :: _, i + 1, _, h, e => by
    obtain ⟨κ, h1, h2⟩ := HasKs.get (i := i) h.2 (by simpa using e)
    exact ⟨κ, by simpa using h1, h2⟩
  | [], _ :: _, _, _, h, _ => h.elim
  | _ :: _, [], _, _, h, _ => h.elim
theorem HasKs.length {F : Tab} {Γ : List Kd} : ∀ {ts : List Tm} {κs : List Kd}, HasKs F Γ ts κs → ts.length = κs.length
  | [], [], _ => rfl
  | _ :: _, _ :: _, h => congrArg Nat.succ (HasKs.length h.2)
  | [], _ :: _, h => h.elim
  | _ :: _, [], h => h.elim
section
variable {K : PySem.W.Frag} {S S' : List Addr} {H : Hp} {f : Addr}
mutual
theorem WAt.mono (h : ∀ b ∈ S, b ∈ S') : ∀ {w : Wo} {v : V}, WAt K S' H v w → WAt K S H v w
  | .shape n ws, _, q => by
    cases q with
    | shape h1 h2 h3 => exact .shape h1 h2 (WAtL.mono h h3)
  | .clo fn b env, _, q => by
    cases q with
    | clo e h1 h2 h3 h4 h5 => exact .clo e h1 h2 h3 (fun z => h4 (h _ z)) (WAtL.mono h h5)
  | .dull, _, q => by
    cases q with
    | dull q => exact .dull q
theorem WAtL.mono (h : ∀ b ∈ S, b ∈ S') : ∀ {ws : List Wo} {vs : List V}, WAtL K S' H vs ws → WAtL K S H vs ws
  | [], _, q => by
    cases q
    exact .nil
  | w :: ws, _, q => by
    cases q with
    | cons h1 h2 => exact .cons (WAt.mono h h1) (WAtL.mono h h2)
end
mutual
theorem WAt.fresh (hn : H f = none) : ∀ {w : Wo} {v : V}, WAt K S H v w → WAt K (f :: S) H v w
  | .shape n ws, _, q => by
    cases q with
    | shape h1 h2 h3 => exact .shape h1 h2 (WAtL.fresh hn h3)
  | .clo fn b env, _, q => by
    cases q with
    | clo e h1 h2 h3 h4 h5 => exact .clo e h1 h2 h3 (by simp only [List.mem_cons, not_or]; exact ⟨ne_of_none h3 hn, h4⟩) (WAtL.fresh hn h5)
  | .dull, _, q => by
    cases q with
    | dull q => exact .dull q
theorem WAtL.fresh (hn : H f = none) : ∀ {ws : List Wo} {vs : List V}, WAtL K S H vs ws → WAtL K (f :: S) H vs ws
  | [], _, q => by
    cases q
    exact .nil
  | w :: ws, _, q => by
    cases q with
    | cons h1 h2 => exact .cons (WAt.fresh hn h1) (WAtL.fresh hn h2)
end
end
theorem WAtL.cons' {K : PySem.W.Frag} {S : List Addr} {H : Hp} {vs : List V} {w : Wo} {ws : List Wo} (h : WAtL K S H vs (w :: ws)) : ∃ v us, vs = v :: us ∧ WAt K S H v w ∧ WAtL K S H us ws := by
  cases h with
  | cons a b => exact ⟨_, _, rfl, a, b⟩
theorem WAt.clo' {K : PySem.W.Frag} {S : List Addr} {H : Hp} {v : V} {fn : Bool} {b : Tm} {env : List Wo} (h : WAt K S H v (.clo fn b env)) : ∃ (a l : Addr) (w0 : Str) (bv : V) (us : List V), v = .ref a ∧ SqT K H a [.str w0, bv, .ref l] ∧ At K H bv (encT b) ∧ H l = some (.lst us) ∧ l ∉ S ∧ WAtL K S H us env := by
  cases h with
  | clo e h1 h2 h3 h4 h5 => exact ⟨_, _, _, _, _, rfl, h1, h2, h3, h4, h5⟩
section
variable {P : Program} {w : World} {K : PySem.W.Frag} {mg : Str → Option Value} {base : Heap}
def sp_runs (K : PySem.W.Frag) (F : Tab) (g : List Df) (r e : Nat) : Sp := fun vs H Q _ => ∃ (S : List Addr) (gv : V) (ta al cl : Addr) (xs us : List V) (env : List Wo) (ts : List Tm) (Γ κs : List Kd) (c : Nat), vs = [gv, .ref ta, .ref al, .ref cl] ∧ At K H gv (encG g) ∧ SqT K H ta xs ∧ AtL K H xs (encTs ts) ∧ H al = some (.lst us) ∧ (al ∉ S ∧ cl ∈ S ∧ ∀ b ∈ S, H b ≠ none) ∧ WAtL K S H us env ∧ WosK F env Γ ∧ HasKs F Γ ts κs ∧ evhL ts ≤ e ∧
  H cl = some (.lst [.int (c : Int), .int 40]) ∧ (c ≤ 40 ∧ 40 ≤ c + r) ∧ us.length < sizeLine ∧ ts.length < sizeLine ∧ (∀ H', Keep [cl] H H' → Q .non H') ∧
  ∀ ws s l vs H', EvL g env ts ws s → WosK F ws κs → Keep [cl] H H' → H' cl = some (.lst [.int ((c + s : Nat) : Int), .int 40]) → H l = none → H' l = some (.lst vs) → WAtL K S H' vs ws → c + s ≤ 40 → Q (.ref l) H'
/-- the run of a part: of less height -/
def sp_runE (K : PySem.W.Frag) (F : Tab) (g : List Df) (r e : Nat) : Sp := fun vs H Q E => ∃ e', e = e' + 1 ∧ sp_run K F g r e' vs H Q E
theorem WosK.take_snoc {F : Tab} {ws : List Wo} {κs : List Kd} {i : Nat} {wo : Wo} {κ : Kd} (h : WosK F ws (κs.take i)) (e : κs[i]? = some κ) (hw : WoK F wo κ) : WosK F (ws ++ [wo]) (κs.take (i + 1)) := by
  have e2 : κs.take (i + 1) = κs.take i ++ [κ] := by rw [List.take_add_one, e]; rfl
  rw [e2]
  exact h.append ⟨hw, trivial⟩
theorem ok_runs (T : Tx K mg) (F : Tab) (g : List Df) (r e : Nat) (c_run : CalF P w K mg base (7 * r + 2 * e + 14) "_law_run" (sp_runE K F g r e)) : CalF P w K mg base (7 * r + 2 * e + 15) "_law_runs" (sp_runs K F g r e) := by
  refine calF_mk T.f_runs T.g_runs sc_runs (fun _ _ _ _ _ _ us hl => match us, hl with | [_, _, _, _], _ => rfl) (fun vs H Q E h => ?_) (fun cdv A outer s0 H vs Q E hr h => ?_)
  · obtain ⟨S, gv, ta, al, cl, xs, us, env, ts, Γ, κs, c, rfl, _⟩ := h
    rfl
  · obtain ⟨S, gv, ta, al, cl, xs, us, env, ts, Γ, κs, c, rfl, hg, hta, hxs, hal, ⟨nas, cs, hS⟩, hus, hek, htk, hev, hcl, hc, hsz, htz, qn, qs⟩ := h
    refine ⟨_, (pss_cons (ps_set (i := 4) sc_runs.nd rfl (Or.inl rfl) (pe_lst pa_nil))
      (pss_cons (ps_for PassesOwn.never rfl (pi_tup (pv 1)) (pg_name (i := 5) sc_runs.nd rfl (Or.inl rfl)) (pss_cons (ps_set (i := 6) sc_runs.nd rfl (Or.inl rfl) (pe_cF c_run hr (by omega) rfl (pa_cons (pv 0) (pa_cons (pv 5) (pa_cons (pv 2) (pa_cons (pv 3) pa_nil))))))
      (pss_cons (ps_if (pt_cmpR op_isN (pv 6) pe_non (nomark _)) (pss_one (ps_ret pe_non)) pss_nil)
      (pss_one (ps_expr (pe_bm PySem.F.plainAttrs_list PySem.F.slot_list_append PySem.F.type_list_append mt_append (pv 4) (pa_cons (pv 6) pa_nil)))))))
      (pss_one (ps_ret (pv 4))))), ?_⟩
    refine ⟨by decide, fun f nf => ?_⟩
    have kf := Keep.new (o := .lst []) nf (Keep.refl [cl] H)
    have ncf : cl ≠ f := ne_of_none hcl nf
    have nac : al ≠ cl := fun e => nas (e ▸ cs)
    have naf : al ≠ f := ne_of_none hal nf
    have sub : ∀ b ∈ [cl], b ∈ f :: S := fun b z => List.mem_cons_of_mem _ (List.mem_singleton.mp z ▸ cs)
    have hus2 := hus.fresh nf
    have hxl := hxs.length
    rw [encTs_map, List.length_map] at hxl
    refine ⟨_, rfl, ta, rfl, ⟨xs, kf.sqT hta⟩, for_it (walk_tup (xs := xs)) (fun i σ H' => ∃ (ws : List Wo) (s : Nat) (vs : List V) (o5 o6 : Option V), σ = [some gv, some (.ref ta), some (.ref al), some (.ref cl), some (.ref f), o5, o6] ∧ Keep [cl] H H' ∧ H' f = some (.lst vs) ∧ WAtL K (f :: S) H' vs ws ∧ EvL g env (ts.take i) ws s ∧ WosK F ws (κs.take i) ∧ H' cl = some (.lst [.int ((c + s : Nat) : Int), .int 40]) ∧ c + s ≤ 40)
      ⟨[], 0, [], none, none, rfl, kf, upd_same, .nil, .nil env, trivial, by rw [upd_ne ncf]; exact hcl, by omega⟩ (fun i σ H' _ ⟨ws, s, vs, o5, o6, e, k, _⟩ => k.sqT hta) (fun i v σ H' H'' hi ⟨ws, s, vs, o5, o6, e, k, hf, hvs, hE, hwk, hc2, hcs⟩ yy => ?_) (fun σ H' ⟨ws, s, vs, o5, o6, e, k, hf, hvs, hE, hwk, hc2, hcs⟩ => ?_)⟩
    · subst e
      obtain ⟨rfl, ev⟩ := yy
      obtain ⟨td, e1, hv⟩ := hxs.get' ev
      rw [encTs_map, List.getElem?_map] at e1
      obtain ⟨t, et, rfl⟩ := Option.map_eq_some_iff.mp e1
      obtain ⟨κ, eκ, hκ⟩ := htk.get et
      have hte := evhL_mem (List.mem_of_getElem? et)
      have hvl := hvs.length
      have hwl := hE.length
      rw [List.length_take] at hwl
      have hil := (List.getElem?_eq_some_iff.mp et).1
      refine ⟨_, rfl, _, rfl, _, rfl, _, rfl, e - 1, by omega, f :: S, gv, v, al, cl, us, env, t, Γ, κ, c + s, rfl, hg.keep k, hv.keep k, k.at_ _ _ (by simp [nac]) hal, ⟨by simp [naf, nas], List.mem_cons_of_mem _ cs, fun b z => (List.mem_cons.mp z).elim (fun e => by rw [e, hf]; simp) (k.there hS (fun b z => by rw [List.mem_singleton.mp z, hc2]; simp) b)⟩, hus2.keep (k.mono sub), hek, hκ, by omega, hc2, ⟨hcs, by omega⟩, hsz, fun H5 k5 => ?_, fun wo s1 v1 H5 hE1 hwo k5 hc5 hv1 hle => ?_⟩
      · refine ⟨_, rfl, rfl, _, rfl, ift rfl ?_⟩
        exact qn _ (k.trans k5)
      · have nv : v1 ≠ .non := by
          intro z
          subst z
          cases hv1
        refine ⟨_, rfl, rfl, _, rfl, iff' (decide_eq_false nv) ?_⟩
        have nfc : f ≠ cl := ncf.symm
        have hf5 := k5.at_ _ _ (by simp [nfc]) hf
        refine ⟨_, rfl, .inl ⟨rfl, _, .of hf5⟩, _, rfl, f, vs, v1, rfl, rfl, hf5, by omega, ?_⟩
        have kk := k.trans k5
        have k6 : Keep [f] H5 (upd H5 f (.lst (vs ++ [v1]))) := Keep.lst hf5 (.inl (by simp)) (Keep.refl _ _)
        have et2 : ts.take (i + 1) = ts.take i ++ [t] := by rw [List.take_add_one, et]; rfl
        refine ⟨ws ++ [wo], s + s1, vs ++ [v1], _, _, rfl, Keep.lst hf5 (.inr nf) kk, upd_same, ?_, by rw [et2]; exact hE.append hE1, hwk.take_snoc eκ hwo, ?_, by omega⟩
        · exact ((hvs.keep (k5.mono sub)).append (.cons hv1 .nil)).keep (k6.mono fun b z => List.mem_singleton.mp z ▸ List.mem_cons_self ..)
        · rw [upd_ne ncf, hc5]
          have : c + s + s1 = c + (s + s1) := by omega
          rw [this]
    · subst e
      rw [hxl] at hE hwk
      rw [List.take_length] at hE
      rw [htk.length, List.take_length] at hwk
      exact ⟨_, rfl, qs ws s f vs H' hE hwk k hc2 nf hf (hvs.mono fun b z => List.mem_cons_of_mem _ z) hcs⟩
end
end K46
/-! K46N6 -/
set_option maxHeartbeats 4000000
namespace K46
open PySem PySem.Spec PyProof.Rows L2 C8
section
variable {P : Program} {w : World} {K : PySem.W.Frag} {mg : Str → Option Value} {base : Heap}
def sp_call (K : PySem.W.Frag) (F : Tab) (g : List Df) (r : Nat) : Sp := fun vs H Q _ => ∃ (S : List Addr) (gv : V) (wl cl : Addr) (nm : Str) (us : List V) (ws : List Wo) (rows : List Rw) (c : Nat), vs = [gv, .str nm, .ref wl, .ref cl] ∧ At K H gv (encG g) ∧ rowsOf g nm = some rows ∧ H wl = some (.lst us) ∧ (cl ∈ S ∧ ∀ b ∈ S, H b ≠ none) ∧ WAtL K S H us ws ∧ WosK F ws (F.fn nm) ∧ (∀ r ∈ rows, RwK F (F.fn nm) r ∧ pdeepL r.ps ≤ 2 ∧ pnodesL r.ps ≤ 1000) ∧
  H cl = some (.lst [.int (c : Int), .int 40]) ∧ (c ≤ 40 ∧ 40 ≤ c + r) ∧ RunRes K F S cl H c .data (fun wo s => ∃ a b s2, pick rows ws = some (a, b) ∧ s = 1 + s2 ∧ EvL g a [b] [wo] s2) Q
theorem ok_call (T : Tx K mg) (F : Tab) (g : List Df) (hgz : g.length < sizeLine) (r : Nat) (c_step : CalF P w K mg base (7 * r + 16) "_law_step" (sp_step K F g r)) : CalF P w K mg base (7 * r + 17) "_law_call" (sp_call K F g r) := by
  refine calF_mk T.f_call T.g_call sc_call (fun _ _ _ _ _ _ us hl => match us, hl with | [_, _, _, _], _ => rfl) (fun vs H Q E h => ?_) (fun cdv A outer s0 H vs Q E hr h => ?_)
  · obtain ⟨S, gv, wl, cl, nm, us, ws, rows, c, rfl, _⟩ := h
    rfl
  · obtain ⟨S, gv, wl, cl, nm, us, ws, rows, c, rfl, hg, hro, hwl, ⟨cs, hS⟩, hus, hwk, hrk, hcl, hc, q⟩ := h
    have c_taken := calF_of (ok_taken (P := P) (w := w) (base := base) T S 3) (Nat.le_refl _)
    refine ⟨_, (pss_cons (ps_set (i := 4) sc_call.nd rfl (Or.inl rfl) (pe_ix ix_list (pe_lc (g := (gName 5)) rfl sc_call.nd (pi_tup (pv 0)) (blkOk_by (own := [("_law_row_here", 5)]) (N := ["_law_program_here", "_law_name", "_law_worths", "_law_count", "_law_rows", "_law_row_here", "_law_patterns", "_law_body", "_law_taken_here", "_law_pattern_here", "_law_worth", "_law_more"]) (sc := defScope s_call) (by decide +kernel)) (fun _ _ _ _ _ => (pg_name (i := 5) sc_call.nd rfl (Or.inl rfl))) (fun _ _ _ _ _ => (pts_one (pt_cmpR op_eq (pe_ix (ix_tupK (K := K) rfl) (pv 5) pe_int (fun _ _ => rfl)) (pv 1) (nomark _)))) (fun _ _ _ _ _ => (pe_ix (ix_tupK (K := K) rfl) (pv 5) pe_int (fun _ _ => rfl)))) pe_int (fun _ _ => rfl)))
      (pss_cons (ps_for PassesOwn.never rfl (pi_tup (pv 4)) (pg_tup rfl (pgs_cons (pg_name (i := 6) sc_call.nd rfl (Or.inl rfl)) (pgs_cons (pg_name (i := 7) sc_call.nd rfl (Or.inl rfl)) pgs_nil))) (pss_cons (ps_set (i := 8) sc_call.nd rfl (Or.inl rfl) (pe_lst pa_nil))
      (pss_cons (ps_for PassesOwn.never rfl (pi_zipM rfl T.z_zip (pa_cons (pv 6) (pa_cons (pv 2) pa_nil))) (pg_tup rfl (pgs_cons (pg_name (i := 9) sc_call.nd rfl (Or.inl rfl)) (pgs_cons (pg_name (i := 10) sc_call.nd rfl (Or.inl rfl)) pgs_nil))) (pss_cons (ps_set (i := 11) sc_call.nd rfl (Or.inl rfl) (pe_ifExp (pt_cmpR op_notN (pv 8) pe_non (nomark _)) (pe_cF c_taken hr (by omega) rfl (pa_cons (pv 9) (pa_cons (pv 10) pa_nil))) pe_non))
      (pss_one (ps_set (i := 8) sc_call.nd rfl (Or.inl rfl) (pe_ifExp (pt_cmpR op_notN (pv 11) pe_non (nomark _)) (pe_op op_cat (pv 8) (pv 11)) pe_non)))))
      (pss_one (ps_if (pt_cmpR op_notN (pv 8) pe_non (nomark _)) (pss_one (ps_ret (pe_cF c_step hr (by omega) rfl (pa_cons (pv 0) (pa_cons (pv 7) (pa_cons (pv 8) (pa_cons (pv 3) pa_nil))))))) pss_nil)))))
      (pss_one (ps_ret pe_non)))), ?_⟩
    obtain ⟨ga, gxs, rfl, hga, hgx⟩ := hg.t
    have hgl := hgx.length
    rw [List.length_map] at hgl
    refine ⟨_, rfl, ga, rfl, ⟨gxs, hga⟩, fun D nD => ?_⟩
    refine lc_it (walk_tup (xs := gxs)) (fun i H' => ∃ ys, Keep [] H H' ∧ H' D = some (.lst ys) ∧ AtL K H' ys (((g.take i).filter fun d => decide (d.name = nm)).map fun d => .tup (d.rows.map encR)) ∧ ys.length ≤ i) ⟨[], Keep.new nD (Keep.refl _ _), upd_same, .nil, Nat.le_refl _⟩ (fun i H' _ ⟨ys, k, _⟩ => k.sqT hga) (fun i v H1 H2 hi ⟨ys, k, hD, hy, hyl⟩ yy => ?_) (fun H1 ⟨ys, k, hD, hy, hyl⟩ => ?_)
    · obtain ⟨rfl, ev⟩ := yy
      obtain ⟨dd, e1, hv⟩ := hgx.get' ev
      rw [List.getElem?_map] at e1
      obtain ⟨d, ed, rfl⟩ := Option.map_eq_some_iff.mp e1
      obtain ⟨a, x1, x2, x3, rfl, ha, z1, z2, z3⟩ := (hv.keep k).t3
      obtain rfl := z1.s
      refine ⟨rfl, ?_⟩
      refine ⟨_, rfl, a, _, 0, .str d.name, rfl, rfl, ha, atI_nat (j := 0) rfl, _, rfl, rfl, _, rfl, ?_⟩
      by_cases en : d.name = nm
      · refine ift (decide_eq_true (by rw [en])) ?_
        refine ⟨_, rfl, a, _, 2, x3, rfl, rfl, ha, atI_nat (j := 2) rfl, ys, hD, by omega, ys ++ [x3], Keep.lst hD (.inr nD) k, upd_same, ?_, by simp; omega⟩
        have kD : Keep [D] H2 (upd H2 D (.lst (ys ++ [x3]))) := Keep.lst hD (.inl (by simp)) (Keep.refl _ _)
        rw [take_snoc ed, List.filter_append, List.map_append]
        have : ([d].filter fun d => decide (d.name = nm)) = [d] := by simp [en]
        rw [this]
        exact (hy.keep kD).append (.cons (z3.keep kD) .nil)
      · refine iff' (decide_eq_false fun z => en (V.str.inj z)) ?_
        refine ⟨ys, k, hD, ?_, by omega⟩
        rw [take_snoc ed, List.filter_append]
        have : ([d].filter fun d => decide (d.name = nm)) = [] := by simp [en]
        rw [this, List.append_nil]
        exact hy
    · rw [hgl, List.take_length] at hy
      have hfil : ∃ rest, ((g.filter fun d => decide (d.name = nm)).map fun d => K46.D.tup (d.rows.map encR)) = K46.D.tup (rows.map encR) :: rest := by
        have h1 : (g.filter fun d => decide (d.name = nm)).head? = g.find? fun d => decide (d.name = nm) := List.head?_filter
        obtain ⟨d, e1, e2⟩ := Option.map_eq_some_iff.mp hro
        rw [e1] at h1
        cases hf : g.filter fun d => decide (d.name = nm) with
        | nil => rw [hf] at h1; cases h1
        | cons d' rest =>
          rw [hf] at h1
          cases h1
          exact ⟨_, by rw [List.map_cons, e2]⟩
      obtain ⟨rest, ef⟩ := hfil
      rw [ef] at hy
      obtain ⟨y0, ys', rfl, hy0, _⟩ := AtL.cons' hy
      obtain ⟨ra, rxs, rfl, hra, hrx⟩ := hy0.t
      refine ⟨D, _, 0, .ref ra, rfl, rfl, .of hD, atI_nat (j := 0) rfl, ?_⟩
      have hrl := hrx.length
      rw [List.length_map] at hrl
      have hpick : ∀ i r, rows[i]? = some r → pick (rows.drop i) ws = match takenL r.ps ws with
          | some a => some (a, r.body)
          | none => pick (rows.drop (i + 1)) ws := fun i r e => by
        have l := (List.getElem?_eq_some_iff.mp e).1
        rw [List.drop_eq_getElem_cons l, (List.getElem?_eq_some_iff.mp e).2]
        rfl
      refine ⟨_, rfl, ra, rfl, ⟨rxs, hra⟩, for_it (walk_tup (xs := rxs)) (fun i σ H' => ∃ o6 o7 o8 o9 o10 o11, σ = [some (.ref ga), some (.str nm), some (.ref wl), some (.ref cl), some (.ref ra), none, o6, o7, o8, o9, o10, o11] ∧ Keep [] H1 H' ∧ pick rows ws = pick (rows.drop i) ws)
        ⟨none, none, none, none, none, none, rfl, Keep.refl _ _, rfl⟩ (fun i σ H' _ ⟨o6, o7, o8, o9, o10, o11, e, k2, _⟩ => k2.sqT hra) (fun i v σ H2 H3 hi ⟨o6, o7, o8, o9, o10, o11, e, k2, hp⟩ yy => ?_) (fun σ H2 ⟨o6, o7, o8, o9, o10, o11, e, k2, hp⟩ => ?_)⟩
      · subst e
        obtain ⟨rfl, ev⟩ := yy
        obtain ⟨rd, e1, hv⟩ := hrx.get' ev
        rw [List.getElem?_map] at e1
        obtain ⟨r1, er, rfl⟩ := Option.map_eq_some_iff.mp e1
        obtain ⟨p1, pv1, bv, rfl, hp1, hpv, hbv⟩ := (hv.keep k2).t2
        obtain ⟨pa, zs, rfl, hpa, hzs⟩ := hpv.t
        have hlz := hzs.length
        rw [encPs_map, List.length_map] at hlz
        refine ⟨p1, _, rfl, hp1, rfl, _, _, rfl, _, _, rfl, rfl, ?_⟩
        refine ⟨by decide, fun t0 nt0 => ?_⟩
        have k3 := k.trans k2
        have kt := Keep.new (o := .lst []) nt0 (Keep.refl [] H3)
        have k4 := k3.trans kt
        have hrk1 := hrk r1 (List.mem_of_getElem? er)
        have hul := hus.length
        have hz1 : 1000 < sizeLine := by decide
        refine ⟨_, rfl, _, rfl, pa, wl, zs, us, rfl, kt.sqT hpa, .of (k4.at_ _ _ (by simp) hwl), for_it (walk_zipM (n := min zs.length us.length) rfl) (fun j σ H' => ∃ (o9 o10 o11 : Option V) (x8 : V), σ = [some (.ref ga), some (.str nm), some (.ref wl), some (.ref cl), some (.ref ra), none, some (.ref pa), some bv, some x8, o9, o10, o11] ∧ Keep [] (upd H3 t0 (.lst [])) H' ∧
          ((x8 = .non ∧ takenL r1.ps ws = none) ∨ ∃ (a : List Wo) (l : Addr) (vs : List V), x8 = .ref l ∧ H' l = some (.lst vs) ∧ H l = none ∧ WAtL K S H vs a ∧ takenL r1.ps ws = (takenL (r1.ps.drop j) (ws.drop j)).map (fun r => a ++ r) ∧ a.length ≤ pnodesL (r1.ps.take j)))
          ⟨o9, o10, o11, .ref t0, rfl, Keep.refl _ _, .inr ⟨[], t0, [], rfl, upd_same, k3.free nt0, .nil, by simp, Nat.zero_le _⟩⟩ (fun j σ H' _ ⟨_, _, _, _, _, k5, _⟩ => ⟨(kt.trans k5).sqT hpa, .of ((k4.trans k5).at_ _ _ (by simp) hwl)⟩) (fun j v σ H5 H6 hj ⟨p9, p10, p11, x8, e, k5, hc8⟩ yy => ?_) (fun σ H5 ⟨p9, p10, p11, x8, e, k5, hc8⟩ => ?_)⟩
        · subst e
          obtain ⟨T', x1, x2, rfl, nT, rfl, e2, e3⟩ := yy
          have kT := (k4.trans k5).new_ (o := .tup [x1, x2]) nT
          have kT' := k5.new_ (o := .tup [x1, x2]) nT
          have kT0 := Keep.new (o := .tup [x1, x2]) nT (Keep.refl [] H5)
          refine ⟨T', _, rfl, .of upd_same, rfl, _, _, rfl, _, _, rfl, rfl, ?_⟩
          rcases hc8 with ⟨rfl, hn⟩ | ⟨a, l, vs, rfl, hl, nl, hva, hta, hal⟩
          · refine ⟨_, rfl, rfl, _, rfl, iff' rfl ?_⟩
            refine ⟨_, rfl, rfl, _, rfl, iff' rfl ?_⟩
            exact ⟨_, _, _, _, rfl, kT', .inl ⟨rfl, hn⟩⟩
          · obtain ⟨pd, e4, hx1⟩ := hzs.get' e2
            rw [encPs_map, List.getElem?_map] at e4
            obtain ⟨p, ep, rfl⟩ := Option.map_eq_some_iff.mp e4
            obtain ⟨w1, ew, hx2⟩ := hus.get' e3
            have hpt := pnodesL_take ep
            rw [takenL_step ep ew] at hta
            have hpd := pdeepL_mem (List.mem_of_getElem? ep)
            refine ⟨_, rfl, rfl, _, rfl, ift rfl ?_⟩
            refine ⟨_, rfl, _, rfl, H, x1, x2, p, w1, rfl, by omega, (hx1.keep kt).keep kT', kT, hx2, by omega, fun en H7 k7 => ?_, fun t et l2 us2 H7 k7 nl2 hl2 hus2 => ?_⟩
            · rw [en] at hta
              refine ⟨_, rfl, rfl, _, rfl, iff' rfl ?_⟩
              exact ⟨_, _, _, _, rfl, kT'.trans k7, .inl ⟨rfl, hta⟩⟩
            · rw [et] at hta
              refine ⟨_, rfl, rfl, _, rfl, ift rfl ?_⟩
              have hl7 := k7.at_ _ _ (by simp) (kT0.at_ _ _ (by simp) hl)
              have hvl := hva.length
              have hu2 := hus2.length
              have htl := takenP_len p w1 t et
              refine ⟨_, rfl, _, rfl, l, l2, vs, us2, rfl, rfl, hl7, hl2, by omega, fun m nm2 => ?_⟩
              have k8 := (kT'.trans k7).new_ (o := .lst (vs ++ us2)) nm2
              refine ⟨_, _, _, _, rfl, k8, .inr ⟨a ++ t, m, vs ++ us2, rfl, upd_same, (kT.trans k7).free nm2, hva.append hus2, ?_, ?_⟩⟩
              · rw [hta]
                simp [Option.map_map, Function.comp_def]
              · rw [take_snoc ep, pnodesL_append]
                simp only [List.length_append, pnodesL]
                omega
        · subst e
          have k6 := k4.trans k5
          rcases hc8 with ⟨rfl, hn⟩ | ⟨a, l, vs, rfl, hl, nl, hva, hta, hal⟩
          · refine ⟨_, rfl, rfl, _, rfl, iff' rfl ?_⟩
            refine ⟨_, _, _, _, _, _, rfl, (k2.trans kt).trans k5, ?_⟩
            rw [hp, hpick i r1 er, hn]
          · rw [takenL_end (by rw [hlz, hul])] at hta
            have hta' : takenL r1.ps ws = some a := by simpa using hta
            refine ⟨_, rfl, rfl, _, rfl, ift rfl ?_⟩
            have hpk : pick rows ws = some (a, r1.body) := by rw [hp, hpick i r1 er, hta']
            obtain ⟨hev, α, hak, hbk⟩ := pick_K (fun r z => (hrk r z).1) hwk hpk
            have hvl := hva.length
            have htl := takenL_len _ _ _ hta'
            refine ⟨_, rfl, _, rfl, _, rfl, _, rfl, S, .ref ga, bv, l, cl, vs, a, r1.body, α, c, rfl, .tup (k6.sqT hga) (hgx.keep k6), (hbv.keep kt).keep k5, hl, ⟨fun z => hS l z nl, cs, fun b z => k6.there hS (fun b z => by cases z) b z⟩, hva.keep (k6.mono (by simp)), hak, hbk, hev, k6.at_ _ _ (by simp) hcl, hc, by omega, fun H' k7 => q.1 H' ((k6.mono (by simp)).trans k7), fun wo s v H' hG hwo k7 hc7 hw7 hle => ?_⟩
            obtain ⟨s2, es, hE⟩ := hG
            exact q.2 wo s v H' ⟨a, r1.body, s2, hpk, es, hE⟩ hwo ((k6.mono (by simp)).trans k7) hc7 hw7 hle
      · subst e
        exact q.1 H2 ((k.trans k2).mono (by simp))
end
end K46
/-! K46N7 -/
set_option maxHeartbeats 4000000
namespace K46
open PySem PySem.Spec PyProof.Rows L2 C8
section
variable {P : Program} {w : World} {K : PySem.W.Frag} {mg : Str → Option Value} {base : Heap}
def sp_runsE (K : PySem.W.Frag) (F : Tab) (g : List Df) (r e : Nat) : Sp := sp_runs K F g r e
/-- a call, where the height leaves room for it -/
def sp_callE (K : PySem.W.Frag) (F : Tab) (g : List Df) (r e : Nat) : Sp := fun vs H Q E => 1 ≤ e ∧ sp_call K F g r vs H Q E
def sp_stepE (K : PySem.W.Frag) (F : Tab) (g : List Df) (r e : Nat) : Sp := fun vs H Q E => 1 ≤ e ∧ sp_step K F g r vs H Q E
/-- a table that is small, by a program's rows -/
structure TabOk (F : Tab) (g : List Df) : Prop where
  sh : ∀ n, F.S.sh n ≤ 1000
  fn : ∀ n, (F.fn n).length ≤ 1000
  rows : ∀ n, F.fn n ≠ [] → ∃ rows, rowsOf g n = some rows ∧ ∀ r ∈ rows, RwK F (F.fn n) r ∧ pdeepL r.ps ≤ 2 ∧ pnodesL r.ps ≤ 1000
theorem ok_run (T : Tx K mg) (F : Tab) (g : List Df) (hF : TabOk F g) (r e a b : Nat) (ha : a ≤ 7 * r + 2 * e + 15) (hb : b ≤ 7 * r + 2 * e + 15) (c_runs : CalF P w K mg base (7 * r + 2 * e + 15) "_law_runs" (sp_runs K F g r e)) (c_call : CalF P w K mg base a "_law_call" (sp_callE K F g r e)) (c_step : CalF P w K mg base b "_law_step" (sp_stepE K F g r e)) : CalF P w K mg base (7 * r + 2 * e + 16) "_law_run" (sp_run K F g r e) := by
  refine calF_mk T.f_run T.g_run sc_run (fun _ _ _ _ _ _ us hl => match us, hl with | [_, _, _, _], _ => rfl) (fun vs H Q E h => ?_) (fun cdv A outer s0 H vs Q E hr h => ?_)
  · obtain ⟨S, gv, tv, al, cl, us, env, t, Γ, κ, c, rfl, _⟩ := h
    rfl
  · obtain ⟨S, gv, tv, al, cl, us, env, t, Γ, κ, c, rfl, hg, ht, hal, ⟨nas, cs, hS⟩, hus, hek, hk, hev, hcl, hc, hsz, q⟩ := h
    refine ⟨_, (pss_cons (ps_set (i := 4) sc_run.nd rfl (Or.inl rfl) (pe_ix ix_tup (pv 1) pe_int (fun _ _ => rfl)))
      (pss_cons (ps_if (pt_cmpR op_eq (pv 4) pe_str (nomark _)) (pss_one (ps_ret (pe_ix ix_list (pv 2) (pe_op op_sub (pe_op op_sub (pe_callB call_len_seq (by rfl) T.z_len PySem.boot_len (pa_cons (pv 2) pa_nil)) pe_int) (pe_ix ix_tup (pv 1) pe_int (fun _ _ => rfl))) (fun _ _ => rfl)))) pss_nil)
      (pss_cons (ps_if (pt_cmpR op_in_seq (pv 4) (pe_tup (pa_cons pe_str (pa_cons pe_str pa_nil))) (by rfl)) (pss_one (ps_ret (pe_tup (pa_cons (pv 4) (pa_cons (pe_ix ix_tup (pv 1) pe_int (fun _ _ => rfl)) (pa_cons (pv 2) pa_nil)))))) pss_nil)
      (pss_cons (ps_if (pt_cmpR op_eq (pv 4) pe_str (nomark _)) (pss_one (ps_ret (pv 1))) pss_nil)
      (pss_cons (ps_if (pt_cmpR op_in_seq (pv 4) (pe_tup (pa_cons pe_str (pa_cons pe_str pa_nil))) (by rfl)) (pss_cons (ps_set (i := 5) sc_run.nd rfl (Or.inl rfl) (pe_cF c_runs hr (by omega) rfl (pa_cons (pv 0) (pa_cons (pe_ix ix_tup (pv 1) pe_int (fun _ _ => rfl)) (pa_cons (pv 2) (pa_cons (pv 3) pa_nil))))))
      (pss_cons (ps_if (pt_cmpR op_isN (pv 5) pe_non (nomark _)) (pss_one (ps_ret pe_non)) pss_nil)
      (pss_one (ps_ret (pe_ifExp (pt_cmpR op_eq (pv 4) pe_str (nomark _)) (pe_tup (pa_cons pe_str (pa_cons (pe_ix ix_tup (pv 1) pe_int (fun _ _ => rfl)) (pa_cons (pe_callTy call_tuple_of (by rfl) T.z_tuple (by decide +kernel) (pa_cons (pv 5) pa_nil)) pa_nil)))) (pe_cF c_call hr (by omega) rfl (pa_cons (pv 0) (pa_cons (pe_ix ix_tup (pv 1) pe_int (fun _ _ => rfl)) (pa_cons (pv 5) (pa_cons (pv 3) pa_nil)))))))))) pss_nil)
      (pss_cons (ps_set (i := 5) sc_run.nd rfl (Or.inl rfl) (pe_cF c_runs hr (by omega) rfl (pa_cons (pv 0) (pa_cons (pe_slice sl_tupA (pv 1) (po_some pe_int) po_none) (pa_cons (pv 2) (pa_cons (pv 3) pa_nil))))))
      (pss_cons (ps_if (pt_cmpR op_isN (pv 5) pe_non (nomark _)) (pss_one (ps_ret pe_non)) pss_nil)
      (pss_one (ps_ret (pe_cF c_step hr (by omega) rfl (pa_cons (pv 0) (pa_cons (pe_ix ix_tup (pe_ix ix_list (pv 5) pe_int (fun _ _ => rfl)) pe_int (fun _ _ => rfl)) (pa_cons (pe_op op_cat (pe_ix ix_tup (pe_ix ix_list (pv 5) pe_int (fun _ _ => rfl)) pe_int (fun _ _ => rfl)) (pe_slice sl_list (pv 5) (po_some pe_int) po_none)) (pa_cons (pv 3) pa_nil)))))))))))))), ?_⟩
    cases t with
    | «at» i =>
      obtain ⟨ta, x0, x1, rfl, hq, h0, h1⟩ := ht.t2
      obtain rfl := h0.s
      obtain rfl := h1.i
      obtain ⟨hi, hκ⟩ := hk
      obtain ⟨wo, ew, hwo⟩ := hek.get hκ
      have hel := hek.length
      have hul := hus.length
      rw [← hel] at ew hi
      obtain ⟨x, ex, hx⟩ := hus.get ew
      have ei : ((us.length : Nat) : Int) - 1 - (i : Int) = ((env.length - 1 - i : Nat) : Int) := by omega
      refine ⟨_, rfl, ta, _, 0, .str "at", rfl, rfl, hq, atI_nat (j := 0) rfl, ?_⟩
      refine ⟨_, rfl, rfl, _, rfl, ift (by decide +kernel) ?_⟩
      refine ⟨_, rfl, _, rfl, al, _, rfl, .inl (.of hal), _, _, rfl, rfl, _, rfl, ta, _, 1, .int (i : Int), rfl, rfl, hq, atI_nat (j := 1) rfl, _, _, rfl, rfl, al, us, ((env.length - 1 - i : Nat) : Int), x, rfl, congrArg V.int ei, .of hal, atI_nat ex, ?_⟩
      exact q.2 wo 0 x H (.at hi ew (.nil env)) hwo (Keep.refl _ _) hcl hx hc.1
    | clo fn bb =>
      have cut : ∃ (ta : Addr) (y : V) (w0 : Str), tv = .ref ta ∧ SqT K H ta [.str w0, y] ∧ At K H y (encT bb) ∧ w0 = (if fn then "fun" else "wait" : Str) := by
        cases fn with
        | true =>
          obtain ⟨a, z, y, rfl, hq, h1, h2⟩ := ht.t2
          obtain rfl := h1.s
          exact ⟨a, y, _, rfl, hq, h2, rfl⟩
        | false =>
          obtain ⟨a, z, y, rfl, hq, h1, h2⟩ := ht.t2
          obtain rfl := h1.s
          exact ⟨a, y, _, rfl, hq, h2, rfl⟩
      obtain ⟨ta, y, w0, rfl, hq, hy, hw0⟩ := cut
      have hw1 : w0 = "fun" ∨ w0 = "wait" := by rw [hw0]; cases fn <;> simp
      refine ⟨_, rfl, ta, _, 0, .str w0, rfl, rfl, hq, atI_nat (j := 0) rfl, ?_⟩
      refine ⟨_, rfl, rfl, _, rfl, iff' (by rcases hw1 with rfl | rfl <;> decide +kernel) ?_⟩
      refine ⟨_, rfl, by decide, fun p np => ⟨p, _, rfl, .inr (.of upd_same), rfl, rfl, _, rfl, ift (by rcases hw1 with rfl | rfl <;> decide +kernel) ?_⟩⟩
      have kp := Keep.new (o := .tup [.str "fun", .str "wait"]) np (Keep.refl [cl] H)
      refine ⟨_, rfl, _, rfl, ta, _, 1, y, rfl, rfl, kp.sqT hq, atI_nat (j := 1) rfl, _, rfl, (by show 3 ≤ sizeLine; decide), fun r1 nr => ?_⟩
      have kr := kp.new_ (o := .tup [.str w0, y, .ref al]) nr
      have ncl : al ≠ cl := fun e => nas (e ▸ cs)
      have hwo : WoK F (.clo fn bb env) κ := by
        cases fn with
        | true => exact ⟨hk.1, hk.2.1, Γ, hk.2.2.1, hek, hk.2.2.2⟩
        | false => exact ⟨hk.1, hk.2.1, Γ, hk.2.2.1, hek, hk.2.2.2⟩
      have kr0 := Keep.new (o := .tup [.str w0, y, .ref al]) nr (Keep.new (o := .tup [.str "fun", .str "wait"]) np (Keep.refl [] H))
      exact q.2 (.clo fn bb env) 0 _ _ (.clo (.nil env)) hwo kr (kr0.at_ _ _ (by simp) hcl) (.clo (by rw [hw0]; cases fn <;> rfl) (.of upd_same) (hy.keep kr0) (kr0.at_ _ _ (by simp) hal) nas (hus.keep (kr0.mono (by simp)))) hc.1
    | nd k ts =>
      have ncl : al ≠ cl := fun e => nas (e ▸ cs)
      have hevl : evhL ts ≤ e := hev
      have hz1 : 2000 < sizeLine := by decide
      have cut : (∃ (n w0 : Str), ((k = .shape n ∧ w0 = "shape") ∨ (k = .call n ∧ w0 = "call")) ∧ At K H tv (.tup [.str w0, .str n, .tup (encTs ts)])) ∨ (∃ w0 : Str, ((k = .give ∧ w0 = "give") ∨ (k = .go ∧ w0 = "go")) ∧ At K H tv (.tup (.str w0 :: encTs ts))) ∨ (k = .dull ∧ At K H tv (.tup (.str "dull" :: encTs ts))) := by
        cases k with
        | shape n => exact .inl ⟨n, _, .inl ⟨rfl, rfl⟩, ht⟩
        | call n => exact .inl ⟨n, _, .inr ⟨rfl, rfl⟩, ht⟩
        | give => exact .inr (.inl ⟨_, .inl ⟨rfl, rfl⟩, ht⟩)
        | go => exact .inr (.inl ⟨_, .inr ⟨rfl, rfl⟩, ht⟩)
        | dull => exact .inr (.inr ⟨rfl, ht⟩)
      rcases cut with ⟨n, w0, hw, ht⟩ | ⟨w0, hw, ht⟩ | ⟨rfl, ht⟩
      · have hw1 : w0 = "shape" ∨ w0 = "call" := by rcases hw with ⟨_, h⟩ | ⟨_, h⟩ <;> simp [h]
        have hkd : κ = .data := by rcases hw with ⟨rfl, _⟩ | ⟨rfl, _⟩ <;> exact hk.1
        obtain ⟨κs, hks, htz, eκ1, eκ2⟩ : ∃ κs, HasKs F Γ ts κs ∧ ts.length ≤ 1000 ∧ (k = .shape n → κs = List.replicate ts.length .data) ∧ (k = .call n → κs = F.fn n) := by
          rcases hw with ⟨rfl, _⟩ | ⟨rfl, _⟩
          · exact ⟨_, hk.2.2, by rw [hk.2.1.1]; exact hF.sh n, fun _ => rfl, fun z => by cases z⟩
          · exact ⟨_, hk.2.2.2, by rw [hk.2.2.2.length]; exact hF.fn n, fun z => (by cases z), fun _ => rfl⟩
        subst hkd
        obtain ⟨ta, x, y, z, rfl, hq, h1, h2, h3⟩ := ht.t3
        obtain rfl := h1.s
        obtain rfl := h2.s
        obtain ⟨tb, xs, rfl, htb, hxs⟩ := id h3.t
        refine ⟨_, rfl, ta, _, 0, .str w0, rfl, rfl, hq, atI_nat (j := 0) rfl, ?_⟩
        refine ⟨_, rfl, rfl, _, rfl, iff' (by rcases hw1 with rfl | rfl <;> decide +kernel) ?_⟩
        refine ⟨_, rfl, by decide, fun p np => ⟨p, _, rfl, .inr (.of upd_same), rfl, rfl, _, rfl, iff' (by rcases hw1 with rfl | rfl <;> decide +kernel) ?_⟩⟩
        refine ⟨_, rfl, rfl, _, rfl, iff' (by rcases hw1 with rfl | rfl <;> decide +kernel) ?_⟩
        refine ⟨_, rfl, by decide, fun p2 np2 => ⟨p2, _, rfl, .inr (.of upd_same), rfl, rfl, _, rfl, ift (by rcases hw1 with rfl | rfl <;> decide +kernel) ?_⟩⟩
        have k2 := (Keep.new (o := .tup [.str "fun", .str "wait"]) np (Keep.refl [] H)).new_ (o := .tup [.str "shape", .str "call"]) np2
        generalize upd (upd H p (.tup [.str "fun", .str "wait"])) p2 (.tup [.str "shape", .str "call"]) = H2 at k2
        refine ⟨_, rfl, _, rfl, ta, _, 2, .ref tb, rfl, rfl, k2.sqT hq, atI_nat (j := 2) rfl, _, rfl, _, rfl, S, gv, tb, al, cl, xs, us, env, ts, Γ, κs, c, rfl, hg.keep k2, k2.sqT htb, hxs.keep k2, k2.at_ _ _ (by simp) hal, ⟨nas, cs, k2.there hS (fun b z => by cases z)⟩, hus.keep (k2.mono (by simp)), hek, hks, hevl, k2.at_ _ _ (by simp) hcl, hc, hsz, by omega, fun H3 k3 => ?_, fun ws s l vs H3 hE hwk k3 hc3 nl hl hvs hle => ?_⟩
        · refine ⟨_, rfl, rfl, _, rfl, ift rfl ?_⟩
          exact q.1 _ ((k2.mono (by simp)).trans k3)
        · have k23 := (k2.mono (S' := [cl]) (by simp)).trans k3
          refine ⟨_, rfl, rfl, _, rfl, iff' rfl ?_⟩
          rcases hw with ⟨rfl, rfl⟩ | ⟨rfl, rfl⟩
          · refine ⟨_, rfl, rfl, _, rfl, ift (by decide +kernel) ?_⟩
            refine ⟨_, rfl, ta, _, 1, .str n, rfl, rfl, k23.sqT hq, atI_nat (j := 1) rfl, _, rfl, l, vs, rfl, .inl ⟨.of hl, fun u nu => ⟨(by show 3 ≤ sizeLine; decide), fun r1 nr => ?_⟩⟩⟩
            have kr := (Keep.new (o := .tup vs) nu (Keep.refl [] H3)).new_ (o := .tup [.str "shape", .str n, .ref u]) nr
            refine q.2 (.shape n ws) (s + 0) _ _ (.shape hE (.nil env)) ⟨rfl, ?_, ?_⟩ (k23.trans (kr.mono (by simp))) (kr.at_ _ _ (by simp) hc3) (.shape (.of upd_same) (.of (by rw [upd_ne (new_ne nr).symm]; exact upd_same)) (hvs.keep (kr.mono (by simp)))) hle
            · rw [hE.length]
              exact hk.2.1
            · rw [eκ1 rfl] at hwk
              exact WosD.replicate hwk
          · refine ⟨_, rfl, rfl, _, rfl, iff' (by decide +kernel) ?_⟩
            obtain ⟨rows, hro, hrk⟩ := hF.rows n (fun z => by
              have := hk.2.2.2.length
              rw [z] at this
              exact hk.2.2.1 (List.eq_nil_of_length_eq_zero this))
            have he1 : 1 ≤ e := by
              cases ts with
              | nil => exact absurd rfl hk.2.2.1
              | cons t ts => have := evhL_mem (ts := t :: ts) (List.mem_cons_self ..); omega
            have hS3 := k3.there (k2.there hS (fun b z => by cases z)) (fun b z => by rw [List.mem_singleton.mp z, hc3]; simp)
            refine ⟨_, rfl, _, rfl, ta, _, 1, .str n, rfl, rfl, k23.sqT hq, atI_nat (j := 1) rfl, _, rfl, _, rfl, he1, S, gv, l, cl, n, vs, ws, rows, c + s, rfl, hg.keep k23, hro, hl, ⟨cs, hS3⟩, hvs, ?_, hrk, hc3, ⟨hle, by omega⟩, fun H4 k4 => q.1 _ (k23.trans k4), fun wo s2 v H4 hG hwo k4 hc4 hv hle4 => ?_⟩
            · rw [eκ2 rfl] at hwk
              exact hwk
            · obtain ⟨a', b', s3, hp, rfl, hE3⟩ := hG
              refine q.2 wo (s + 1 + s3 + 0) v H4 (.call hE hro hp hE3 (.nil env)) hwo (k23.trans k4) ?_ hv (by omega)
              rw [hc4]
              have : c + s + (1 + s3) = c + (s + 1 + s3 + 0) := by omega
              rw [this]
      · have hkd : κ = .data := by rcases hw with ⟨rfl, _⟩ | ⟨rfl, _⟩ <;> exact hk.1
        have hw1 : w0 = "give" ∨ w0 = "go" := by rcases hw with ⟨_, h⟩ | ⟨_, h⟩ <;> simp [h]
        obtain ⟨κs, hks, htz, hne, eκ⟩ : ∃ κs, HasKs F Γ ts κs ∧ ts.length ≤ 1000 ∧ ts ≠ [] ∧ ((k = .give ∧ κs = [.fn, .data]) ∨ (k = .go ∧ κs = [.wait])) := by
          rcases hw with ⟨rfl, _⟩ | ⟨rfl, _⟩
          · exact ⟨_, hk.2, by rw [hk.2.length]; decide, fun z => by rw [z] at hk; exact hk.2, .inl ⟨rfl, rfl⟩⟩
          · exact ⟨_, hk.2, by rw [hk.2.length]; decide, fun z => by rw [z] at hk; exact hk.2, .inr ⟨rfl, rfl⟩⟩
        subst hkd
        obtain ⟨ta, xs0, rfl, hq, hxs0⟩ := ht.t
        obtain ⟨x, xs, rfl, h1, hxs⟩ := hxs0.cons'
        obtain rfl := h1.s
        refine ⟨_, rfl, ta, _, 0, .str w0, rfl, rfl, hq, atI_nat (j := 0) rfl, ?_⟩
        refine ⟨_, rfl, rfl, _, rfl, iff' (by rcases hw1 with rfl | rfl <;> decide +kernel) ?_⟩
        refine ⟨_, rfl, by decide, fun p np => ⟨p, _, rfl, .inr (.of upd_same), rfl, rfl, _, rfl, iff' (by rcases hw1 with rfl | rfl <;> decide +kernel) ?_⟩⟩
        refine ⟨_, rfl, rfl, _, rfl, iff' (by rcases hw1 with rfl | rfl <;> decide +kernel) ?_⟩
        refine ⟨_, rfl, by decide, fun p2 np2 => ⟨p2, _, rfl, .inr (.of upd_same), rfl, rfl, _, rfl, iff' (by rcases hw1 with rfl | rfl <;> decide +kernel) ?_⟩⟩
        have k1 := (Keep.new (o := .tup [.str "fun", .str "wait"]) np (Keep.refl [] H)).new_ (o := .tup [.str "shape", .str "call"]) np2
        generalize upd (upd H p (.tup [.str "fun", .str "wait"])) p2 (.tup [.str "shape", .str "call"]) = H1 at k1
        refine ⟨_, rfl, _, rfl, _, rfl, ?_⟩
        dsimp only [tNoPart]
        refine sl_1 (x := .str w0) (k1.sqT hq) fun tb ntb => ?_
        have k2 := k1.new_ (o := .tup xs) ntb
        have htb : SqT K (upd H1 tb (.tup xs)) tb xs := .of upd_same
        generalize upd H1 tb (.tup xs) = H2 at k2 htb
        refine ⟨_, rfl, _, rfl, S, gv, tb, al, cl, xs, us, env, ts, Γ, κs, c, rfl, hg.keep k2, htb, hxs.keep k2, k2.at_ _ _ (by simp) hal, ⟨nas, cs, k2.there hS (fun b z => by cases z)⟩, hus.keep (k2.mono (by simp)), hek, hks, hevl, k2.at_ _ _ (by simp) hcl, hc, hsz, by omega, fun H3 k3 => ?_, fun ws s l vs H3 hE hwk k3 hc3 nl hl hvs hle => ?_⟩
        · refine ⟨_, rfl, rfl, _, rfl, ift rfl ?_⟩
          exact q.1 _ ((k2.mono (by simp)).trans k3)
        · have k23 := (k2.mono (S' := [cl]) (by simp)).trans k3
          refine ⟨_, rfl, rfl, _, rfl, iff' rfl ?_⟩
          have he1 : 1 ≤ e := by
            cases ts with
            | nil => exact absurd rfl hne
            | cons t ts => have := evhL_mem (ts := t :: ts) (List.mem_cons_self ..); omega
          have hS3 := k3.there (k2.there hS (fun b z => by cases z)) (fun b z => by rw [List.mem_singleton.mp z, hc3]; simp)
          obtain ⟨fn, bb, env', rest, Γr, rfl, hwr, hbr, hevb, hel, hrl, hEv⟩ : ∃ fn bb env' rest Γr, ws = .clo fn bb env' :: rest ∧ WosK F (env' ++ rest) Γr ∧ HasK F Γr bb .data ∧ evh bb ≤ 3 ∧ env'.length ≤ 1000 ∧ rest.length ≤ 1 ∧ ∀ w s2, EvL g (env' ++ rest) [bb] [w] s2 → EvL g env [.nd k ts] [w] (s + 1 + s2 + 0) := by
            rcases eκ with ⟨rfl, rfl⟩ | ⟨rfl, rfl⟩
            · match ws, hwk with
              | [w1, w2], hwk =>
                match w1, hwk.1 with
                | .clo true bb env', hh =>
                  obtain ⟨_, h2, Γ', h3, h4, h5⟩ := hh
                  exact ⟨true, bb, env', [w2], Γ' ++ [.data], rfl, h4.append hwk.2, h5, h2, by rw [h4.length]; exact h3, Nat.le_refl _, fun w s2 z => .give hE z (.nil env)⟩
                | .clo false bb env', hh => cases hh.1
                | .shape _ _, hh => cases hh.1
                | .dull, hh => cases (show _ = Kd.dull from hh)
            · match ws, hwk with
              | [w1], hwk =>
                match w1, hwk.1 with
                | .clo false bb env', hh =>
                  obtain ⟨_, h2, Γ', h3, h4, h5⟩ := hh
                  exact ⟨false, bb, env', [], Γ', rfl, by rw [List.append_nil]; exact h4, h5, h2, by rw [h4.length]; exact h3, Nat.zero_le _, fun w s2 z => .go hE (by rw [List.append_nil] at z; exact z) (.nil env)⟩
                | .clo true bb env', hh => cases hh.1
                | .shape _ _, hh => cases hh.1
                | .dull, hh => cases (show _ = Kd.dull from hh)
          obtain ⟨v0, vr, rfl, hv0, hvr⟩ := hvs.cons'
          obtain ⟨ca, el, cw, bv, us0, rfl, hca, hbv, hel0, nel, hus0⟩ := hv0.clo'
          have hul0 := hus0.length
          have hvrl := hvr.length
          refine ⟨_, rfl, _, rfl, l, _, 0, .ref ca, rfl, rfl, .of hl, atI_nat (j := 0) rfl, ca, _, 1, bv, rfl, rfl, hca, atI_nat (j := 1) rfl, _, rfl, l, _, 0, .ref ca, rfl, rfl, .of hl, atI_nat (j := 0) rfl, ca, _, 2, .ref el, rfl, rfl, hca, atI_nat (j := 2) rfl, _, rfl, _, rfl, l, _, rfl, .of hl, fun p3 np3 => ?_⟩
          rw [cut1]
          have k3' := Keep.new (o := .lst vr) np3 (Keep.refl [] H3)
          refine ⟨el, p3, us0, vr, rfl, rfl, k3'.at_ _ _ (by simp) hel0, upd_same, by omega, fun p4 np4 => ?_⟩
          have k4 := k3'.new_ (o := .lst (us0 ++ vr)) np4
          have hp4 : upd (upd H3 p3 (.lst vr)) p4 (.lst (us0 ++ vr)) p4 = some (.lst (us0 ++ vr)) := upd_same
          have nS4 : p4 ∉ S := fun z => hS3 p4 z (new_old np4)
          generalize upd (upd H3 p3 (.lst vr)) p4 (.lst (us0 ++ vr)) = H4 at k4 hp4
          have k24 := k23.trans (k4.mono (S' := [cl]) (by simp))
          refine ⟨_, rfl, he1, S, gv, bv, p4, cl, us0 ++ vr, env' ++ rest, bb, Γr, c + s, rfl, hg.keep k24, hbv.keep k4, hp4, ⟨nS4, cs, k4.there hS3 (fun b z => by cases z)⟩, (hus0.append hvr).keep (k4.mono (by simp)), hwr, hbr, hevb, k4.at_ _ _ (by simp) hc3, ⟨hle, by omega⟩, by rw [List.length_append]; omega, fun H5 k5 => q.1 _ (k24.trans k5), fun wo s2 v H5 hG hwo k5 hc5 hv hle5 => ?_⟩
          obtain ⟨s3, rfl, hE3⟩ := hG
          refine q.2 wo (s + 1 + s3 + 0) v H5 (hEv _ _ hE3) hwo (k24.trans k5) ?_ hv (by omega)
          rw [hc5]
          have : c + s + (1 + s3) = c + (s + 1 + s3 + 0) := by omega
          rw [this]
      · obtain ⟨rfl, rfl⟩ := hk
        obtain ⟨ta, x, rfl, hq, h1⟩ := ht.t1
        obtain rfl := h1.s
        refine ⟨_, rfl, ta, _, 0, .str "dull", rfl, rfl, hq, atI_nat (j := 0) rfl, ?_⟩
        refine ⟨_, rfl, rfl, _, rfl, iff' (by decide +kernel) ?_⟩
        refine ⟨_, rfl, by decide, fun p np => ⟨p, _, rfl, .inr (.of upd_same), rfl, rfl, _, rfl, iff' (by decide +kernel) ?_⟩⟩
        refine ⟨_, rfl, rfl, _, rfl, ift (by decide +kernel) ?_⟩
        have k1 := Keep.new (o := .tup [.str "fun", .str "wait"]) np (Keep.refl [] H)
        exact ⟨_, rfl, q.2 .dull 0 _ _ (.dull rfl (.nil env)) rfl (k1.mono (by simp)) (k1.at_ _ _ (by simp) hcl) (.dull (k1.sqT hq)) hc.1⟩
end
end K46
/-! K46N8 -/
set_option maxHeartbeats 4000000
namespace K46
open PySem PySem.Spec PyProof.Rows L2 C8
section
variable {P : Program} {w : World} {K : PySem.W.Frag} {mg : Str → Option Value} {base : Heap}
theorem cal_imp {k : Nat} {x : Str} {sp sp' : Sp} (c : Cal P w K mg base k x sp []) (h : ∀ vs H Q E, sp' vs H Q E → sp vs H Q E) : Cal P w K mg base k x sp' [] := by
  obtain ⟨f, fd, ps, ds, F, h1, h2, h3, h4⟩ := c.ex
  exact ⟨f, fd, ps, ds, F.imp h, h1, h2, h3, h4⟩
theorem cal_lift {k j : Nat} {x : Str} {sp : Sp} (c : Cal P w K mg base k x sp []) (h : k ≤ j) : Cal P w K mg base j x sp [] := by
  obtain ⟨f, fd, ps, ds, F, h1, h2, h3, h4⟩ := c.ex
  exact ⟨f, fd, ps, ds, F.mono h, h1, h2, h3, h4⟩
/-- a promise that is never asked -/
theorem run_never (T : Tx K mg) {sp : Sp} (h : ∀ vs H Q E, ¬ sp vs H Q E) : CalF P w K mg base 1 "_law_run" sp :=
  calF_mk T.f_run T.g_run sc_run (fun _ _ _ _ _ _ us hl => match us, hl with | [_, _, _, _], _ => rfl) (fun vs H Q E z => absurd z (h vs H Q E)) (fun cdv A outer s0 H vs Q E hr z => absurd z (h vs H Q E))
theorem call_never (T : Tx K mg) {sp : Sp} (h : ∀ vs H Q E, ¬ sp vs H Q E) : CalF P w K mg base 1 "_law_call" sp :=
  calF_mk T.f_call T.g_call sc_call (fun _ _ _ _ _ _ us hl => match us, hl with | [_, _, _, _], _ => rfl) (fun vs H Q E z => absurd z (h vs H Q E)) (fun cdv A outer s0 H vs Q E hr z => absurd z (h vs H Q E))
theorem step_never (T : Tx K mg) {sp : Sp} (h : ∀ vs H Q E, ¬ sp vs H Q E) : CalF P w K mg base 1 "_law_step" sp :=
  calF_mk T.f_step T.g_step sc_step (fun _ _ _ _ _ _ us hl => match us, hl with | [_, _, _, _], _ => rfl) (fun vs H Q E z => absurd z (h vs H Q E)) (fun cdv A outer s0 H vs Q E hr z => absurd z (h vs H Q E))
theorem ok_run_r (T : Tx K mg) (F : Tab) (g : List Df) (hF : TabOk F g) (hgz : g.length < sizeLine) (r : Nat) (c_step : CalF P w K mg base (7 * r + 16) "_law_step" (sp_step K F g r)) : ∀ e, CalF P w K mg base (7 * r + 2 * e + 16) "_law_run" (sp_run K F g r e)
  | 0 => by
    have c_run : CalF P w K mg base (7 * r + 2 * 0 + 14) "_law_run" (sp_runE K F g r 0) := calF_lift (run_never T fun vs H Q E z => by obtain ⟨e', h, _⟩ := z; cases h) (by omega)
    have c_runs := ok_runs T F g r 0 c_run
    exact ok_run T F g hF r 0 1 1 (by omega) (by omega) c_runs (call_never T fun vs H Q E h => absurd h.1 (by decide)) (step_never T fun vs H Q E h => absurd h.1 (by decide))
  | e + 1 => by
    have c_run : CalF P w K mg base (7 * r + 2 * (e + 1) + 14) "_law_run" (sp_runE K F g r (e + 1)) := calF_lift (calF_imp (ok_run_r T F g hF hgz r c_step e) fun vs H Q E z => by
      obtain ⟨e', h, z⟩ := z
      cases h
      exact z) (by omega)
    have c_runs := ok_runs T F g r (e + 1) c_run
    have c_call := ok_call T F g hgz r c_step
    exact ok_run T F g hF r (e + 1) (7 * r + 17) (7 * r + 16) (by omega) (by omega) c_runs (calF_imp c_call fun vs H Q E h => h.2) (calF_imp c_step fun vs H Q E h => h.2)
theorem ok_step_all (T : Tx K mg) (F : Tab) (g : List Df) (hF : TabOk F g) (hgz : g.length < sizeLine) : ∀ r, CalF P w K mg base (7 * r + 16) "_law_step" (sp_step K F g r)
  | 0 => ok_step T F g 0 (calF_lift (run_never T fun vs H Q E z => by obtain ⟨r', h, _⟩ := z; cases h) (by omega))
  | r + 1 => ok_step T F g (r + 1) (calF_lift (calF_imp (ok_run_r T F g hF hgz r (ok_step_all T F g hF hgz r) 3) fun vs H Q E z => by
      obtain ⟨r', h, z⟩ := z
      cases h
      exact z) (by omega))
/-- the law's own run -/
theorem ok_run_all (T : Tx K mg) (F : Tab) (g : List Df) (hF : TabOk F g) (hgz : g.length < sizeLine) : CalF P w K mg base 304 "_law_run" (sp_run K F g 40 4) :=
  ok_run_r T F g hF hgz 40 (ok_step_all T F g hF hgz 40) 4
end
end K46
/-! K46P6 -/
set_option maxHeartbeats 4000000
namespace K46
open PySem PySem.Spec PyProof.Rows L2 C8
section
variable {P : Program} {w : World} {K : PySem.W.Frag} {mg : Str → Option Value} {base : Heap}
def sp_data (K : PySem.W.Frag) (F : Tab) (n : Nat) : Sp := fun vs H Q _ => ∃ (g : GenD) (al : Addr) (Γ : List Kd) (m : Nat), vs = [.ref g.dk, .ref g.kd, .ref al, .int ((m : Int) - 1)] ∧ m < n ∧ m ≤ 5 ∧ GenOk K F H g ∧ OwnAt K F H g.S Γ g.ov ∧ ArdAt H g.S al Γ ∧ Γ.length + m ≤ 900 ∧
  GenQ K H g (Tg F Γ .data (m - 1) (Sz m) (Cd m)) Q
def sp_of (K : PySem.W.Frag) (F : Tab) (n : Nat) : Sp := fun vs H Q _ => ∃ (g : GenD) (al : Addr) (Γ : List Kd) (m : Nat) (κ : Kd), vs = [.ref g.dk, .ref g.kd, .ref al, .int ((m : Int) - 1), .str (kS κ)] ∧ m < n ∧ 1 ≤ m ∧ m ≤ 4 ∧ GenOk K F H g ∧ OwnAt K F H g.S Γ g.ov ∧ ArdAt H g.S al Γ ∧ Γ.length + m ≤ 900 ∧
  GenQ K H g (Tg F Γ κ (m - 1) (So m) (Co m)) Q
def sp_name_of2 (K : PySem.W.Frag) (F : Tab) : Sp := fun vs H Q _ => ∃ (dk cs al : Addr) (Γ : List Kd) (κ : Kd), vs = [.ref dk, .ref al, .str (kS κ)] ∧ DeckOk H dk cs ∧ H al = some (.lst (kVs Γ)) ∧ Γ.length ≤ 1000 ∧ (al ≠ dk ∧ al ≠ cs) ∧
  ∀ v H', Keep [dk, cs] H H' → DeckOk H' dk cs → (v = .non ∨ ∃ i a, v = .ref a ∧ HasK F Γ (.at i) κ ∧ At K H' v (encT (.at i))) → Q v H'
theorem ok_name_of2 (T : Tx K mg) (F : Tab) : Cal P w K mg base 3 "_law_name_of" (sp_name_of2 K F) [] := cal_imp (ok_name_of T F) fun vs H Q E h => by
  obtain ⟨dk, cs, al, Γ, κ, e, h1, h2, h3, h4, q⟩ := h
  exact ⟨dk, cs, al, Γ, κ, e, h1, h2, h3, h4, fun H' k d => q _ _ k d (.inl rfl), fun i a H' k d hk ha => q _ _ k d (.inr ⟨i, a, rfl, hk, ha⟩)⟩
theorem GenOk.take {K : PySem.W.Frag} {F : Tab} {H : Hp} {g : GenD} (G : GenOk K F H g) {c : Int} (e : H g.ll = some (.lst [.int c])) (z : Int) : GenOk K F (upd H g.ll (.lst [.int z])) g ∧ Keep g.S H (upd H g.ll (.lst [.int z])) := by
  have k : Keep [g.ll] H (upd H g.ll (.lst [.int z])) := Keep.lst e (.inl (by simp)) (Keep.refl _ _)
  have kS : Keep g.S H (upd H g.ll (.lst [.int z])) := k.mono fun b z => by simp [List.mem_singleton.mp z]
  exact ⟨G.keep kS (G.deck.keep k (by simp [G.ap.2.1.symm]) (by simp [G.ap.2.2.symm])) ⟨z, upd_same⟩, kS⟩
theorem ok_of (T : Tx K mg) (F : Tab) (n k : Nat) (c_data : Cal P w K mg base (k + 3) "_law_data" (sp_data K F n) []) : Cal P w K mg base (k + 4) "_law_of" (sp_of K F n) [] := by
  have c_draw := ok_draw (P := P) (w := w) (base := base) T
  have c_name_of := ok_name_of2 (P := P) (w := w) (base := base) T F
  refine cal_mk T.f_of T.g_of sc_of (fun _ _ _ _ _ _ us hl => match us, hl with | [_, _, _, _, _], _ => rfl) (fun vs H Q E h => ?_) (fun cdv A outer s0 H vs Q E hr h => ?_)
  · obtain ⟨g, al, Γ, m, κ, rfl, _⟩ := h
    rfl
  · obtain ⟨g, al, Γ, m, κ, rfl, hm, hm1, hm4, G, O, R, hz, q⟩ := h
    refine ⟨_, (pss_cons (ps_if (pt_cmpR op_eq (pv 4) pe_str (nomark _)) (pss_one (ps_ret (pe_c c_data hr (by omega) rfl (pa_cons (pv 0) (pa_cons (pv 1) (pa_cons (pv 2) (pa_cons (pv 3) pa_nil))))))) pss_nil)
      (pss_cons (ps_if (pt_cmpR op_eq (pv 4) pe_str (nomark _)) (pss_one (ps_ret (pe_tup (pa_cons pe_str pa_nil)))) pss_nil)
      (pss_cons (ps_set (i := 5) sc_of.nd rfl (Or.inl rfl) (pe_c c_name_of hr (by omega) rfl (pa_cons (pv 0) (pa_cons (pv 2) (pa_cons (pv 4) pa_nil)))))
      (pss_cons (ps_asg (pe_op op_sub (pe_ix ix_list (pe_dget (hu_of hr) (pv 1) pe_str (fun _ _ => rfl)) pe_int (fun _ _ => rfl)) pe_int) (pg_sub (pe_dget (hu_of hr) (pv 1) pe_str (fun _ _ => rfl)) pe_int set_list))
      (pss_cons (ps_if (PW.pt (pw_and (pt_cmpR op_notN (pv 5) pe_non (nomark _)) (pw_and1 (pt_cmpR op_eq (pe_c c_draw hr (by omega) rfl (pa_cons (pv 0) (pa_cons pe_int pa_nil))) pe_int (nomark _))))) (pss_one (ps_ret (pv 5))) pss_nil)
      (pss_cons (ps_if (pt_cmpR op_eq (pv 4) pe_str (nomark _)) (pss_one (ps_ret (pe_tup (pa_cons pe_str (pa_cons (pe_c c_data hr (by omega) rfl (pa_cons (pv 0) (pa_cons (pv 1) (pa_cons (pv 2) (pa_cons (pe_op op_sub (pv 3) pe_int) pa_nil))))) pa_nil))))) pss_nil)
      (pss_one (ps_ret (pe_tup (pa_cons pe_str (pa_cons (pe_c c_data hr (by omega) rfl (pa_cons (pv 0) (pa_cons (pv 1) (pa_cons (pe_op op_cat (pv 2) (pe_lst (pa_cons pe_str pa_nil))) (pa_cons (pe_op op_sub (pv 3) pe_int) pa_nil))))) pa_nil))))))))))), ?_⟩
    have hvs : ∀ x : Addr, [V.ref g.dk, V.ref g.kd, V.ref x, V.int ((m : Int) - 1 - 1)] = [.ref g.dk, .ref g.kd, .ref x, .int (((m - 1 : Nat) : Int) - 1)] := fun x => by
      have : (m : Int) - 1 - 1 = (((m - 1 : Nat) : Int) - 1) := by omega
      rw [this]
    have hvs : ∀ {x : Addr}, [V.ref g.dk, V.ref g.kd, V.ref x, V.int ((m : Int) - 1 - 1)] = [.ref g.dk, .ref g.kd, .ref x, .int (((m - 1 : Nat) : Int) - 1)] := fun {x} => hvs x
    have hcase : κ = .data ∨ κ = .dull ∨ (κ = .fn ∨ κ = .wait) := by cases κ <;> simp
    rcases hcase with rfl | rfl | hfw
    · refine ⟨_, rfl, rfl, _, rfl, ift (by decide +kernel) ?_⟩
      exact ⟨_, rfl, _, rfl, _, rfl, _, rfl, g, al, Γ, m, rfl, hm, by omega, G, O, R, hz, fun t v H' tg k d l a => q t v H' (tg.mono (Nat.le_refl _) (Nat.le_max_left _ _) (Nat.le_max_left _ _)) k d l a⟩
    · refine ⟨_, rfl, rfl, _, rfl, iff' (by decide +kernel) ?_⟩
      refine ⟨_, rfl, rfl, _, rfl, ift (by decide +kernel) ?_⟩
      refine ⟨(by show 1 ≤ sizeLine; decide), fun p np => ?_⟩
      have kp := Keep.new (o := .tup [.str "dull"]) np (Keep.refl [] H)
      exact q (.nd .dull []) _ _ ⟨⟨rfl, rfl⟩, Nat.zero_le _, Nat.le_trans (Sz_pos m) (Nat.le_max_left _ _), Nat.zero_le _⟩ (keep0S kp) (G.deck.keep0 kp) (G.left.keep kp (by simp)) (.tup (.of upd_same) (.cons (.str _) .nil))
    · refine ⟨_, rfl, rfl, _, rfl, iff' (by rcases hfw with rfl | rfl <;> decide +kernel) ?_⟩
      refine ⟨_, rfl, rfl, _, rfl, iff' (by rcases hfw with rfl | rfl <;> decide +kernel) ?_⟩
      have nal : al ≠ g.dk ∧ al ≠ g.cs := by
        have := R.2
        simp only [GenD.S, List.mem_cons, List.not_mem_nil, or_false, not_or] at this
        exact ⟨this.1, this.2.1⟩
      refine ⟨_, rfl, _, rfl, _, rfl, g.dk, g.cs, al, Γ, κ, rfl, G.deck, R.1, by omega, nal, fun v5 H1 k1 d1 hv5 => ?_⟩
      have G1 := G.keepD k1 d1
      obtain ⟨c, hl1⟩ := G1.left
      refine ⟨_, rfl, g.kd, _, rfl, kit_gleft G1.kit, g.ll, _, 0, .int c, rfl, rfl, .of hl1, atI_nat (j := 0) rfl, _, _, rfl, rfl, ?_⟩
      refine ⟨_, rfl, g.kd, _, rfl, kit_gleft G1.kit, g.ll, _, 0, 0, rfl, rfl, hl1, rfl, ?_⟩
      obtain ⟨G2, k2⟩ := G1.take hl1 (c - 1)
      have k2' : Keep [g.ll] H1 (upd H1 g.ll (.lst [.int (c - 1)])) := Keep.lst hl1 (.inl (by simp)) (Keep.refl _ _)
      have hv5' : v5 = .non ∨ ∃ i a, v5 = .ref a ∧ HasK F Γ (.at i) κ ∧ At K (upd H1 g.ll (.lst [.int (c - 1)])) v5 (encT (.at i)) := hv5.imp id fun ⟨i, a, e1, e2, e3⟩ => ⟨i, a, e1, e2, e3.keep k2'⟩
      rw [show ([V.int c].set 0 ((fun i j => V.int (i - j)) c 1)) = [V.int (c - 1)] from rfl]
      generalize upd H1 g.ll (.lst [.int (c - 1)]) = H2 at G2 k2 k2' hv5'
      have k12 := (keepS k1).trans k2
      rcases hv5' with rfl | ⟨i, a, rfl, hk5, ha5⟩
      · refine ⟨_, rfl, rfl, _, rfl, iff' rfl (iff' rfl ?_)⟩
        have kH2 := k12
        rcases hfw with rfl | rfl
        · refine ⟨_, rfl, rfl, _, rfl, iff' (by decide +kernel) ?_⟩
          refine ⟨_, rfl, _, rfl, _, rfl, (by show 1 ≤ sizeLine; decide), fun p3 np3 => ?_⟩
          have k3 := Keep.new (o := .lst [.str "data"]) np3 (Keep.refl [] H2)
          refine ⟨al, p3, _, _, rfl, rfl, (R.keep (kH2.trans (keep0S k3))).1, upd_same, by simp only [List.length_map, List.length_singleton]; exact Nat.le_trans (show Γ.length + 1 ≤ 1000 by omega) (by decide), fun p4 np4 => ?_⟩
          have k4 := k3.new_ (o := .lst (kVs Γ ++ [.str "data"])) np4
          have hp4 : upd (upd H2 p3 (.lst [.str "data"])) p4 (.lst (kVs Γ ++ [.str "data"])) p4 = some (.lst (kVs (Γ ++ [.data]))) := by rw [upd_same, kVs, kVs, List.map_append]; rfl
          have nS4 := G2.no (new_old np4)
          generalize upd (upd H2 p3 (.lst [.str "data"])) p4 (.lst (kVs Γ ++ [.str "data"])) = H5 at k4 hp4
          refine ⟨_, rfl, _, _, rfl, rfl, g, p4, Γ ++ [.data], m - 1, hvs, by omega, by omega, G2.keep0 k4, (O.keep (kH2.trans (keep0S k4))).grow _, ⟨hp4, nS4⟩, by simp; omega, fun t v H6 tg k6 d6 l6 a6 => ?_⟩
          refine ⟨(by show 2 ≤ sizeLine; decide), fun r nr => ?_⟩
          have kr := Keep.new (o := .tup [.str "fun", v]) nr (Keep.refl [] H6)
          refine q (.clo true t) _ _ ⟨⟨rfl, by have := tg.e; omega, by omega, tg.k⟩, Nat.zero_le _, ?_, ?_⟩ (kH2.trans ((keep0S k4).trans (k6.trans (keep0S kr)))) (d6.keep0 kr) (l6.keep kr (by simp)) (.tup (.of upd_same) (.cons (.str _) (.cons (a6.keep kr) .nil)))
          · have := tg.s
            show 1 + nodes t ≤ max _ _
            omega
          · have := tg.c
            show 1 + cdeep t ≤ max _ _
            omega
        · refine ⟨_, rfl, rfl, _, rfl, ift (by decide +kernel) ?_⟩
          refine ⟨_, rfl, _, rfl, _, rfl, _, rfl, _, _, rfl, rfl, g, al, Γ, m - 1, hvs, by omega, by omega, G2, O.keep kH2, R.keep kH2, by omega, fun t v H6 tg k6 d6 l6 a6 => ?_⟩
          refine ⟨(by show 2 ≤ sizeLine; decide), fun r nr => ?_⟩
          have kr := Keep.new (o := .tup [.str "wait", v]) nr (Keep.refl [] H6)
          refine q (.clo false t) _ _ ⟨⟨rfl, by have := tg.e; omega, by omega, tg.k⟩, Nat.zero_le _, ?_, ?_⟩ (kH2.trans (k6.trans (keep0S kr))) (d6.keep0 kr) (l6.keep kr (by simp)) (.tup (.of upd_same) (.cons (.str _) (.cons (a6.keep kr) .nil)))
          · have := tg.s
            show 1 + nodes t ≤ max _ _
            omega
          · have := tg.c
            show 1 + cdeep t ≤ max _ _
            omega
      · refine ⟨_, rfl, rfl, _, rfl, ift rfl ?_⟩
        refine ⟨_, rfl, g.dk, g.cs, 2, rfl, G2.deck, ⟨by decide, by decide⟩, fun x H3 hx k3 d3 => ⟨rfl, _, rfl, ?_⟩⟩
        have G3 := G2.keepD k3 d3
        have k13 := k12.trans (keepS k3)
        refine ite2 (fun hb => ?_) (fun hb => ?_)
        · exact ⟨_, rfl, q (.at i) _ _ ⟨hk5, Nat.zero_le _, Nat.le_trans (Sz_pos m) (Nat.le_max_left _ _), Nat.zero_le _⟩ k13 d3 G3.left (ha5.keep k3)⟩
        · 
          have kH3 := k13
          rcases hfw with rfl | rfl
          · refine ⟨_, rfl, rfl, _, rfl, iff' (by decide +kernel) ?_⟩
            refine ⟨_, rfl, _, rfl, _, rfl, (by show 1 ≤ sizeLine; decide), fun p3 np3 => ?_⟩
            have k3 := Keep.new (o := .lst [.str "data"]) np3 (Keep.refl [] H3)
            refine ⟨al, p3, _, _, rfl, rfl, (R.keep (kH3.trans (keep0S k3))).1, upd_same, by simp only [List.length_map, List.length_singleton]; exact Nat.le_trans (show Γ.length + 1 ≤ 1000 by omega) (by decide), fun p4 np4 => ?_⟩
            have k4 := k3.new_ (o := .lst (kVs Γ ++ [.str "data"])) np4
            have hp4 : upd (upd H3 p3 (.lst [.str "data"])) p4 (.lst (kVs Γ ++ [.str "data"])) p4 = some (.lst (kVs (Γ ++ [.data]))) := by rw [upd_same, kVs, kVs, List.map_append]; rfl
            have nS4 := G3.no (new_old np4)
            generalize upd (upd H3 p3 (.lst [.str "data"])) p4 (.lst (kVs Γ ++ [.str "data"])) = H5 at k4 hp4
            refine ⟨_, rfl, _, _, rfl, rfl, g, p4, Γ ++ [.data], m - 1, hvs, by omega, by omega, G3.keep0 k4, (O.keep (kH3.trans (keep0S k4))).grow _, ⟨hp4, nS4⟩, by simp; omega, fun t v H6 tg k6 d6 l6 a6 => ?_⟩
            refine ⟨(by show 2 ≤ sizeLine; decide), fun r nr => ?_⟩
            have kr := Keep.new (o := .tup [.str "fun", v]) nr (Keep.refl [] H6)
            refine q (.clo true t) _ _ ⟨⟨rfl, by have := tg.e; omega, by omega, tg.k⟩, Nat.zero_le _, ?_, ?_⟩ (kH3.trans ((keep0S k4).trans (k6.trans (keep0S kr)))) (d6.keep0 kr) (l6.keep kr (by simp)) (.tup (.of upd_same) (.cons (.str _) (.cons (a6.keep kr) .nil)))
            · have := tg.s
              show 1 + nodes t ≤ max _ _
              omega
            · have := tg.c
              show 1 + cdeep t ≤ max _ _
              omega
          · refine ⟨_, rfl, rfl, _, rfl, ift (by decide +kernel) ?_⟩
            refine ⟨_, rfl, _, rfl, _, rfl, _, rfl, _, _, rfl, rfl, g, al, Γ, m - 1, hvs, by omega, by omega, G3, O.keep kH3, R.keep kH3, by omega, fun t v H6 tg k6 d6 l6 a6 => ?_⟩
            refine ⟨(by show 2 ≤ sizeLine; decide), fun r nr => ?_⟩
            have kr := Keep.new (o := .tup [.str "wait", v]) nr (Keep.refl [] H6)
            refine q (.clo false t) _ _ ⟨⟨rfl, by have := tg.e; omega, by omega, tg.k⟩, Nat.zero_le _, ?_, ?_⟩ (kH3.trans (k6.trans (keep0S kr))) (d6.keep0 kr) (l6.keep kr (by simp)) (.tup (.of upd_same) (.cons (.str _) (.cons (a6.keep kr) .nil)))
            · have := tg.s
              show 1 + nodes t ≤ max _ _
              omega
            · have := tg.c
              show 1 + cdeep t ≤ max _ _
              omega
end
end K46
/-! K46P7 -/
set_option maxHeartbeats 4000000
namespace K46
open PySem PySem.Spec PyProof.Rows L2 C8
theorem Keep.call0' {S : List Addr} {H H1 H2 : Hp} {D : Addr} (k : Keep S H H1) (k' : Keep [D] H1 H2) (n : H D = none) : Keep S H H2 := k'.call (fun b z => .inr (by rw [List.mem_singleton.mp z]; exact n)) k
theorem suffH {G B : Hp → Prop} {C : Prop} (h : (∀ H', G H' → B H') → C) (a : ∀ H', G H' → B H') : C := h a
theorem tg_nd {F : Tab} {Γ κs : List Kd} {k : Nd} {ts : List Tm} {m : Nat} (hm : 2 ≤ m) (hl : ts.length ≤ 4) (h : HasK F Γ (.nd k ts) .data) (hT : Tgs F Γ κs (m - 2) (So (m - 1)) (Co (m - 1)) ts) : Tg F Γ .data (m - 1) (Sz m) (Cd m) (.nd k ts) := by
  obtain ⟨m', rfl⟩ : ∃ m', m = m' + 2 := ⟨m - 2, by omega⟩
  refine ⟨h, ?_, ?_, hT.c⟩
  · have := evhL_of hT.e
    show evhL ts ≤ _
    omega
  · have h1 := hT.s
    have h2 := Nat.mul_le_mul_right (So (m' + 1)) hl
    show 1 + nodesL ts ≤ 1 + 4 * So (m' + 1)
    have h3 : m' + 2 - 1 = m' + 1 := by omega
    rw [h3] at h1
    omega
section
variable {P : Program} {w : World} {K : PySem.W.Frag} {mg : Str → Option Value} {base : Heap}
def sp_own_call (K : PySem.W.Frag) (F : Tab) (n : Nat) : Sp := fun vs H Q _ => ∃ (g : GenD) (al : Addr) (Γ : List Kd) (m : Nat) (t pl ml : Addr) (nm : Str) (ms : List Nat), vs = [.ref g.dk, .ref g.kd, .ref al, .int ((m : Int) - 1)] ∧ m ≤ n ∧ 2 ≤ m ∧ m ≤ 5 ∧ GenOk K F H g ∧ OwnAt K F H g.S Γ g.ov ∧ ArdAt H g.S al Γ ∧ Γ.length + m ≤ 900 ∧
  g.ov = .ref t ∧ SqT K H t [.str nm, .ref pl, .int 0, .ref ml] ∧ H pl = some (.lst (kVs (F.fn nm))) ∧ pl ∉ g.S ∧ H ml = some (.lst (ms.map fun (k : Nat) => V.int (k : Int))) ∧ ml ∉ g.S ∧ ms.length ≤ 1000 ∧ ms ≠ [] ∧ (∀ m ∈ ms, Γ[m]? = some .data) ∧ (F.fn nm)[0]? = some .data ∧ (F.fn nm).length ≤ 4 ∧ F.S.ca nm = (F.fn nm).length ∧
  GenQ K H g (Tg F Γ .data (m - 1) (Sz m) (Cd m)) Q
theorem ok_own_call (T : Tx K mg) (F : Tab) (n k : Nat) (c_of : Cal P w K mg base (k + 4) "_law_of" (sp_of K F n) []) : Cal P w K mg base (k + 5) "_law_own_call" (sp_own_call K F n) [] := by
  have c_pick := ok_pick (P := P) (w := w) (base := base) T
  refine cal_mk T.f_own_call T.g_own_call sc_own_call (fun _ _ _ _ _ _ us hl => match us, hl with | [_, _, _, _], _ => rfl) (fun vs H Q E h => ?_) (fun cdv A outer s0 H vs Q E hr h => ?_)
  · obtain ⟨g, al, Γ, m, t, pl, ml, nm, ms, rfl, _⟩ := h
    rfl
  · obtain ⟨g, al, Γ, m, t, pl, ml, nm, ms, rfl, hm, hm1, hm4, G, O, R, hz, eov, ht, hpl, npl, hml, nml, hms, hne, hd, h0, hl4, hca, q⟩ := h
    refine ⟨_, (pss_cons (ps_asg (pe_dget (hu_of hr) (pv 1) pe_str (fun _ _ => rfl)) (pg_tup rfl (pgs_cons (pg_name (i := 4) sc_own_call.nd rfl (Or.inl rfl)) (pgs_cons (pg_name (i := 5) sc_own_call.nd rfl (Or.inl rfl)) (pgs_cons (pg_name (i := 6) sc_own_call.nd rfl (Or.inl rfl)) (pgs_cons (pg_name (i := 7) sc_own_call.nd rfl (Or.inl rfl)) pgs_nil))))))
      (pss_cons (ps_set (i := 8) sc_own_call.nd rfl (Or.inl rfl) (pe_lst pa_nil))
      (pss_cons (ps_for PassesOwn.never rfl (pi_enum rfl T.z_enumerate (pa_cons (pv 5) pa_nil)) (pg_tup rfl (pgs_cons (pg_name (i := 9) sc_own_call.nd rfl (Or.inl rfl)) (pgs_cons (pg_name (i := 10) sc_own_call.nd rfl (Or.inl rfl)) pgs_nil))) (pss_cons (ps_set (i := 11) sc_own_call.nd rfl (Or.inl rfl) (pe_ifExp (pt_cmpR op_eq (pv 9) (pv 6) (nomark _)) (pe_tup (pa_cons pe_str (pa_cons (pe_op op_sub (pe_op op_sub (pe_callB call_len_seq (by rfl) T.z_len PySem.boot_len (pa_cons (pv 2) pa_nil)) pe_int) (pe_c c_pick hr (by omega) rfl (pa_cons (pv 0) (pa_cons (pv 7) pa_nil)))) pa_nil))) pe_non))
      (pss_one (ps_expr (pe_bm PySem.F.plainAttrs_list PySem.F.slot_list_append PySem.F.type_list_append mt_append (pv 8) (pa_cons (pe_ifExp (pt_cmpR op_isN (pv 11) pe_non (nomark _)) (pe_c c_of hr (by omega) rfl (pa_cons (pv 0) (pa_cons (pv 1) (pa_cons (pv 2) (pa_cons (pe_op op_sub (pv 3) pe_int) (pa_cons (pv 10) pa_nil)))))) (pv 11)) pa_nil))))))
      (pss_one (ps_ret (pe_tup (pa_cons pe_str (pa_cons (pv 4) (pa_cons (pe_callTy call_tuple_of (by rfl) T.z_tuple (by decide +kernel) (pa_cons (pv 8) pa_nil)) pa_nil))))))))), ?_⟩
    have hvs : ∀ {x : Addr} {y : V}, [V.ref g.dk, V.ref g.kd, V.ref x, V.int ((m : Int) - 1 - 1), y] = [.ref g.dk, .ref g.kd, .ref x, .int (((m - 1 : Nat) : Int) - 1), y] := fun {x y} => by
      have : (m : Int) - 1 - 1 = (((m - 1 : Nat) : Int) - 1) := by omega
      rw [this]
    refine ⟨_, rfl, g.kd, _, rfl, kit_gown G.kit, t, _, eov, ht, rfl, _, _, rfl, _, _, rfl, _, _, rfl, _, _, rfl, rfl, ?_⟩
    refine ⟨by decide, fun f nf => ?_⟩
    have kf := Keep.new (o := .lst []) nf (Keep.refl [] H)
    have nfS := G.no nf
    have nfp : f ≠ pl := fun e => by rw [e, hpl] at nf; cases nf
    have hz1 : 1000 < sizeLine := by decide
    have nml2 : ml ≠ g.dk ∧ ml ≠ g.cs := by
      have := nml
      simp only [GenD.S, List.mem_cons, List.not_mem_nil, or_false, not_or] at this
      exact ⟨this.1, this.2.1⟩
    refine ⟨_, rfl, pl, kVs (F.fn nm), rfl, .of (kf.at_ _ _ (by simp) hpl), for_it (walk_enum (xs := kVs (F.fn nm))) (fun i σ H' => ∃ (o9 o10 o11 : Option V) (ts : List Tm) (ys : List V), σ = [some (.ref g.dk), some (.ref g.kd), some (.ref al), some (.int ((m : Int) - 1)), some (.str nm), some (.ref pl), some (.int 0), some (.ref ml), some (.ref f), o9, o10, o11] ∧ Keep g.S H H' ∧ GenOk K F H' g ∧ H' f = some (.lst ys) ∧ AtL K H' ys (ts.map encT) ∧ ts.length = i ∧ Tgs F Γ ((F.fn nm).take i) (m - 2) (So (m - 1)) (Co (m - 1)) ts)
      ⟨none, none, none, [], [], rfl, keep0S kf, G.keep0 kf, upd_same, .nil, rfl, Tgs.nil⟩ (fun i σ H' _ ⟨_, _, _, _, _, _, k, _⟩ => .of (k.at_ _ _ npl hpl)) (fun i v σ H1 H2 hi ⟨o9, o10, o11, ts, ys, e, k1, G1, hf, hys, htl, hT⟩ yy => ?_) (fun σ H1 ⟨o9, o10, o11, ts, ys, e, k1, G1, hf, hys, htl, hT⟩ => ?_)⟩
    · subst e
      obtain ⟨T', x1, x2, rfl, nT, rfl, e1, e2⟩ := yy
      cases e1
      have e2 : (kVs (F.fn nm))[i]? = some x2 := e2
      rw [kVs, List.getElem?_map] at e2
      obtain ⟨κ, eκ, rfl⟩ := Option.map_eq_some_iff.mp e2
      have kT := Keep.new (o := .tup [.int (i : Nat), .str (kS κ)]) nT (Keep.refl [] H1)
      have hi4 : i < (F.fn nm).length := (List.getElem?_eq_some_iff.mp eκ).1
      refine ⟨T', _, rfl, .of upd_same, rfl, _, _, rfl, _, _, rfl, rfl, ?_⟩
      generalize upd H1 T' (.tup [.int (i : Nat), .str (kS κ)]) = H3 at kT
      have G3 := G1.keep0 kT
      have k3 := k1.trans (keep0S kT)
      have hf3 := kT.at_ _ _ (by simp) hf
      have hys3 := hys.keep kT
      have fin : ∀ (v : V) (t : Tm) (H5 : Hp) (o11 : Option V), Keep g.S H H5 → GenOk K F H5 g → H5 f = some (.lst ys) → AtL K H5 ys (ts.map encT) → At K H5 v (encT t) → Tg F Γ κ (m - 2) (So (m - 1)) (Co (m - 1)) t → ∃ (o9 o10 o11' : Option V) (ts' : List Tm) (ys' : List V), [some (V.ref g.dk), some (.ref g.kd), some (.ref al), some (.int ((m : Int) - 1)), some (.str nm), some (.ref pl), some (.int 0), some (.ref ml), some (.ref f), some (.int (i : Nat)), some (.str (kS κ)), o11] = [some (.ref g.dk), some (.ref g.kd), some (.ref al), some (.int ((m : Int) - 1)), some (.str nm), some (.ref pl), some (.int 0), some (.ref ml), some (.ref f), o9, o10, o11'] ∧ Keep g.S H (upd H5 f (.lst (ys ++ [v]))) ∧ GenOk K F (upd H5 f (.lst (ys ++ [v]))) g ∧ upd H5 f (.lst (ys ++ [v])) f = some (.lst ys') ∧ AtL K (upd H5 f (.lst (ys ++ [v]))) ys' (ts'.map encT) ∧ ts'.length = i + 1 ∧ Tgs F Γ ((F.fn nm).take (i + 1)) (m - 2) (So (m - 1)) (Co (m - 1)) ts' := fun v t H5 o11 k5 G5 hf5 hys5 hv5 ht5 => by
        have kF : Keep [f] H5 (upd H5 f (.lst (ys ++ [v]))) := Keep.lst hf5 (.inl (by simp)) (Keep.refl _ _)
        have nf3 : f ≠ g.dk ∧ f ≠ g.cs ∧ f ≠ g.ll := by
          have := nfS
          simp only [GenD.S, List.mem_cons, List.not_mem_nil, or_false, not_or] at this
          exact this
        have kFS : Keep g.S H (upd H5 f (.lst (ys ++ [v]))) := Keep.lst hf5 (.inr nf) k5
        refine ⟨_, _, _, ts ++ [t], ys ++ [v], rfl, kFS, ?_, upd_same, ?_, by simp [htl], ?_⟩
        · exact G.keep kFS (G5.deck.keep kF (by simp [nf3.1.symm]) (by simp [nf3.2.1.symm])) (G5.left.keep kF (by simp [nf3.2.2.symm]))
        · rw [List.map_append]
          exact (hys5.keep kF).append (.cons (hv5.keep kF) .nil)
        · rw [take_snoc eκ]
          exact hT.snoc ht5
      have hyl : ys.length < sizeLine := by
        have := hys.length
        rw [List.length_map, htl] at this
        omega
      by_cases hi0 : i = 0
      · subst hi0
        refine ⟨_, rfl, _, rfl, rfl, _, rfl, ift (by decide +kernel) ?_⟩
        refine ⟨_, rfl, al, _, rfl, .inl (.of (R.keep k3).1), _, _, rfl, rfl, _, rfl, _, rfl, g.dk, g.cs, ml, _, rfl, G3.deck, .of (k3.at_ _ _ nml hml), nml2.1, nml2.2, ⟨?_, by rw [List.length_map]; omega⟩, fun j v H5 ev k5 d5 => ?_⟩
        · rw [List.length_map]
          cases ms with
          | nil => exact absurd rfl hne
          | cons a b => simp
        · rw [List.getElem?_map] at ev
          obtain ⟨p, ep, rfl⟩ := Option.map_eq_some_iff.mp ev
          have hp := hd p (List.mem_of_getElem? ep)
          have hpl2 := (List.getElem?_eq_some_iff.mp hp).1
          have G5 := G3.keepD k5 d5
          refine ⟨_, _, rfl, rfl, (by show 2 ≤ sizeLine; decide), fun r nr => ?_⟩
          have e : (((kVs Γ).length : Int) - 1 - (p : Int)) = ((Γ.length - 1 - p : Nat) : Int) := by
            rw [kVs, List.length_map]
            omega
          have kr := Keep.new (o := .tup [.str "at", .int (((kVs Γ).length : Int) - 1 - (p : Int))]) nr (Keep.refl [] H5)
          have hat : At K (upd H5 r (.tup [.str "at", .int (((kVs Γ).length : Int) - 1 - (p : Int))])) (.ref r) (encT (.at (Γ.length - 1 - p))) := by
            rw [e]
            exact .tup (.of upd_same) (.cons (.str _) (.cons (.int _) .nil))
          have k36 := (keepS k5).trans (keep0S (g := g) kr)
          have hf6 := k36.at_ _ _ nfS hf3
          refine ⟨_, rfl, .inl ⟨rfl, _, .of hf6⟩, _, rfl, rfl, _, rfl, iff' rfl ⟨_, rfl, f, ys, _, rfl, rfl, hf6, hyl, ?_⟩⟩
          rw [h0] at eκ
          cases eκ
          exact fin _ (.at (Γ.length - 1 - p)) _ _ (k3.trans k36) (G5.keep0 kr) hf6 (hys3.keep k36) hat ⟨⟨by omega, by rw [show Γ.length - 1 - (Γ.length - 1 - p) = p by omega]; exact hp⟩, Nat.zero_le _, Nat.le_trans (Sz_pos (m - 1)) (Nat.le_max_left _ _), Nat.zero_le _⟩
      · refine ⟨_, rfl, _, rfl, rfl, _, rfl, iff' (decide_eq_false fun z => by have := V.int.inj z; omega) ?_⟩
        refine ⟨_, rfl, .inl ⟨rfl, _, .of hf3⟩, _, rfl, rfl, _, rfl, ift rfl ?_⟩
        refine ⟨_, rfl, _, rfl, _, rfl, _, rfl, _, _, rfl, rfl, _, rfl, g, al, Γ, m - 1, κ, hvs, by omega, by omega, by omega, G3, O.keep k3, R.keep k3, by omega, fun t v H5 tg k5 d5 l5 a5 => ?_⟩
        have hf5 := k5.at_ _ _ nfS hf3
        refine ⟨f, ys, _, rfl, rfl, hf5, hyl, ?_⟩
        exact fin v t H5 _ (k3.trans k5) (G3.keep k5 d5 l5) hf5 (hys3.keep k5) a5 (tg.mono (by omega) (Nat.le_refl _) (Nat.le_refl _))
    · subst e
      rw [show (kVs (F.fn nm)).length = (F.fn nm).length from List.length_map _] at htl hT
      rw [List.take_length] at hT
      refine ⟨_, rfl, _, rfl, f, ys, rfl, .inl ⟨.of hf, fun u nu => ⟨(by show 3 ≤ sizeLine; decide), fun r nr => ?_⟩⟩⟩
      have kr := (Keep.new (o := .tup ys) nu (Keep.refl [] H1)).new_ (o := .tup [.str "call", .str nm, .ref u]) nr
      have hu : upd (upd H1 u (.tup ys)) r (.tup [.str "call", .str nm, .ref u]) u = some (.tup ys) := by rw [upd_ne (new_ne nr).symm]; exact upd_same
      refine q (.nd (.call nm) ts) _ _ (tg_nd hm1 (by rw [htl]; exact hl4) ⟨rfl, by rw [htl, hca], fun z => ?_, hT.k⟩ hT) (k1.trans (keep0S kr)) (G1.deck.keep0 kr) (G1.left.keep kr (by simp)) (.tup (.of upd_same) (.cons (.str _) (.cons (.str _) (.cons (.tup (.of hu) ?_) .nil))))
      · rw [z] at htl
        have := (List.getElem?_eq_some_iff.mp h0).1
        simp at htl
        omega
      · rw [encTs_map]
        exact hys.keep kr
theorem ok_data (T : Tx K mg) (F : Tab) (n k : Nat) (hk : 2 ≤ k) (c_data : Cal P w K mg base (k + 3) "_law_data" (sp_data K F n) []) (c_of : Cal P w K mg base (k + 4) "_law_of" (sp_of K F n) []) (c_own_call : Cal P w K mg base (k + 5) "_law_own_call" (sp_own_call K F n) []) : Cal P w K mg base (k + 6) "_law_data" (sp_data K F (n + 1)) [] := by
  have c_draw := ok_draw (P := P) (w := w) (base := base) T
  have c_pick := ok_pick (P := P) (w := w) (base := base) T
  have c_name_of := ok_name_of2 (P := P) (w := w) (base := base) T F
  refine cal_mk T.f_data T.g_data sc_data (fun _ _ _ _ _ _ us hl => match us, hl with | [_, _, _, _], _ => rfl) (fun vs H Q E h => ?_) (fun cdv A outer s0 H vs Q E hr h => ?_)
  · obtain ⟨g, al, Γ, m, rfl, _⟩ := h
    rfl
  · obtain ⟨g, al, Γ, m, rfl, hm, hm5, G, O, R, hz, q⟩ := h
    refine ⟨_, (pss_cons (ps_par (i := 4) (j := 5) (by rfl) sc_data.nd rfl rfl (by decide) rfl rfl (pa_cons (pe_c c_draw hr (by omega) rfl (pa_cons (pv 0) (pa_cons pe_int pa_nil))) (pa_cons (pe_c c_name_of hr (by omega) rfl (pa_cons (pv 0) (pa_cons (pv 2) (pa_cons pe_str pa_nil)))) pa_nil)) (by rfl))
      (pss_cons (ps_asg (pe_op op_sub (pe_ix ix_list (pe_dget (hu_of hr) (pv 1) pe_str (fun _ _ => rfl)) pe_int (fun _ _ => rfl)) pe_int) (pg_sub (pe_dget (hu_of hr) (pv 1) pe_str (fun _ _ => rfl)) pe_int set_list))
      (pss_cons (ps_if (PW.pt (pw_and (pt_cmpR op_notN (pv 5) pe_non (nomark _)) (pw_and1 (PW.pt (pw_or (pt_cmpR op_lt (pv 4) pe_int (nomark _)) (pw_or1 (pt_cmpR op_lt (pv 3) pe_int (nomark _)))))))) (pss_one (ps_ret (pv 5))) pss_nil)
      (pss_cons (ps_if (PW.pt (pw_or (pt_cmpR op_lt (pv 3) pe_int (nomark _)) (pw_or1 (pt_cmpR op_lt (pe_ix ix_list (pe_dget (hu_of hr) (pv 1) pe_str (fun _ _ => rfl)) pe_int (fun _ _ => rfl)) pe_int (nomark _))))) (pss_one (ps_ret (pe_tup (pa_cons pe_str (pa_cons (pe_ix ix_tup (pe_ix ix_list (pe_dget (hu_of hr) (pv 1) pe_str (fun _ _ => rfl)) pe_int (fun _ _ => rfl)) pe_int (fun _ _ => rfl)) (pa_cons (pe_tup pa_nil) pa_nil)))))) pss_nil)
      (pss_cons (ps_if (pt_cmpR op_eq (pv 4) pe_int (nomark _)) (pss_cons (ps_set (i := 6) sc_data.nd rfl (Or.inl rfl) (pe_c c_of hr (by omega) rfl (pa_cons (pv 0) (pa_cons (pv 1) (pa_cons (pv 2) (pa_cons (pe_op op_sub (pv 3) pe_int) (pa_cons pe_str pa_nil)))))))
      (pss_one (ps_ret (pe_tup (pa_cons pe_str (pa_cons (pv 6) (pa_cons (pe_c c_data hr (by omega) rfl (pa_cons (pv 0) (pa_cons (pv 1) (pa_cons (pv 2) (pa_cons (pe_op op_sub (pv 3) pe_int) pa_nil))))) pa_nil))))))) pss_nil)
      (pss_cons (ps_if (pt_cmpR op_eq (pv 4) pe_int (nomark _)) (pss_one (ps_ret (pe_tup (pa_cons pe_str (pa_cons (pe_c c_of hr (by omega) rfl (pa_cons (pv 0) (pa_cons (pv 1) (pa_cons (pv 2) (pa_cons (pe_op op_sub (pv 3) pe_int) (pa_cons pe_str pa_nil)))))) pa_nil))))) pss_nil)
      (pss_cons (ps_if (PW.pt (pw_and (pt_cmpR op_eq (pv 4) pe_int (nomark _)) (pw_and (pt_cmpR op_notN (pe_dget (hu_of hr) (pv 1) pe_str (fun _ _ => rfl)) pe_non (nomark _)) (pw_and1 (pt_cmpR (op_ne0 hr.units0) (pe_ix ix_tup (pe_dget (hu_of hr) (pv 1) pe_str (fun _ _ => rfl)) pe_int (fun _ _ => rfl)) (pe_lst pa_nil) (nomark _)))))) (pss_one (ps_ret (pe_c c_own_call hr (by omega) rfl (pa_cons (pv 0) (pa_cons (pv 1) (pa_cons (pv 2) (pa_cons (pv 3) pa_nil))))))) pss_nil)
      (pss_cons (ps_if (PW.pt (pw_and (pt_cmpR op_gt (pv 4) pe_int (nomark _)) (pw_and1 (pt_cmpR (op_ne0 hr.units0) (pe_dget (hu_of hr) (pv 1) pe_str (fun _ _ => rfl)) (pe_lst pa_nil) (nomark _))))) (pss_cons (ps_asg (pe_c c_pick hr (by omega) rfl (pa_cons (pv 0) (pa_cons (pe_dget (hu_of hr) (pv 1) pe_str (fun _ _ => rfl)) pa_nil))) (pg_tup rfl (pgs_cons (pg_name (i := 7) sc_data.nd rfl (Or.inl rfl)) (pgs_cons (pg_name (i := 8) sc_data.nd rfl (Or.inl rfl)) pgs_nil))))
      (pss_one (ps_ret (pe_tup (pa_cons pe_str (pa_cons (pv 7) (pa_cons (pe_callTy call_tuple_of (by rfl) T.z_tuple (by decide +kernel) (pa_cons (pe_lc (g := (gName 9)) rfl sc_data.nd (pi_list (pv 8)) (blkOk_by (own := [("_law_kind", 9)]) (N := ["_law_deck_here", "_law_kit", "_law_around", "_law_deep", "_law_way", "_law_found", "_law_function", "_law_name", "_law_places", "_law_kind", "_law_many", "_law_k"]) (sc := defScope s_data) (by decide +kernel)) (fun _ _ _ _ _ => (pg_name (i := 9) sc_data.nd rfl (Or.inl rfl))) (fun _ _ _ _ _ => pts_nil) (fun _ _ _ _ _ => (pe_c c_of hr (by omega) rfl (pa_cons (pv 0) (pa_cons (pv 1) (pa_cons (pv 2) (pa_cons (pe_op op_sub (pv 3) pe_int) (pa_cons (pv 9) pa_nil)))))))) pa_nil)) pa_nil))))))) pss_nil)
      (pss_cons (ps_asg (pe_c c_pick hr (by omega) rfl (pa_cons (pv 0) (pa_cons (pe_dget (hu_of hr) (pv 1) pe_str (fun _ _ => rfl)) pa_nil))) (pg_tup rfl (pgs_cons (pg_name (i := 7) sc_data.nd rfl (Or.inl rfl)) (pgs_cons (pg_name (i := 10) sc_data.nd rfl (Or.inl rfl)) pgs_nil))))
      (pss_one (ps_ret (pe_tup (pa_cons pe_str (pa_cons (pv 7) (pa_cons (pe_callTy call_tuple_of (by rfl) T.z_tuple (by decide +kernel) (pa_cons (pe_lc (g := (gName 11)) rfl sc_data.nd (pi_range1 rfl T.z_range (pa_cons (pv 10) pa_nil)) (blkOk_by (own := [("_law_k", 11)]) (N := ["_law_deck_here", "_law_kit", "_law_around", "_law_deep", "_law_way", "_law_found", "_law_function", "_law_name", "_law_places", "_law_kind", "_law_many", "_law_k"]) (sc := defScope s_data) (by decide +kernel)) (fun _ _ _ _ _ => (pg_name (i := 11) sc_data.nd rfl (Or.inl rfl))) (fun _ _ _ _ _ => pts_nil) (fun _ _ _ _ _ => (pe_c c_data hr (by omega) rfl (pa_cons (pv 0) (pa_cons (pv 1) (pa_cons (pv 2) (pa_cons (pe_op op_sub (pv 3) pe_int) pa_nil))))))) pa_nil)) pa_nil))))))))))))))), ?_⟩
    have hvs : ∀ {x : Addr} {y : V}, [V.ref g.dk, V.ref g.kd, V.ref x, V.int ((m : Int) - 1 - 1), y] = [.ref g.dk, .ref g.kd, .ref x, .int (((m - 1 : Nat) : Int) - 1), y] ∨ m = 0 := fun {x y} => by
      by_cases h0 : m = 0
      · exact .inr h0
      · have : (m : Int) - 1 - 1 = (((m - 1 : Nat) : Int) - 1) := by omega
        rw [this]
        exact .inl rfl
    have nal : al ≠ g.dk ∧ al ≠ g.cs := by
      have := R.2
      simp only [GenD.S, List.mem_cons, List.not_mem_nil, or_false, not_or] at this
      exact ⟨this.1, this.2.1⟩
    refine ⟨_, rfl, g.dk, g.cs, 9, rfl, G.deck, ⟨by decide, by decide⟩, fun way H1 hway k1 d1 => ?_⟩
    have G1 := G.keepD k1 d1
    refine ⟨_, rfl, _, rfl, g.dk, g.cs, al, Γ, .data, rfl, d1, (R.keep (keepS k1)).1, by omega, nal, fun v5 H2 k2 d2 hv5 => ?_⟩
    refine ⟨_, _, rfl, ?_⟩
    have G2 := G1.keepD k2 d2
    obtain ⟨c, hl2⟩ := G2.left
    refine ⟨_, rfl, g.kd, _, rfl, kit_gleft G2.kit, g.ll, _, 0, .int c, rfl, rfl, .of hl2, atI_nat (j := 0) rfl, _, _, rfl, rfl, ?_⟩
    refine ⟨_, rfl, g.kd, _, rfl, kit_gleft G2.kit, g.ll, _, 0, 0, rfl, rfl, hl2, rfl, ?_⟩
    obtain ⟨G3, k3⟩ := G2.take hl2 (c - 1)
    have k3' : Keep [g.ll] H2 (upd H2 g.ll (.lst [.int (c - 1)])) := Keep.lst hl2 (.inl (by simp)) (Keep.refl _ _)
    have hl3 : upd H2 g.ll (.lst [.int (c - 1)]) g.ll = some (.lst [.int (c - 1)]) := upd_same
    have hv5' : v5 = .non ∨ ∃ i a, v5 = .ref a ∧ HasK F Γ (.at i) .data ∧ At K (upd H2 g.ll (.lst [.int (c - 1)])) v5 (encT (.at i)) := hv5.imp id fun ⟨i, a, e1, e2, e3⟩ => ⟨i, a, e1, e2, e3.keep k3'⟩
    rw [show ([V.int c].set 0 ((fun i j => V.int (i - j)) c 1)) = [V.int (c - 1)] from rfl]
    generalize upd H2 g.ll (.lst [.int (c - 1)]) = H3 at G3 k3 k3' hv5' hl3
    have k03 := (keepS k1).trans ((keepS k2).trans k3)
    apply suffH (G := fun H' => Keep g.S H H' ∧ GenOk K F H' g ∧ H' = H3)
    · intro nxt
      have nxt := nxt H3 ⟨k03, G3, rfl⟩
      rcases hv5' with e5 | ⟨i, a, e5, hk5, ha5⟩
      · exact ⟨_, rfl, rfl, _, rfl, iff' (by simp [e5]) (iff' rfl nxt)⟩
      · refine ⟨_, rfl, rfl, _, rfl, ift (by simp [e5]) ?_⟩
        by_cases hA : way < 2 ∨ m ≤ 1
        · refine ⟨_, rfl, _, _, rfl, rfl, _, rfl, or_yes (ift rfl ?_) fun e hh => ⟨_, rfl, _, _, rfl, rfl, true, congrArg V.bl (decide_eq_true (by
            have h2 : ¬ way < 2 := fun z => by
              have := of_decide_eq_false e
              omega
            have := hA.resolve_left h2
            omega)), hh⟩⟩
          exact ⟨_, rfl, q (.at i) _ _ ⟨hk5, Nat.zero_le _, Sz_pos m, Nat.zero_le _⟩ k03 G3.deck G3.left ha5⟩
        · exact ⟨_, rfl, _, _, rfl, rfl, _, rfl, iff' (decide_eq_false (by omega)) ⟨_, rfl, _, _, rfl, rfl, false, congrArg V.bl (decide_eq_false (by omega)), iff' rfl nxt⟩⟩
    · intro H4 hh4
      obtain ⟨k04, G4, rfl⟩ := hh4
      apply suffH (G := fun H' => 2 ≤ m ∧ H' = H4)
      · intro nxt
        by_cases hA : m ≤ 1 ∨ c - 1 < 1
        · refine ⟨_, rfl, _, _, rfl, rfl, _, rfl, or_yes (ift rfl ?_) fun e hh => ⟨_, rfl, g.kd, _, rfl, kit_gleft G4.kit, g.ll, _, 0, .int (c - 1), rfl, rfl, .of hl3, atI_nat (j := 0) rfl, _, _, rfl, rfl, true, congrArg V.bl (decide_eq_true (by
            have h2 : ¬ m ≤ 1 := fun z => by
              have := of_decide_eq_false e
              omega
            exact hA.resolve_left h2)), hh⟩⟩
          obtain ⟨n0, en0⟩ := G4.zero
          obtain ⟨y0, ey0, hy0⟩ := G4.shs.get (i := 0) (d := encSh (n0, 0)) (by rw [List.getElem?_map, en0]; rfl)
          obtain ⟨a0, z1, z2, rfl, ha0, hz1, hz2⟩ := hy0.t2
          obtain rfl := hz1.s
          refine ⟨_, rfl, g.kd, _, rfl, kit_gshapes G4.kit, g.sl, _, ((0 : Nat) : Int), .ref a0, rfl, rfl, .of G4.shH, atI_nat ey0, a0, _, ((0 : Nat) : Int), .str n0, rfl, rfl, ha0, atI_nat rfl, (by show 0 ≤ sizeLine; decide), fun t0 nt0 => ⟨(by show 3 ≤ sizeLine; decide), fun r nr => ?_⟩⟩
          have kr := (Keep.new (o := .tup []) nt0 (Keep.refl [] H4)).new_ (o := .tup [.str "shape", .str n0, .ref t0]) nr
          have ht0 : upd (upd H4 t0 (.tup [])) r (.tup [.str "shape", .str n0, .ref t0]) t0 = some (.tup []) := by rw [upd_ne (new_ne nr).symm]; exact upd_same
          exact q (.nd (.shape n0) []) _ _ ⟨⟨rfl, ⟨(G4.shok.2.2 _ (List.mem_of_getElem? en0)).1.symm, (G4.shok.2.2 _ (List.mem_of_getElem? en0)).2.2⟩, trivial⟩, Nat.zero_le _, Sz_pos m, Nat.zero_le _⟩ (k04.trans (keep0S kr)) (G4.deck.keep0 kr) (G4.left.keep kr (by simp)) (.tup (.of upd_same) (.cons (.str _) (.cons (.str _) (.cons (.tup (.of ht0) .nil) .nil))))
        · exact ⟨_, rfl, _, _, rfl, rfl, _, rfl, iff' (decide_eq_false (by omega)) ⟨_, rfl, g.kd, _, rfl, kit_gleft G4.kit, g.ll, _, 0, .int (c - 1), rfl, rfl, .of hl3, atI_nat (j := 0) rfl, _, _, rfl, rfl, false, congrArg V.bl (decide_eq_false (by omega)), iff' rfl (nxt H4 ⟨by omega, rfl⟩)⟩⟩
      · intro H5 hh5
        obtain ⟨hm2, rfl⟩ := hh5
        have hvs : ∀ {x : Addr} {y : V}, [V.ref g.dk, V.ref g.kd, V.ref x, V.int ((m : Int) - 1 - 1), y] = [.ref g.dk, .ref g.kd, .ref x, .int (((m - 1 : Nat) : Int) - 1), y] := fun {x y} => hvs.resolve_right (by omega)
        have hvs4 : ∀ {x : Addr}, [V.ref g.dk, V.ref g.kd, V.ref x, V.int ((m : Int) - 1 - 1)] = [.ref g.dk, .ref g.kd, .ref x, .int (((m - 1 : Nat) : Int) - 1)] := fun {x} => by
          have : (m : Int) - 1 - 1 = (((m - 1 : Nat) : Int) - 1) := by omega
          rw [this]
        have mo : ∀ {t : Tm}, Tg F Γ .data (m - 1 - 1) (Sz (m - 1)) (Cd (m - 1)) t → Tg F Γ .data (m - 2) (So (m - 1)) (Co (m - 1)) t := fun h => h.mono (by omega) (Nat.le_max_left _ _) (Nat.le_max_left _ _)
        have mo2 : ∀ {t : Tm} {κ : Kd}, Tg F Γ κ (m - 1 - 1) (So (m - 1)) (Co (m - 1)) t → Tg F Γ κ (m - 2) (So (m - 1)) (Co (m - 1)) t := fun h => h.mono (by omega) (Nat.le_refl _) (Nat.le_refl _)
        apply suffH (G := fun H' => H' = H5)
        · intro nxt
          refine ⟨_, rfl, rfl, _, rfl, ite2 (fun hb => ?_) (fun hb => nxt _ rfl)⟩
          refine ⟨_, rfl, _, rfl, _, rfl, _, rfl, _, _, rfl, rfl, g, al, Γ, m - 1, .fn, hvs, by omega, by omega, by omega, G4, O.keep k04, R.keep k04, by omega, fun t1 v1 H6 tg1 k6 d6 l6 a6 => ?_⟩
          have k06 := k04.trans k6
          have G6 := G4.keep k6 d6 l6
          refine ⟨_, rfl, _, rfl, _, rfl, _, rfl, _, rfl, _, _, rfl, rfl, g, al, Γ, m - 1, hvs4, by omega, by omega, G6, O.keep k06, R.keep k06, by omega, fun t2 v2 H7 tg2 k7 d7 l7 a7 => ?_⟩
          refine ⟨(by show 3 ≤ sizeLine; decide), fun r nr => ?_⟩
          have kr := Keep.new (o := .tup [.str "give", v1, v2]) nr (Keep.refl [] H7)
          exact q (.nd .give [t1, t2]) _ _ (tg_nd (κs := [.fn, .data]) hm2 (show 2 ≤ 4 by decide) ⟨rfl, tg1.k, tg2.k, trivial⟩ ((Tgs.nil.snoc (mo2 tg1)).snoc (mo tg2))) (k06.trans (k7.trans (keep0S kr))) (d7.keep0 kr) (l7.keep kr (by simp)) (.tup (.of upd_same) (.cons (.str _) (.cons ((a6.keep k7).keep kr) (.cons (a7.keep kr) .nil))))
        · intro H6 hh6
          subst hh6
          apply suffH (G := fun H' => H' = H6)
          · intro nxt
            refine ⟨_, rfl, rfl, _, rfl, ite2 (fun hb => ?_) (fun hb => nxt _ rfl)⟩
            refine ⟨_, rfl, _, rfl, _, rfl, _, rfl, _, _, rfl, rfl, g, al, Γ, m - 1, .wait, hvs, by omega, by omega, by omega, G4, O.keep k04, R.keep k04, by omega, fun t1 v1 H7 tg1 k7 d7 l7 a7 => ?_⟩
            refine ⟨(by show 2 ≤ sizeLine; decide), fun r nr => ?_⟩
            have kr := Keep.new (o := .tup [.str "go", v1]) nr (Keep.refl [] H7)
            exact q (.nd .go [t1]) _ _ (tg_nd (κs := [.wait]) hm2 (show 1 ≤ 4 by decide) ⟨rfl, tg1.k, trivial⟩ (Tgs.nil.snoc (mo2 tg1))) (k04.trans (k7.trans (keep0S kr))) (d7.keep0 kr) (l7.keep kr (by simp)) (.tup (.of upd_same) (.cons (.str _) (.cons (a7.keep kr) .nil)))
          · intro H7 hh7
            subst hh7
            apply suffH (G := fun H' => Keep g.S H H' ∧ GenOk K F H' g)
            · intro nxt
              by_cases h7 : way = 7
              · refine ⟨_, rfl, rfl, true, congrArg V.bl (decide_eq_true (by rw [h7]; rfl)), ift rfl ?_⟩
                rcases O.keep k04 with e | ⟨t, pl, ml, n1, ms, e, o1, o2, o3, o4, o5, o6, o7, o8, o9, o10⟩
                · exact ⟨_, rfl, g.kd, _, rfl, kit_gown G4.kit, rfl, false, congrArg V.bl (by simp [e]), iff' rfl (iff' rfl (nxt _ ⟨k04, G4⟩))⟩
                · refine ⟨_, rfl, g.kd, _, rfl, kit_gown G4.kit, rfl, true, congrArg V.bl (by simp [e]), ift rfl ?_⟩
                  refine ⟨_, rfl, g.kd, _, rfl, kit_gown G4.kit, t, _, 3, .ref ml, e, rfl, o1, atI_nat (j := 3) rfl, (by decide), fun q0 nq => ?_⟩
                  have kq := Keep.new (o := .lst []) nq (Keep.refl [] H7)
                  have hq0 : upd H7 q0 (.lst []) q0 = some (.lst []) := upd_same
                  generalize upd H7 q0 (.lst []) = H8 at kq hq0
                  have k08 := k04.trans (keep0S kq)
                  have G8 := G4.keep0 kq
                  refine ⟨ml, q0, _, rfl, rfl, .inl ⟨.of (kq.at_ _ _ (by simp) o4), .of hq0⟩, _, rfl, ?_⟩
                  cases hms : ms with
                  | nil => exact iff' rfl (nxt _ ⟨k08, G8⟩)
                  | cons m0 mr =>
                    refine ift rfl ?_
                    exact ⟨_, rfl, _, rfl, _, rfl, _, rfl, g, al, Γ, m, t, pl, ml, n1, ms, rfl, by omega, hm2, hm5, G8, O.keep k08, R.keep k08, hz, e, kq.sqT o1, kq.at_ _ _ (by simp) o2, o3, kq.at_ _ _ (by simp) o4, o5, o6, by rw [hms]; simp, o7, o8, o9, o10, fun t v H' tg k d l a => q t v H' tg (k08.trans k) d l a⟩
              · exact ⟨_, rfl, rfl, false, congrArg V.bl (decide_eq_false fun z => by have := V.int.inj z; omega), iff' rfl (iff' rfl (nxt _ ⟨k04, G4⟩))⟩
            · intro H8 hh8
              obtain ⟨k08, G8⟩ := hh8
              have nap := G8.ap.1
              have ndl : g.dl ≠ g.dk ∧ g.dl ≠ g.cs := by
                have := nap.2.2
                simp only [GenD.S, List.mem_cons, List.not_mem_nil, or_false, not_or] at this
                exact ⟨this.1, this.2.1⟩
              have nsl : g.sl ≠ g.dk ∧ g.sl ≠ g.cs := by
                have := nap.2.1
                simp only [GenD.S, List.mem_cons, List.not_mem_nil, or_false, not_or] at this
                exact ⟨this.1, this.2.1⟩
              apply suffH (G := fun H' => Keep g.S H H' ∧ GenOk K F H' g)
              · intro nxt
                by_cases h6 : 6 < way
                · refine ⟨_, rfl, _, _, rfl, rfl, _, rfl, ift (decide_eq_true (by omega)) ?_⟩
                  refine ⟨_, rfl, g.kd, _, rfl, kit_gdone G8.kit, (by decide), fun q0 nq => ?_⟩
                  have kq := Keep.new (o := .lst []) nq (Keep.refl [] H8)
                  have hq0 : upd H8 q0 (.lst []) q0 = some (.lst []) := upd_same
                  generalize upd H8 q0 (.lst []) = H9 at kq hq0
                  have k09 := k08.trans (keep0S kq)
                  have G9 := G8.keep0 kq
                  refine ⟨g.dl, q0, _, rfl, rfl, .inl ⟨.of G9.doneH, .of hq0⟩, _, rfl, ?_⟩
                  have hfew := G9.few
                  have hdone := G9.done
                  cases hds : g.ds with
                  | nil => exact iff' rfl (nxt _ ⟨k09, G9⟩)
                  | cons m0 mr =>
                    refine ift rfl ?_
                    refine ⟨_, rfl, _, rfl, g.kd, _, rfl, kit_gdone G9.kit, g.dk, g.cs, g.dl, g.ds, rfl, G9.deck, .of G9.doneH, ndl.1, ndl.2, ⟨by rw [hds]; simp, hfew⟩, fun i v H10 ev k10 d10 => ?_⟩
                    have G10 := G9.keepD k10 d10
                    have k010 := k09.trans (keepS k10)
                    obtain ⟨t, pl, nm, rfl, o1, o2, o3, o4, o5, o6⟩ := (hdone v (List.mem_of_getElem? ev)).keep (keepS k10)
                    refine ⟨t, _, rfl, o1, rfl, _, _, rfl, _, _, rfl, rfl, ?_⟩
                    have hz4 : 4 ≤ sizeLine := by decide
                    refine ⟨_, rfl, _, rfl, pl, rfl, ⟨_, .of o2⟩, fun D nD => lc_dr (walk_list (xs := kVs (F.fn nm))) g.S (fun i ys H => GenOk K F H g ∧ ∃ ts : List Tm, AtL K H ys (ts.map encT) ∧ ts.length = i ∧ Tgs F Γ ((F.fn nm).take i) (m - 2) (So (m - 1)) (Co (m - 1)) ts)
                      (by rw [List.length_map]; omega) nD G10.there (fun H k => ⟨G10.keep0 k, [], .nil, rfl, Tgs.nil⟩) (fun H k => .of (k.at_ _ _ o3 o2)) (fun i x H11 H12 ys Qn F' hi k11 hD11 hl11 hp y1 hQ => ?_) (fun ys H11 k11 hD hl hp => ?_)⟩
                    · obtain ⟨rfl, ex⟩ := y1
                      rw [kVs, List.getElem?_map] at ex
                      obtain ⟨κ, eκ, rfl⟩ := Option.map_eq_some_iff.mp ex
                      obtain ⟨G11, ts, hys, htl, hT⟩ := hp
                      have k011 := k010.trans k11
                      refine ⟨rfl, tyes ?_⟩
                      refine ⟨_, rfl, _, rfl, _, rfl, _, rfl, _, _, rfl, rfl, _, rfl, g, al, Γ, m - 1, κ, hvs, by omega, by omega, by omega, G11, O.keep k011, R.keep k011, by omega, fun t1 v1 H13 tg1 k13 d13 l13 a13 => ?_⟩
                      refine hQ _ _ k13 fun H14 k14 => ⟨?_, ts ++ [t1], ?_, by simp [htl], ?_⟩
                      · have G13 := G11.keep k13 d13 l13
                        have nD3 : D ≠ g.dk ∧ D ≠ g.cs ∧ D ≠ g.ll := by
                          have := G10.no nD
                          simp only [GenD.S, List.mem_cons, List.not_mem_nil, or_false, not_or] at this
                          exact this
                        have kk : Keep g.S H10 H14 := (k11.trans k13).call0' k14 nD
                        exact G10.keep kk (G13.deck.keep k14 (by simp [nD3.1.symm]) (by simp [nD3.2.1.symm])) (G13.left.keep k14 (by simp [nD3.2.2.symm]))
                      · rw [List.map_append]
                        exact ((hys.keep k13).keep k14).append (.cons (a13.keep k14) .nil)
                      · rw [take_snoc eκ]
                        exact hT.snoc (mo2 tg1)
                    · obtain ⟨G11, ts, hys, htl, hT⟩ := hp
                      rw [kVs, List.length_map] at htl hT
                      rw [List.take_length] at hT
                      refine ⟨D, ys, rfl, .inl ⟨.of hD, fun u nu => ⟨(by show 3 ≤ sizeLine; decide), fun r nr => ?_⟩⟩⟩
                      have kr := (Keep.new (o := .tup ys) nu (Keep.refl [] H11)).new_ (o := .tup [.str "call", .str nm, .ref u]) nr
                      have hu : upd (upd H11 u (.tup ys)) r (.tup [.str "call", .str nm, .ref u]) u = some (.tup ys) := by rw [upd_ne (new_ne nr).symm]; exact upd_same
                      refine q (.nd (.call nm) ts) _ _ (tg_nd hm2 (by rw [htl]; exact o5) ⟨rfl, by rw [htl, o6], fun z => ?_, hT.k⟩ hT) (k010.trans (k11.trans (keep0S kr))) (G11.deck.keep0 kr) (G11.left.keep kr (by simp)) (.tup (.of upd_same) (.cons (.str _) (.cons (.str _) (.cons (.tup (.of hu) ?_) .nil))))
                      · rw [z] at htl
                        exact o4 (List.eq_nil_of_length_eq_zero htl.symm)
                      · rw [encTs_map]
                        exact hys.keep kr
                · exact ⟨_, rfl, _, _, rfl, rfl, _, rfl, iff' (decide_eq_false (by omega)) (iff' rfl (nxt _ ⟨k08, G8⟩))⟩
              · intro H9 hh9
                obtain ⟨k09, G9⟩ := hh9
                have hxl := G9.shs.length
                rw [List.length_map] at hxl
                have hsp : g.shs.length ≠ 0 := fun z => G9.shok.1 (List.eq_nil_of_length_eq_zero z)
                refine ⟨_, rfl, _, rfl, g.kd, _, rfl, kit_gshapes G9.kit, g.dk, g.cs, g.sl, g.xs, rfl, G9.deck, .of G9.shH, nsl.1, nsl.2, ⟨by omega, by have := G9.shok.2.1; omega⟩, fun i v H10 ev k10 d10 => ?_⟩
                have G10 := G9.keepD k10 d10
                have k010 := k09.trans (keepS k10)
                obtain ⟨sd, e1, hv⟩ := G10.shs.get' ev
                rw [List.getElem?_map] at e1
                obtain ⟨⟨nm, mm⟩, es, rfl⟩ := Option.map_eq_some_iff.mp e1
                obtain ⟨a, x1, x2, rfl, ha, z1, z2⟩ := hv.t2
                obtain rfl := z1.s
                obtain rfl := z2.i
                obtain ⟨em, hmm⟩ := G10.shok.2.2 _ (List.mem_of_getElem? es)
                have hm3 : mm ≤ 3 := hmm.1
                have em : F.S.sh nm = mm := em
                refine ⟨a, _, rfl, ha, rfl, _, _, rfl, _, _, rfl, rfl, ?_⟩
                refine ⟨_, rfl, _, rfl, (mm : Int), rfl, by omega, by omega, fun D nD => lc_dr (walk_range (n := mm)) g.S (fun i ys H => GenOk K F H g ∧ ∃ ts : List Tm, AtL K H ys (ts.map encT) ∧ ts.length = i ∧ Tgs F Γ (List.replicate i .data) (m - 2) (So (m - 1)) (Co (m - 1)) ts)
                  (Nat.le_trans hm3 (by decide)) nD G10.there (fun H k => ⟨G10.keep0 k, [], .nil, rfl, Tgs.nil⟩) (fun _ _ => trivial) (fun i x H11 H12 ys Qn F' hi k11 hD11 hl11 hp y1 hQ => ?_) (fun ys H11 k11 hD hl hp => ?_)⟩
                · obtain ⟨rfl, rfl⟩ := y1
                  obtain ⟨G11, ts, hys, htl, hT⟩ := hp
                  have k011 := k010.trans k11
                  refine ⟨rfl, tyes ?_⟩
                  refine ⟨_, rfl, _, rfl, _, rfl, _, rfl, _, _, rfl, rfl, g, al, Γ, m - 1, hvs4, by omega, by omega, G11, O.keep k011, R.keep k011, by omega, fun t1 v1 H13 tg1 k13 d13 l13 a13 => ?_⟩
                  refine hQ _ _ k13 fun H14 k14 => ⟨?_, ts ++ [t1], ?_, by simp [htl], ?_⟩
                  · have G13 := G11.keep k13 d13 l13
                    have nD3 : D ≠ g.dk ∧ D ≠ g.cs ∧ D ≠ g.ll := by
                      have := G10.no nD
                      simp only [GenD.S, List.mem_cons, List.not_mem_nil, or_false, not_or] at this
                      exact this
                    have kk : Keep g.S H10 H14 := (k11.trans k13).call0' k14 nD
                    exact G10.keep kk (G13.deck.keep k14 (by simp [nD3.1.symm]) (by simp [nD3.2.1.symm])) (G13.left.keep k14 (by simp [nD3.2.2.symm]))
                  · rw [List.map_append]
                    exact ((hys.keep k13).keep k14).append (.cons (a13.keep k14) .nil)
                  · rw [← rep_snoc]
                    exact hT.snoc (mo tg1)
                · obtain ⟨G11, ts, hys, htl, hT⟩ := hp
                  refine ⟨D, ys, rfl, .inl ⟨.of hD, fun u nu => ⟨(by show 3 ≤ sizeLine; decide), fun r nr => ?_⟩⟩⟩
                  have kr := (Keep.new (o := .tup ys) nu (Keep.refl [] H11)).new_ (o := .tup [.str "shape", .str nm, .ref u]) nr
                  have hu : upd (upd H11 u (.tup ys)) r (.tup [.str "shape", .str nm, .ref u]) u = some (.tup ys) := by rw [upd_ne (new_ne nr).symm]; exact upd_same
                  refine q (.nd (.shape nm) ts) _ _ (tg_nd hm2 (by omega) ⟨rfl, ⟨by rw [htl, em], hmm.2⟩, by rw [htl]; exact hT.k⟩ hT) (k010.trans (k11.trans (keep0S kr))) (G11.deck.keep0 kr) (G11.left.keep kr (by simp)) (.tup (.of upd_same) (.cons (.str _) (.cons (.str _) (.cons (.tup (.of hu) ?_) .nil))))
                  rw [encTs_map]
                  exact hys.keep kr
end
end K46
/-! K46P8 -/
set_option maxHeartbeats 4000000
namespace K46
open PySem PySem.Spec PyProof.Rows L2 C8
section
variable {P : Program} {w : World} {K : PySem.W.Frag} {mg : Str → Option Value} {base : Heap}
theorem kit_pown {H : Hp} {a sl dl ll : Addr} {ov v : V} (h : H a = some (.dK (kitF sl dl ov ll))) : DPut H a (.str "own") v (upd H a (.dK (kitF sl dl v ll))) := by
  have := DPut.k (k := Sum.inr (Str.ofString "own")) (v := v) h (by show 4 < sizeLine; decide)
  rwa [show putK (kitF sl dl ov ll) (.inr (Str.ofString "own")) v = kitF sl dl v ll by kernel_rfl] at this
theorem kit_pleft {H : Hp} {a sl dl ll l2 : Addr} {ov : V} (h : H a = some (.dK (kitF sl dl ov ll))) : DPut H a (.str "left") (.ref l2) (upd H a (.dK (kitF sl dl ov l2))) := by
  have := DPut.k (k := Sum.inr (Str.ofString "left")) (v := V.ref l2) h (by show 4 < sizeLine; decide)
  rwa [show putK (kitF sl dl ov ll) (.inr (Str.ofString "left")) (V.ref l2) = kitF sl dl ov l2 by kernel_rfl] at this
theorem suffVH {G B : V → Hp → Prop} {C : Prop} (h : (∀ v H', G v H' → B v H') → C) (a : ∀ v H', G v H' → B v H') : C := h a
theorem data_never (T : Tx K mg) {sp : Sp} (h : ∀ vs H Q E, ¬ sp vs H Q E) : Cal P w K mg base 1 "_law_data" sp [] :=
  cal_mk T.f_data T.g_data sc_data (fun _ _ _ _ _ _ us hl => match us, hl with | [_, _, _, _], _ => rfl) (fun vs H Q E z => absurd z (h vs H Q E)) (fun cdv A outer s0 H vs Q E hr z => absurd z (h vs H Q E))
theorem ok_data_all (T : Tx K mg) (F : Tab) : ∀ n, Cal P w K mg base (3 * n + 5) "_law_data" (sp_data K F n) []
  | 0 => cal_lift (data_never T fun vs H Q E z => by obtain ⟨g, al, Γ, m, _, h, _⟩ := z; exact absurd h (Nat.not_lt_zero _)) (by omega)
  | n + 1 => by
    have c_data := ok_data_all T F n
    have c_of := ok_of T F n (3 * n + 2) c_data
    have c_own := ok_own_call T F n (3 * n + 2) c_of
    exact cal_lift (ok_data T F n (3 * n + 2) (by omega) c_data c_of c_own) (by omega)
/-- a row: what is asked of it -/
def RowOk (F : Tab) (κs : List Kd) (r : Rw) : Prop := ∃ α, PatsK F r.ps κs α ∧ Tg F α .data 3 149 2 r.body ∧ α.length ≤ 36 ∧ pdeepL r.ps ≤ 2 ∧ pnodesL r.ps ≤ 52
def sp_row (K : PySem.W.Frag) (F : Tab) : Sp := fun vs H Q _ => ∃ (g : GenD) (t pl : Addr) (nm : Str) (last : Bool), vs = [.ref g.dk, .ref g.kd, .ref t, .bl last] ∧ GenOk K F H g ∧ SqT K H t [.str nm, .ref pl, .int 0] ∧ H pl = some (.lst (kVs (F.fn nm))) ∧ pl ∉ g.S ∧ (F.fn nm)[0]? = some .data ∧ (F.fn nm).length ≤ 4 ∧ F.S.ca nm = (F.fn nm).length ∧
  ∀ r v H', RowOk F (F.fn nm) r → Keep [g.dk, g.cs] H H' → DeckOk H' g.dk g.cs → At K H' v (encR r) → Q v H'
theorem ok_row (T : Tx K mg) (F : Tab) : Cal P w K mg base 24 "_law_row" (sp_row K F) [] := by
  have c_draw := ok_draw (P := P) (w := w) (base := base) T
  have c_pattern := ok_pattern (P := P) (w := w) (base := base) T F 3
  have c_takes := ok_takes (P := P) (w := w) (base := base) T 3
  have c_data := ok_data_all (P := P) (w := w) (base := base) T F 6
  refine cal_mk T.f_row T.g_row sc_row (fun _ _ _ _ _ _ us hl => match us, hl with | [_, _, _, _], _ => rfl) (fun vs H Q E h => ?_) (fun cdv A outer s0 H vs Q E hr h => ?_)
  · obtain ⟨g, t, pl, nm, last, rfl, _⟩ := h
    rfl
  · obtain ⟨g, t, pl, nm, last, rfl, G, ht, hpl, npl, h0, hl4, hca, q⟩ := h
    refine ⟨_, (pss_cons (ps_asg (pv 2) (pg_tup rfl (pgs_cons (pg_name (i := 4) sc_row.nd rfl (Or.inl rfl)) (pgs_cons (pg_name (i := 5) sc_row.nd rfl (Or.inl rfl)) (pgs_cons (pg_name (i := 6) sc_row.nd rfl (Or.inl rfl)) pgs_nil)))))
      (pss_cons (ps_par3 (i := 7) (j := 8) (l := 9) (by rfl) sc_row.nd rfl rfl rfl (by decide) (by decide) (by decide) rfl rfl rfl (pa_cons (pe_lst pa_nil) (pa_cons (pe_lst pa_nil) (pa_cons (pe_lst pa_nil) pa_nil))) (by rfl))
      (pss_cons (ps_for PassesOwn.never rfl (pi_enum rfl T.z_enumerate (pa_cons (pv 5) pa_nil)) (pg_tup rfl (pgs_cons (pg_name (i := 10) sc_row.nd rfl (Or.inl rfl)) (pgs_cons (pg_name (i := 11) sc_row.nd rfl (Or.inl rfl)) pgs_nil))) (pss_cons (ps_set (i := 12) sc_row.nd rfl (Or.inl rfl) (pe_ix ix_list (pe_lst (pa_cons (pe_tup (pa_cons pe_str pa_nil)) (pa_cons (pe_tup (pa_cons pe_str pa_nil)) pa_nil))) (pe_callTy call_int1 (by rfl) T.z_int (by decide +kernel) (pa_cons (pe_cmpR op_eq (pe_c c_draw hr (by omega) rfl (pa_cons (pv 0) (pa_cons pe_int pa_nil))) pe_int (nomark _)) pa_nil)) (fun _ _ => rfl)))
      (pss_cons (ps_if (PW.pt (pw_and (pt_cmpR op_eq (pv 11) pe_str (nomark _)) (pw_and1 (pt_not (pt_val (pv 3)))))) (pss_one (ps_set (i := 12) sc_row.nd rfl (Or.inl rfl) (pe_c c_pattern hr (by omega) rfl (pa_cons (pv 0) (pa_cons (pe_dget (hu_of hr) (pv 1) pe_str (fun _ _ => rfl)) (pa_cons pe_int pa_nil)))))) pss_nil)
      (pss_cons (ps_for PassesOwn.never rfl (pi_list (pe_c c_takes hr (by omega) rfl (pa_cons (pv 12) (pa_cons pe_bl pa_nil)))) (pg_name (i := 13) sc_row.nd rfl (Or.inl rfl)) (pss_cons (ps_if (PW.pt (pw_and (pt_val (pv 13)) (pw_and1 (pt_cmpR op_eq (pv 10) (pv 6) (nomark _))))) (pss_one (ps_expr (pe_bm PySem.F.plainAttrs_list PySem.F.slot_list_append PySem.F.type_list_append mt_append (pv 9) (pa_cons (pe_callB call_len_seq (by rfl) T.z_len PySem.boot_len (pa_cons (pv 8) pa_nil)) pa_nil)))) pss_nil)
      (pss_one (ps_expr (pe_bm PySem.F.plainAttrs_list PySem.F.slot_list_append PySem.F.type_list_append mt_append (pv 8) (pa_cons (pv 11) pa_nil))))))
      (pss_one (ps_expr (pe_bm PySem.F.plainAttrs_list PySem.F.slot_list_append PySem.F.type_list_append mt_append (pv 7) (pa_cons (pv 12) pa_nil))))))))
      (pss_cons (ps_set (i := 14) sc_row.nd rfl (Or.inl rfl) (pe_callTy call_dictD (by rfl) T.z_dict (by decide +kernel) (pa_cons (pv 1) pa_nil)))
      (pss_cons (ps_asg (pe_tup (pa_cons (pe_tup (pa_cons (pv 4) (pa_cons (pv 5) (pa_cons (pv 6) (pa_cons (pv 9) pa_nil))))) (pa_cons (pe_lst (pa_cons pe_int pa_nil)) pa_nil))) (pg_tup rfl (pgs_cons (pg_sub (pv 14) pe_str (set_dict (hu_of hr))) (pgs_cons (pg_sub (pv 14) pe_str (set_dict (hu_of hr))) pgs_nil))))
      (pss_one (ps_ret (pe_tup (pa_cons (pe_callTy call_tuple_of (by rfl) T.z_tuple (by decide +kernel) (pa_cons (pv 7) pa_nil)) (pa_cons (pe_c c_data hr (by omega) rfl (pa_cons (pv 0) (pa_cons (pv 14) (pa_cons (pv 8) (pa_cons pe_int pa_nil))))) pa_nil)))))))))), ?_⟩
    refine ⟨_, rfl, t, _, rfl, ht, rfl, _, _, rfl, _, _, rfl, _, _, rfl, rfl, ?_⟩
    refine ⟨by decide, fun fp nfp => ⟨by decide, fun fa nfa => ⟨by decide, fun fs nfs => ?_⟩⟩⟩
    refine ⟨_, _, _, rfl, ?_⟩
    have nap : fa ≠ fp := new_ne nfa
    have nsa : fs ≠ fa := new_ne nfs
    have nsp : fs ≠ fp := new_ne (new_old nfs)
    have k1 := ((Keep.new (o := .lst []) nfp (Keep.refl [] H)).new_ (o := .lst []) nfa).new_ (o := .lst []) nfs
    have n0p := nfp
    have n0a : H fa = none := new_old nfa
    have n0s : H fs = none := new_old (new_old nfs)
    have hfp1 : upd (upd (upd H fp (.lst [])) fa (.lst [])) fs (.lst []) fp = some (.lst []) := by rw [upd_ne nsp.symm, upd_ne nap.symm]; exact upd_same
    have hfa1 : upd (upd (upd H fp (.lst [])) fa (.lst [])) fs (.lst []) fa = some (.lst []) := by rw [upd_ne nsa.symm]; exact upd_same
    have hfs1 : upd (upd (upd H fp (.lst [])) fa (.lst [])) fs (.lst []) fs = some (.lst []) := upd_same
    generalize upd (upd (upd H fp (.lst [])) fa (.lst [])) fs (.lst []) = H1 at k1 hfp1 hfa1 hfs1
    have G1 := G.keep0 k1
    have hz1 : 1000 < sizeLine := by decide
    have nfpS := G.no n0p
    have nfaS := G.no n0a
    have nfsS := G.no n0s
    have nS2 : ∀ {x : Addr}, x ∉ g.S → x ∉ [g.dk, g.cs] := fun {x} h z => h (by
      simp only [List.mem_cons, List.not_mem_nil, or_false] at z ⊢
      rcases z with z | z <;> simp [z])
    have nsl : g.sl ≠ g.dk ∧ g.sl ≠ g.cs := by
      have := G.ap.1.2.1
      simp only [GenD.S, List.mem_cons, List.not_mem_nil, or_false, not_or] at this
      exact ⟨this.1, this.2.1⟩
    have nplp : pl ≠ fp := fun e => by rw [e] at hpl; rw [hpl] at n0p; cases n0p
    have npla : pl ≠ fa := fun e => by rw [e] at hpl; rw [hpl] at n0a; cases n0a
    have npls : pl ≠ fs := fun e => by rw [e] at hpl; rw [hpl] at n0s; cases n0s
    refine ⟨_, rfl, pl, kVs (F.fn nm), rfl, .of (k1.at_ _ _ (by simp) hpl), for_it (walk_enum (xs := kVs (F.fn nm))) (fun i σ H' => ∃ (o10 o11 o12 o13 : Option V) (ps : List Pat) (pv : List V) (Γ : List Kd) (ms : List Nat), σ = [some (.ref g.dk), some (.ref g.kd), some (.ref t), some (.bl last), some (.str nm), some (.ref pl), some (.int 0), some (.ref fp), some (.ref fa), some (.ref fs), o10, o11, o12, o13, none] ∧ Keep [g.dk, g.cs] H H' ∧ GenOk K F H' g ∧ H' fp = some (.lst pv) ∧ AtL K H' pv (ps.map encP) ∧ H' fa = some (.lst (kVs Γ)) ∧ H' fs = some (.lst (ms.map fun (k : Nat) => V.int (k : Int))) ∧ PatsK F ps ((F.fn nm).take i) Γ ∧ ps.length = i ∧ Γ.length ≤ 9 * i ∧ pdeepL ps ≤ 2 ∧ pnodesL ps ≤ 13 * i ∧ (∀ m ∈ ms, Γ[m]? = some .data) ∧ ms.length ≤ Γ.length)
      ⟨none, none, none, none, [], [], [], [], rfl, k1.mono (by simp), G1, hfp1, .nil, hfa1, hfs1, rfl, rfl, Nat.zero_le _, Nat.zero_le _, Nat.zero_le _, fun m z => (by cases z), Nat.zero_le _⟩ (fun i σ H' _ ⟨_, _, _, _, _, _, _, _, _, k, _⟩ => .of (k.at_ _ _ (nS2 npl) hpl)) (fun i v σ H2 H3 hi ⟨o10, o11, o12, o13, ps, pv, Γ, ms, e, k2, G2, hfp, hpv, hfa, hfs, hpk, hpl2, hΓ, hpd, hpn, hms, hml⟩ yy => ?_) (fun σ H2 ⟨o10, o11, o12, o13, ps, pv, Γ, ms, e, k2, G2, hfp, hpv, hfa, hfs, hpk, hpl2, hΓ, hpd, hpn, hms, hml⟩ => ?_)⟩
    · subst e
      obtain ⟨T', x1, x2, rfl, nT, rfl, e1, e2⟩ := yy
      cases e1
      have e2 : (kVs (F.fn nm))[i]? = some x2 := e2
      rw [kVs, List.getElem?_map] at e2
      obtain ⟨κ, eκ, rfl⟩ := Option.map_eq_some_iff.mp e2
      have kT := Keep.new (o := .tup [.int (i : Nat), .str (kS κ)]) nT (Keep.refl [] H2)
      have hi4 : i < (F.fn nm).length := (List.getElem?_eq_some_iff.mp eκ).1
      refine ⟨T', _, rfl, .of upd_same, rfl, _, _, rfl, _, _, rfl, rfl, ?_⟩
      generalize upd H2 T' (.tup [.int (i : Nat), .str (kS κ)]) = H4 at kT
      refine ⟨(by show 1 ≤ sizeLine; decide), fun t1 nt1 => ⟨(by show 1 ≤ sizeLine; decide), fun t2 nt2 => ⟨(by show 2 ≤ sizeLine; decide), fun l nl => ?_⟩⟩⟩
      have k5a := (Keep.new (o := .tup [.str "take"]) nt1 (Keep.refl [] H4)).new_ (o := .tup [.str "pass"]) nt2
      have k5 := k5a.new_ (o := .lst [.ref t1, .ref t2]) nl
      have k5l := Keep.new (o := .lst [.ref t1, .ref t2]) nl (Keep.refl [] _)
      have ht1 := k5l.tup t1 [.str "take"] (by rw [upd_ne (new_ne nt2).symm]; exact upd_same)
      have ht2 := k5l.tup t2 [.str "pass"] upd_same
      have hl5 : upd (upd (upd H4 t1 (.tup [.str "take"])) t2 (.tup [.str "pass"])) l (.lst [.ref t1, .ref t2]) l = some (.lst [.ref t1, .ref t2]) := upd_same
      generalize upd (upd (upd H4 t1 (.tup [.str "take"])) t2 (.tup [.str "pass"])) l (.lst [.ref t1, .ref t2]) = H5 at k5 ht1 ht2 hl5
      have k45 := kT.trans k5
      have G5 := G2.keep0 k45
      have k05 := k2.trans (k45.mono (S' := [g.dk, g.cs]) (by simp))
      refine ⟨_, rfl, g.dk, g.cs, 4, rfl, G5.deck, ⟨by decide, by decide⟩, fun x H6 hx k6 d6 => ⟨rfl, .inr ⟨_, rfl, ?_⟩⟩⟩
      have G6 := G5.keepD k6 d6
      have k06 := k05.trans k6
      have nl6 : l ∉ [g.dk, g.cs] := nS2 (G2.keep0 kT |>.no (new_old (new_old nl)))
      have hl6 := k6.at_ _ _ nl6 hl5
      obtain ⟨v12, idx, eidx, hget, p0, hv12, hp0⟩ : ∃ (v12 : V) (idx : Nat), (if decide (V.int (x : Int) = V.int 3) = true then (1 : Int) else 0) = (idx : Int) ∧ [V.ref t1, V.ref t2][idx]? = some v12 ∧ ∃ p0, At K H6 v12 (encP p0) ∧ ((p0 = .take) ∨ p0 = .pass) := by
        by_cases h3 : (x : Int) = 3
        · exact ⟨_, 1, by rw [h3]; decide +kernel, rfl, .pass, .tup (.of (k6.tup _ _ ht2)) (.cons (.str _) .nil), .inr rfl⟩
        · exact ⟨_, 0, by rw [decide_eq_false fun z => h3 (V.int.inj z)]; rfl, rfl, .take, .tup (.of (k6.tup _ _ ht1)) (.cons (.str _) .nil), .inl rfl⟩
      refine ⟨l, _, (idx : Int), v12, rfl, congrArg V.int eidx, .of hl6, atI_nat hget, ?_⟩
      have k26 := (k45.mono (S' := [g.dk, g.cs]) (by simp)).trans k6
      apply suffVH (G := fun v H' => Keep [g.dk, g.cs] H2 H' ∧ GenOk K F H' g ∧ ∃ p, At K H' v (encP p) ∧ PatK F p κ (List.replicate (ptk p) κ) ∧ ptk p ≤ 9 ∧ pdeep p ≤ 2 ∧ pnodes p ≤ 13)
      · intro nxt
        have hg1 : PatK F p0 κ (List.replicate (ptk p0) κ) := by rcases hp0 with rfl | rfl <;> rfl
        have hg2 : ptk p0 ≤ 9 ∧ pdeep p0 ≤ 2 ∧ pnodes p0 ≤ 13 := by rcases hp0 with rfl | rfl <;> decide
        have nx0 := nxt v12 H6 ⟨k26, G6, p0, hv12, hg1, hg2.1, hg2.2.1, hg2.2.2⟩
        by_cases hA : κ = .data ∧ last = false
        · refine ⟨_, rfl, rfl, true, congrArg V.bl (decide_eq_true (by rw [hA.1]; rfl)), ift rfl ?_⟩
          refine ⟨_, rfl, last, rfl, ift (by rw [hA.2]; rfl) ?_⟩
          refine ⟨_, rfl, _, rfl, g.kd, _, rfl, kit_gshapes G6.kit, g.dk, g.cs, g.sl, g.xs, g.shs, 2, rfl, by decide, G6.deck, G6.shH, G6.shs, G6.shok, nsl, fun p k v H7 k7 d7 hv7 hpk7 hk hpd7 hpn7 => ?_⟩
          have ek : k = ptk p := by
            have := PatK.length p _ _ hpk7
            rw [List.length_replicate] at this
            exact this
          subst ek
          rw [← hA.1] at hpk7
          exact nxt v H7 ⟨k26.trans k7, G6.keepD k7 d7, p, hv7, by
            rw [hA.1] at hpk7 ⊢
            exact hpk7, hk, hpd7, hpn7⟩
        · by_cases hd : κ = .data
          · refine ⟨_, rfl, rfl, true, congrArg V.bl (decide_eq_true (by rw [hd]; rfl)), ift rfl ?_⟩
            have hl : last = true := by
              cases last with
              | true => rfl
              | false => exact absurd ⟨hd, rfl⟩ hA
            exact ⟨_, rfl, last, rfl, iff' (by rw [hl]; rfl) nx0⟩
          · exact ⟨_, rfl, rfl, false, congrArg V.bl (decide_eq_false fun z => hd (kS_inj (b := .data) (V.str.inj z))), iff' rfl (iff' rfl nx0)⟩
      · intro v H7 hh7
        obtain ⟨k27, G7, p, hv7, hpk7, hpt7, hpd7, hpn7⟩ := hh7
        have k07 := k2.trans k27
        have hfp7 := k27.at_ _ _ (nS2 nfpS) hfp
        have hfa7 := k27.at_ _ _ (nS2 nfaS) hfa
        have hfs7 := k27.at_ _ _ (nS2 nfsS) hfs
        have hpv7 := hpv.keep k27
        refine ⟨_, rfl, v, p, false, rfl, by omega, hv7, by omega, fun lb bs H8 k8 nlb hlb hbl => ?_⟩
        have G8 := G7.keep0 k8
        have hfp8 := k8.at_ _ _ (by simp) hfp7
        have hfa8 := k8.at_ _ _ (by simp) hfa7
        have hfs8 := k8.at_ _ _ (by simp) hfs7
        have k08 := k07.trans (k8.mono (S' := [g.dk, g.cs]) (by simp))
        have nlp : lb ≠ fp := fun e => by rw [e, hfp7] at nlb; cases nlb
        have nla : lb ≠ fa := fun e => by rw [e, hfa7] at nlb; cases nlb
        have nls : lb ≠ fs := fun e => by rw [e, hfs7] at nlb; cases nlb
        refine ⟨lb, rfl, ⟨_, .of hlb⟩, for_it (walk_list (xs := bs.map V.bl)) (fun j σ H' => ∃ (o13 : Option V) (ms' : List Nat), σ = [some (.ref g.dk), some (.ref g.kd), some (.ref t), some (.bl last), some (.str nm), some (.ref pl), some (.int 0), some (.ref fp), some (.ref fa), some (.ref fs), some (.int (i : Nat)), some (.str (kS κ)), some v, o13, none] ∧ Keep [fa, fs] H8 H' ∧ H' fa = some (.lst (kVs (Γ ++ List.replicate j κ))) ∧ H' fs = some (.lst (ms'.map fun (k : Nat) => V.int (k : Int))) ∧ (∀ m ∈ ms', (Γ ++ List.replicate j κ)[m]? = some .data) ∧ ms'.length ≤ Γ.length + j)
          ⟨o13, ms, rfl, Keep.refl _ _, by rw [hfa8]; simp, hfs8, fun m z => by simpa using hms m z, by omega⟩ (fun j σ H' _ ⟨_, _, _, k, _⟩ => .of (k.at_ _ _ (by simp [nla, nls]) hlb)) (fun j x σ H9 H10 hj ⟨p13, ms', e, k9, ha9, hs9, hm9, hl9⟩ yy => ?_) (fun σ H9 ⟨p13, ms', e, k9, ha9, hs9, hm9, hl9⟩ => ?_)⟩
        · subst e
          obtain ⟨rfl, ex⟩ := yy
          rw [List.getElem?_map] at ex
          obtain ⟨b, eb, rfl⟩ := Option.map_eq_some_iff.mp ex
          have hj9 : j < ptk p := by
            have := (List.getElem?_eq_some_iff.mp eb).1
            omega
          have hΓl : (Γ ++ List.replicate j κ).length ≤ 900 := by
            rw [List.length_append, List.length_replicate]
            omega
          have fin : ∀ (ms2 : List Nat) (H11 : Hp), Keep [fa, fs] H8 H11 → H11 fa = some (.lst (kVs (Γ ++ List.replicate j κ))) → H11 fs = some (.lst (ms2.map fun (k : Nat) => V.int (k : Int))) → (∀ m ∈ ms2, (Γ ++ List.replicate (j + 1) κ)[m]? = some .data) → ms2.length ≤ Γ.length + (j + 1) → ∃ (o13 : Option V) (ms' : List Nat), [some (V.ref g.dk), some (.ref g.kd), some (.ref t), some (.bl last), some (.str nm), some (.ref pl), some (.int 0), some (.ref fp), some (.ref fa), some (.ref fs), some (.int (i : Nat)), some (.str (kS κ)), some v, some (.bl b), none] = [some (V.ref g.dk), some (.ref g.kd), some (.ref t), some (.bl last), some (.str nm), some (.ref pl), some (.int 0), some (.ref fp), some (.ref fa), some (.ref fs), some (.int (i : Nat)), some (.str (kS κ)), some v, o13, none] ∧ Keep [fa, fs] H8 (upd H11 fa (.lst (kVs (Γ ++ List.replicate j κ) ++ [.str (kS κ)]))) ∧ upd H11 fa (.lst (kVs (Γ ++ List.replicate j κ) ++ [.str (kS κ)])) fa = some (.lst (kVs (Γ ++ List.replicate (j + 1) κ))) ∧ upd H11 fa (.lst (kVs (Γ ++ List.replicate j κ) ++ [.str (kS κ)])) fs = some (.lst (ms'.map fun (k : Nat) => V.int (k : Int))) ∧ (∀ m ∈ ms', (Γ ++ List.replicate (j + 1) κ)[m]? = some .data) ∧ ms'.length ≤ Γ.length + (j + 1) := fun ms2 H11 k11 e1 e2 e3 e4 => by
            refine ⟨_, ms2, rfl, Keep.lst e1 (.inl (by simp)) k11, ?_, by rw [upd_ne nsa]; exact e2, e3, e4⟩
            rw [upd_same, List.replicate_succ', ← List.append_assoc]
            simp only [kVs, List.map_append, List.map_cons, List.map_nil]
          have grow : ∀ m ∈ ms', (Γ ++ List.replicate (j + 1) κ)[m]? = some .data := fun m z => by
            have := hm9 m z
            rw [List.replicate_succ', ← List.append_assoc, List.getElem?_append_left (List.getElem?_eq_some_iff.mp this).1]
            exact this
          apply suffH (G := fun H' => ∃ ms2 : List Nat, Keep [fa, fs] H8 H' ∧ H' fa = some (.lst (kVs (Γ ++ List.replicate j κ))) ∧ H' fs = some (.lst (ms2.map fun (k : Nat) => V.int (k : Int))) ∧ (∀ m ∈ ms2, (Γ ++ List.replicate (j + 1) κ)[m]? = some .data) ∧ ms2.length ≤ Γ.length + (j + 1))
          · intro nxt
            have nx0 := nxt H10 ⟨ms', k9, ha9, hs9, grow, by omega⟩
            by_cases hb : b = true ∧ i = 0
            · refine ⟨_, rfl, b, rfl, ift hb.1 ?_⟩
              refine ⟨_, rfl, _, rfl, rfl, true, congrArg V.bl (decide_eq_true (by rw [hb.2]; rfl)), ift rfl ?_⟩
              refine ⟨_, rfl, .inl ⟨rfl, _, .of hs9⟩, _, rfl, fa, _, rfl, .inl (.of ha9), fs, _, _, rfl, rfl, hs9, by rw [List.length_map]; omega, ?_⟩
              have hκ : κ = .data := by
                rw [hb.2, h0] at eκ
                exact (Option.some.inj eκ).symm
              refine nxt _ ⟨ms' ++ [(Γ ++ List.replicate j κ).length], Keep.lst hs9 (.inl (by simp)) k9, by rw [upd_ne nsa.symm]; exact ha9, ?_, ?_, by simp; omega⟩
              · rw [upd_same, List.map_append]
                show some (HO.lst (_ ++ [V.int ((kVs (Γ ++ List.replicate j κ)).length : Int)])) = _
                rw [kVs, List.length_map]
                rfl
              · intro m z
                rcases List.mem_append.mp z with z | z
                · exact grow m z
                · rw [List.mem_singleton.mp z, List.replicate_succ', ← List.append_assoc, List.getElem?_append_right (Nat.le_refl _), Nat.sub_self, hκ]
                  rfl
            · cases b with
              | false => exact ⟨_, rfl, false, rfl, iff' rfl (iff' rfl nx0)⟩
              | true => exact ⟨_, rfl, true, rfl, ift rfl ⟨_, rfl, _, rfl, rfl, false, congrArg V.bl (decide_eq_false fun z => hb ⟨rfl, by have := V.int.inj z; omega⟩), iff' rfl nx0⟩⟩
          · intro H11 hh11
            obtain ⟨ms2, k11, e1, e2, e3, e4⟩ := hh11
            exact ⟨_, rfl, .inl ⟨rfl, _, .of e1⟩, _, rfl, fa, _, _, rfl, rfl, e1, by rw [kVs, List.length_map]; omega, fin ms2 H11 k11 e1 e2 e3 e4⟩
        · subst e
          rw [List.length_map, hbl] at ha9 hm9 hl9
          have hfp9 := k9.at_ _ _ (by simp [nap.symm, nsp.symm]) hfp8
          have hpvl := hpv.length
          rw [List.length_map] at hpvl
          refine ⟨_, rfl, .inl ⟨rfl, _, .of hfp9⟩, _, rfl, fp, pv, v, rfl, rfl, hfp9, by omega, ?_⟩
          have kF : Keep [fp] H9 (upd H9 fp (.lst (pv ++ [v]))) := Keep.lst hfp9 (.inl (by simp)) (Keep.refl _ _)
          have k89 : Keep [fp, fa, fs] H8 (upd H9 fp (.lst (pv ++ [v]))) := (k9.mono (S' := [fp, fa, fs]) (fun b z => List.mem_cons_of_mem _ z)).trans (kF.mono (fun b z => by rw [List.mem_singleton.mp z]; exact List.mem_cons_self ..))
          have hpv8 := (hpv7.keep k8).keep k89
          have kall : Keep [g.dk, g.cs] H (upd H9 fp (.lst (pv ++ [v]))) := k89.call (fun b z => .inr (by
            simp only [List.mem_cons, List.not_mem_nil, or_false] at z
            rcases z with rfl | rfl | rfl
            · exact n0p
            · exact n0a
            · exact n0s)) k08
          have G10 : GenOk K F (upd H9 fp (.lst (pv ++ [v]))) g := G.keepD kall (G8.deck.keep k89 (by
            have h1 := nfpS
            have h2 := nfaS
            have h3 := nfsS
            simp only [GenD.S, List.mem_cons, List.not_mem_nil, or_false, not_or] at h1 h2 h3 ⊢
            exact ⟨Ne.symm h1.1, Ne.symm h2.1, Ne.symm h3.1⟩) (by
            have h1 := nfpS
            have h2 := nfaS
            have h3 := nfsS
            simp only [GenD.S, List.mem_cons, List.not_mem_nil, or_false, not_or] at h1 h2 h3 ⊢
            exact ⟨Ne.symm h1.2.1, Ne.symm h2.2.1, Ne.symm h3.2.1⟩))
          refine ⟨_, _, _, _, ps ++ [p], pv ++ [v], Γ ++ List.replicate (ptk p) κ, ms', rfl, kall, G10, upd_same, ?_, by rw [upd_ne nap]; exact ha9, ?_, ?_, by simp [hpl2], by simp; omega, by rw [pdeepL_snoc]; omega, ?_, hm9, by simp; omega⟩
          · rw [List.map_append]
            exact hpv8.append (.cons ((hv7.keep k8).keep k89) .nil)
          · rw [upd_ne nsp]
            exact hs9
          · rw [take_snoc eκ]
            exact PatsK.snoc hpk7 hpk
          · rw [pnodesL_append]
            simp only [pnodesL]
            omega
    · subst e
      rw [show (kVs (F.fn nm)).length = (F.fn nm).length from List.length_map _] at hpk hpl2 hΓ hpn
      rw [List.take_length] at hpk
      have hΓ36 : Γ.length ≤ 36 := by omega
      have hpn52 : pnodesL ps ≤ 52 := by omega
      refine ⟨_, rfl, g.kd, _, rfl, G2.kit, fun p np => ?_⟩
      have k3 := Keep.new (o := .dK (kitF g.sl g.dl g.ov g.ll)) np (Keep.refl [] H2)
      have hp3 : upd H2 p (.dK (kitF g.sl g.dl g.ov g.ll)) p = some (.dK (kitF g.sl g.dl g.ov g.ll)) := upd_same
      have npS : p ∉ g.S := G2.no np
      have n2p : H2 p = none := np
      generalize upd H2 p (.dK (kitF g.sl g.dl g.ov g.ll)) = H3 at k3 hp3
      refine ⟨_, rfl, _, rfl, _, rfl, _, rfl, (by show 4 ≤ sizeLine; decide), fun t4 nt4 => ⟨(by show 1 ≤ sizeLine; decide), fun ll nll => ⟨(by show 2 ≤ sizeLine; decide), fun tt ntt => ?_⟩⟩⟩
      have n3l : H3 ll = none := new_old nll
      have k4 := ((Keep.new (o := .tup [.str nm, .ref pl, .int 0, .ref fs]) nt4 (Keep.refl [] H3)).new_ (o := .lst [.int 36]) nll).new_ (o := .tup [.ref t4, .ref ll]) ntt
      have nlt : ll ≠ t4 := new_ne nll
      have ntl : tt ≠ ll := new_ne ntt
      have ntt4 : tt ≠ t4 := new_ne (new_old ntt)
      have ht4 : upd (upd (upd H3 t4 (.tup [.str nm, .ref pl, .int 0, .ref fs])) ll (.lst [.int 36])) tt (.tup [.ref t4, .ref ll]) t4 = some (.tup [.str nm, .ref pl, .int 0, .ref fs]) := by rw [upd_ne ntt4.symm, upd_ne nlt.symm]; exact upd_same
      have hll4 : upd (upd (upd H3 t4 (.tup [.str nm, .ref pl, .int 0, .ref fs])) ll (.lst [.int 36])) tt (.tup [.ref t4, .ref ll]) ll = some (.lst [.int 36]) := by rw [upd_ne ntl.symm]; exact upd_same
      have htt4 : upd (upd (upd H3 t4 (.tup [.str nm, .ref pl, .int 0, .ref fs])) ll (.lst [.int 36])) tt (.tup [.ref t4, .ref ll]) tt = some (.tup [.ref t4, .ref ll]) := upd_same
      generalize upd (upd (upd H3 t4 (.tup [.str nm, .ref pl, .int 0, .ref fs])) ll (.lst [.int 36])) tt (.tup [.ref t4, .ref ll]) = H4 at k4 ht4 hll4 htt4
      have hp4 := k4.at_ _ _ (by simp) hp3
      refine ⟨tt, _, rfl, .of htt4, rfl, _, _, rfl, _, rfl, p, _, rfl, kit_pown hp4, _, _, rfl, _, rfl, p, _, rfl, kit_pleft upd_same, rfl, ?_⟩
      have k5 : Keep [p] H4 (upd (upd H4 p (.dK (kitF g.sl g.dl (.ref t4) g.ll))) p (.dK (kitF g.sl g.dl (.ref t4) ll))) := Keep.dct upd_same (.inl (by simp)) (Keep.dct hp4 (.inl (by simp)) (Keep.refl _ _))
      have hp5 : upd (upd H4 p (.dK (kitF g.sl g.dl (.ref t4) g.ll))) p (.dK (kitF g.sl g.dl (.ref t4) ll)) p = some (.dK (kitF g.sl g.dl (.ref t4) ll)) := upd_same
      generalize upd (upd H4 p (.dK (kitF g.sl g.dl (.ref t4) g.ll))) p (.dK (kitF g.sl g.dl (.ref t4) ll)) = H5 at k5 hp5
      have k34 := k3.trans k4
      have k25 : Keep [] H2 H5 := k5.call (fun b z => .inr (by rw [List.mem_singleton.mp z]; exact n2p)) k34
      have n2l : H2 ll = none := k3.free n3l
      have npl5 : ll ≠ p := fun e => by rw [e, hp3] at n3l; cases n3l
      have hll5 := k5.at_ _ _ (by simp [npl5]) hll4
      have ht5 := k5.tup _ _ ht4
      have hfp5 := k25.at_ _ _ (by simp) hfp
      refine ⟨_, rfl, fp, pv, rfl, .inl ⟨.of hfp5, fun u nu => ?_⟩⟩
      have k6 := Keep.new (o := .tup pv) nu (Keep.refl [] H5)
      have hu6 : upd H5 u (.tup pv) u = some (.tup pv) := upd_same
      generalize upd H5 u (.tup pv) = H6 at k6 hu6
      have k26 := k25.trans k6
      have k02 := k2.trans (k26.mono (S' := [g.dk, g.cs]) (by simp))
      have nlS : ∀ {x : Addr} {o : HO}, H2 x = some o → x ≠ ll := fun {x o} h e => by rw [e, n2l] at h; cases h
      have npl0 : pl ∉ [g.dk, g.cs, ll] := by
        have h1 := npl
        simp only [GenD.S, List.mem_cons, List.not_mem_nil, or_false, not_or] at h1 ⊢
        exact ⟨h1.1, h1.2.1, nlS (k2.at_ _ _ (nS2 npl) hpl)⟩
      have nfs0 : fs ∉ [g.dk, g.cs, ll] := by
        have h1 := nfsS
        simp only [GenD.S, List.mem_cons, List.not_mem_nil, or_false, not_or] at h1 ⊢
        exact ⟨h1.1, h1.2.1, nlS hfs⟩
      have nfa0 : fa ∉ [g.dk, g.cs, ll] := by
        have h1 := nfaS
        simp only [GenD.S, List.mem_cons, List.not_mem_nil, or_false, not_or] at h1 ⊢
        exact ⟨h1.1, h1.2.1, nlS hfa⟩
      have G6 : GenOk K F H6 ⟨g.dk, g.cs, p, ll, g.sl, g.dl, .ref t4, g.xs, g.ds, g.shs⟩ := by
        have hap := G2.ap
        simp only [GenD.S, List.mem_cons, List.not_mem_nil, or_false, not_or] at hap npS
        have hdk := G2.deck.ex
        obtain ⟨_, _, _, hdk1, hdk2, _⟩ := hdk
        refine ⟨G2.deck.keep0 k26, ⟨36, k6.at_ _ _ (by simp) hll5⟩, k6.at_ _ _ (by simp) hp5, k26.at_ _ _ (by simp) G2.shH, G2.shs.keep k26, G2.shok, G2.zero, k26.at_ _ _ (by simp) G2.doneH, G2.few, fun v z => ?_, ?_⟩
        · obtain ⟨t', pl', n', e, h1, h2, h3, h4⟩ := G2.done v z
          refine ⟨t', pl', n', e, k26.sqT h1, k26.at_ _ _ (by simp) h2, ?_, h4⟩
          simp only [GenD.S, List.mem_cons, List.not_mem_nil, or_false, not_or] at h3 ⊢
          exact ⟨h3.1, h3.2.1, nlS h2⟩
        · simp only [GenD.S, List.mem_cons, List.not_mem_nil, or_false, not_or]
          exact ⟨⟨⟨npS.1, npS.2.1, npl5.symm⟩, ⟨hap.1.2.1.1, hap.1.2.1.2.1, nlS G2.shH⟩, hap.1.2.2.1, hap.1.2.2.2.1, nlS G2.doneH⟩, (nlS hdk1).symm, (nlS hdk2).symm⟩
      refine ⟨_, rfl, _, rfl, _, rfl, ⟨g.dk, g.cs, p, ll, g.sl, g.dl, .ref t4, g.xs, g.ds, g.shs⟩, fa, Γ, 4, rfl, by decide, by decide, G6, .inr ⟨t4, pl, fs, nm, ms, rfl, .of (k6.tup _ _ ht5), k02.at_ _ _ (nS2 npl) hpl, npl0, k26.at_ _ _ (by simp) hfs, nfs0, by omega, hms, h0, hl4, hca⟩, ⟨k26.at_ _ _ (by simp) hfa, nfa0⟩, by omega, fun tm v H7 tg k7 d7 l7 a7 => ?_⟩
      refine ⟨(by show 2 ≤ sizeLine; decide), fun r nr => ?_⟩
      have kr := Keep.new (o := .tup [.ref u, v]) nr (Keep.refl [] H7)
      have n0l : H ll = none := k2.none_of (by
        obtain ⟨_, _, _, hdk1, hdk2, _⟩ := G2.deck.ex
        simp only [List.mem_cons, List.not_mem_nil, or_false, not_or]
        exact ⟨(nlS hdk1).symm, (nlS hdk2).symm⟩) n2l
      have k07 : Keep [g.dk, g.cs] H H7 := k7.call (fun b z => by
        simp only [GenD.S, List.mem_cons, List.not_mem_nil, or_false] at z ⊢
        rcases z with z | z | z
        · exact .inl (.inl z)
        · exact .inl (.inr z)
        · exact .inr (z ▸ n0l)) k02
      refine q ⟨ps, tm⟩ _ _ ⟨Γ, hpk, tg.mono (by decide) (by decide) (by decide), hΓ36, hpd, hpn52⟩ (k07.trans (kr.mono (by simp))) (d7.keep0 kr) (.tup (.of upd_same) (.cons (.tup (.of (kr.tup _ _ (k7.tup _ _ hu6))) ?_) (.cons (a7.keep kr) .nil)))
      rw [encPs_map]
      exact ((hpv.keep k26).keep k7).keep kr
end
end K46
/-! K46R13 -/
set_option maxHeartbeats 4000000
namespace K46
open PySem PySem.Spec PyProof.Rows L2 C8
section
variable {X : Cx} {k j : Nat} {x : Str} {p pos : Pos} {e : Expr} {es : List Expr} {t : TA}
/-- a call, one of many promises being kept each: which one is seen at the arguments -/
theorem pe_cX {ι : Type} [ne : Nonempty ι] {sp : ι → Sp} (c : ∀ i, Cal X.prog X.w X.K X.mg X.base k x (sp i) []) (hr : Room j X.A) (hk : k ≤ j) (hg : Gl X x) (ha : PA X (e :: es) t)
    (hdb : (x == ("__debug__" : Str)) = false := by decide) (he : starEach (e :: es) X.env = (false, eval e X.env) :: starEach es X.env := by rfl) (hpl : (backTo pos (starEach es X.env)).any (·.1) = false := by rfl) :
    PE X (.Call (.Name x p) (e :: es) [] pos) (tCall (fun vs H Q E => ∃ i, sp i vs H Q E) [] C8.E0 t) := by
  obtain ⟨i0⟩ := ne
  obtain ⟨f, fd0, ps0, ds0, F0, hm, kp, _, _⟩ := (c i0).ex
  refine ⟨fun pins s σ H Q I h => ?_⟩
  refine wpAny_Call_Name_kw (ld_glob I hg hm ?_ hdb)
  refine PySem.W.callWith_K (h₀ := X.base) I.ok.mod.kin kp (thn (ha.run pos pins s σ H _ I h) fun us s1 ⟨vs, H1, I1, r, q⟩ => ⟨I1.kIn, ?_⟩) he hpl
  obtain ⟨i, q⟩ := (q : ∃ i, sp i (vs ++ []) H1 Q C8.E0)
  obtain ⟨f', fd, ps, ds, F, hm', _, b, d⟩ := (c i).ex
  rw [hm] at hm'
  cases hm'
  exact run_fn F (hr.mono hk) b d C8.pass0 I1 r q
end
end K46
/-! K46R6 -/
set_option maxHeartbeats 4000000
/-! ### sorted of tuples whose first items are texts, no two alike -/
namespace SrtO
open PySem PyProof.Rows Srt
section
variable {prog : Program} {w : World} {A : Around} {E : Value → Shared → Prop} {s : Shared}
/-- v is a tuple that begins with the text x -/
def IsKT (h : Heap) (v : Value) (x : PySem.Str) : Prop := ∃ a o t r n, v = .ref a ∧ h.get? a = some o ∧ o.cls = .type "tuple" ∧ o.data = .seq (Value.str x t :: r).toArray n
theorem IsKT.keeps {h h' : Heap} {v : Value} {x : PySem.Str} (p : IsKT h v x) (k : ∀ b o, h.get? b = some o → o.cls = .type "tuple" → h'.get? b = some o) : IsKT h' v x := by
  obtain ⟨a, o, t, r, n, e, ho, hc, hd⟩ := p
  exact ⟨a, o, t, r, n, e, k _ _ ho hc, hc, hd⟩
theorem swo_txt (k : Value → List Nat) : Swo fun v u => decide (k v < k u) := by
  refine ⟨fun x y h => ?_, fun x y z h1 h2 => ?_⟩
  · have a := of_decide_eq_true h
    exact decide_eq_false (List.lt_asymm a)
  · have a := of_decide_eq_false h1
    have b := of_decide_eq_false h2
    refine decide_eq_false ?_
    have a' : k x ≤ k y := a
    have b' : k y ≤ k z := b
    exact (List.le_trans a' b' : k x ≤ k z)
theorem lex_same {b : Bool} {Q : Bool → Shared → Prop} (h : Q false s) : ∀ (xs : List Value) (i : Nat), PySem.W.KatLex prog w A b false Q (xs.zip xs) i s
  | [], i => PySem.W.kat_nil h
  | x :: xs, i => PySem.W.kat_cons (SeqAt.EqAt.same x prog w _ _ (PySem.W.kat_yes (lex_same h xs (i + 1))))
theorem txt_cmp {vs : List Value} {k : Value → PySem.Str} (hp : ∀ v ∈ vs, IsKT s.heap v (k v)) (hne : ∀ v ∈ vs, ∀ u ∈ vs, k v = k u → v = u) : Cmp prog w A s (tuples' true) (fun p => p.1 ∈ vs) (lt2 fun v u => decide ((k v).cps.toList < (k u).cps.toList)) := by
  intro p q hm hm'
  have h1 := hp _ hm
  have h2 := hp _ hm'
  have h3 := hne _ hm _ hm'
  show wpAny (model prog w) A (keyLt' (tuples' true) p.1 q.1) (fun r s' => s' = s ∧ r = decide ((k p.1).cps.toList < (k q.1).cps.toList)) (fun _ _ => False) s
  by_cases e : p.1 = q.1
  · rw [e] at h1 ⊢
    obtain ⟨a, o, t, r, n, e1, ho, hc, hd⟩ := h1
    rw [e1]
    refine PySem.W.kat_lt ho hd ho hd ?_
    have z1 : decide ((Value.str (k q.1) t :: r).toArray.size < (Value.str (k q.1) t :: r).toArray.size) = false := decide_eq_false (Nat.lt_irrefl _)
    rw [z1]
    exact lex_same ⟨rfl, (decide_eq_false (List.lt_irrefl _)).symm⟩ _ _
  · have ek : ¬ k p.1 = k q.1 := fun z => e (h3 z)
    obtain ⟨a, o, t, r, n, e1, ho, hc, hd⟩ := h1
    obtain ⟨a', o', t', r', n', e1', ho', hc', hd'⟩ := h2
    revert ek hd hd'
    generalize k p.1 = x
    generalize k q.1 = y
    intro ek hd hd'
    rw [e1, e1']
    refine PySem.W.kat_lt ho hd ho' hd' ?_
    show PySem.W.KatLex prog w A true _ _ ((Value.str x t, Value.str y t') :: (r.zip r')) 0 s
    refine PySem.W.kat_cons (SeqAt.EqAt.str_str x t y t' prog w _ _ ?_)
    refine PySem.W.kat_go (fun e2 => absurd (by simpa using e2) ek) (fun _ => ?_)
    exact PySem.W.kat_no (oneLt_any_str ⟨rfl, rfl⟩)
theorem firstsKT {h : Heap} {k : Value → PySem.Str} : ∀ {vs : List Value}, (∀ v ∈ vs, IsKT h v (k v)) → ∃ fs : List Value, PySem.W.KatTups h vs fs ∧ fs.length = vs.length ∧ ∀ f ∈ fs, ∃ x t, f = Value.str x t
  | [], _ => ⟨[], PySem.W.KatTups.nil, rfl, fun _ hm => by simp at hm⟩
  | v :: vs, hp => by
    obtain ⟨fs, h1, h2, h3⟩ := firstsKT (vs := vs) fun v' hm => hp v' (List.mem_cons_of_mem _ hm)
    obtain ⟨a, o, t, r, n, e, ho, hc, hd⟩ := hp v (List.mem_cons_self ..)
    obtain ⟨x, hx⟩ : ∃ x, x = k v := ⟨_, rfl⟩
    rw [← hx] at hd
    subst e
    refine ⟨.str x t :: fs, PySem.W.KatTups.cons ho hc hd rfl h1, by rw [List.length_cons, List.length_cons, h2], fun f hm => ?_⟩
    rcases List.mem_cons.mp hm with rfl | hm
    · exact ⟨x, t, rfl⟩
    · exact h3 f hm
theorem txt_sortableO {a : Addr} {vs : List Value} {k : Value → PySem.Str} (h0 : 0 < vs.length) (hp : ∀ v ∈ vs, IsKT s.heap v (k v)) (hne : ∀ v ∈ vs, ∀ u ∈ vs, k v = k u → v = u) (ha : ∀ o, s.heap.get? a = some o → o.cls ≠ .type "tuple") :
    SortableO prog w A s a vs fun v u => decide ((k v).cps.toList < (k u).cps.toList) := by
  intro h' keep
  have hp' : ∀ v ∈ vs, IsKT h' v (k v) := fun v hm => (hp v hm).keeps fun b o e c => keep b o (fun z => by subst z; exact ha o e c) e
  obtain ⟨fs, h1, h2, h3⟩ := firstsKT hp'
  refine ⟨tuples' true, fun Q E hq => ?_, txt_cmp hp' hne⟩
  refine PySem.W.kat_kind (T := .type "str") h1 (by omega) (fun f hm => ?_) (by rfl) ?_
  · obtain ⟨x, t, rfl⟩ := h3 f hm
    exact PySem.W.Looks.now
  · have e : (Value.type "str" != Value.type "tuple") = true := by first | decide +kernel | rfl | decide
    rw [e]
    exact hq
theorem sorted_txtO {l : Addr} {vs : List Value} {k : Value → PySem.Str} {Q : Value → Shared → Prop} (hl : s.heap.IsList l vs.toArray) (hz : vs.length ≤ sizeLine) (hp : ∀ v ∈ vs, IsKT s.heap v (k v)) (hne : ∀ v ∈ vs, ∀ u ∈ vs, k v = k u → v = u)
    (h : ∀ (h' : Heap) (d : Addr) (out : List Value), out.Perm vs → (∀ b o, s.heap.get? b = some o → h'.get? b = some o) → s.heap.objs.size ≤ d → (∃ n, h'.get? d = some (seqObj "list" out.toArray n)) → Q (.ref d) { s with heap := h' }) :
    wpAny (model prog w) A (call (.builtin "sorted") [.ref l]) Q E s := by
  refine sorted_ord (swo_txt fun v => (k v).cps.toList) hl hz (fun h2 h₁ a ha kk => ?_) fun out hs hb => ?_
  · refine txt_sortableO (s := { s with heap := h₁ }) (by omega) (fun v hm => (hp v hm).keeps fun b o e _ => (kk b o e).2) hne fun o e => ?_
    have e' : some o = some (seqObj "list" vs.toArray 0) := e.symm.trans ha
    cases e'
    intro c
    exact absurd (Value.type.inj c) (by decide)
  · exact h _ _ out hb.perm (fun b o e => sortedAll_old e) (Nat.le_succ _) (sortedAll_at s.heap vs out.toArray)
end
end SrtO
namespace K46
open PySem PySem.Spec PyProof.Rows L2
def rSortedT (K : PySem.W.Frag) : List V → Hp → VK → Prop := fun vs H Q => ∃ (a : Addr) (xs : List V) (k : V → Str), vs = [V.ref a] ∧ SqL K H a xs ∧ (∀ x ∈ xs, ∃ t r, x = V.ref t ∧ H t = some (.tup (.str (k x) :: r))) ∧
  (∀ x ∈ xs, ∀ y ∈ xs, k x = k y → x = y) ∧ ∀ ys p, ys.Perm xs → H p = none → Q (.ref p) (upd H p (.lst ys))
theorem cr_sortedT {X : Cx} : CallR X (.builtin "sorted") (rSortedT X.K) := by
  intro pins s σ H vs us Q I r h
  obtain ⟨a, xs, k, rfl, hs, hx, hne, q⟩ := h
  obtain ⟨its, rv, hl, hz⟩ := I.list hs
  obtain ⟨u, rfl, ru⟩ := vals1 r
  obtain rfl : u = Value.ref a := ru
  obtain ⟨e1, e2⟩ := refs_back rv fun x m => by
    obtain ⟨t, _, e, _⟩ := hx x m
    exact ⟨t, e⟩
  refine SrtO.sorted_txtO (k := fun u => k (backV u)) hl.isList (by rw [← rv.length]; exact hz) (fun v hv => ?_) (fun v hv u hu e => ?_) fun h' d out h2 kp hd hn => ?_
  · obtain ⟨t, rfl⟩ := e2 v hv
    have hm : V.ref t ∈ xs := by rw [e1]; exact List.mem_map.mpr ⟨_, hv, rfl⟩
    obtain ⟨t', r', e, ht⟩ := hx _ hm
    cases e
    obtain ⟨_, its2, r2, o, ho, hc, n, hd⟩ := I.hok _ _ ht
    cases r2 with
    | cons rx rr =>
      obtain ⟨t1, rfl⟩ := rx
      exact ⟨t, o, t1, _, n, rfl, ho, hc, hd⟩
  · obtain ⟨t, rfl⟩ := e2 v hv
    obtain ⟨t', rfl⟩ := e2 u hu
    have hm : V.ref t ∈ xs := by rw [e1]; exact List.mem_map.mpr ⟨_, hv, rfl⟩
    have hm' : V.ref t' ∈ xs := by rw [e1]; exact List.mem_map.mpr ⟨_, hu, rfl⟩
    have z := hne _ hm _ hm' e
    rw [V.ref.inj z]
  · have h3 : ∀ u ∈ out, ∃ a, u = Value.ref a := fun u hu => e2 u (h2.mem_iff.mp hu)
    obtain ⟨n, hn⟩ := hn
    have hb : (out.map backV).Perm xs := by
      rw [e1]
      exact h2.map backV
    refine ⟨.ref d, upd H d (.lst (out.map backV)), I.laid (t' := s.toks) kp hd ⟨?_, out, n, vals_back h3, hn⟩, rfl, q _ d hb (I.hok.fresh hd)⟩
    rw [hb.length_eq]
    exact hz
end K46
/-! K46P9 -/
set_option maxHeartbeats 4000000
namespace K46
open PySem PySem.Spec PyProof.Rows L2 C8
/-! ### a table that knows more -/
structure FLe (F F' : Tab) : Prop where
  sh : ∀ n, F'.S.sh n = F.S.sh n
  fn : ∀ n, F.fn n ≠ [] → F'.fn n = F.fn n ∧ F'.S.ca n = F.S.ca n
section
variable {F F' : Tab}
mutual
theorem HasK.le (l : FLe F F') : ∀ (t : Tm) (Γ : List Kd) (κ : Kd), HasK F Γ t κ → HasK F' Γ t κ
  | .at i, Γ, κ, h => h
  | .clo true b, Γ, κ, h => ⟨h.1, h.2.1, h.2.2.1, HasK.le l b _ _ h.2.2.2⟩
  | .clo false b, Γ, κ, h => ⟨h.1, h.2.1, h.2.2.1, HasK.le l b _ _ h.2.2.2⟩
  | .nd (.shape n) ts, Γ, κ, h => ⟨h.1, ⟨by rw [l.sh]; exact h.2.1.1, h.2.1.2⟩, HasKs.le l ts _ _ h.2.2⟩
  | .nd (.call n) ts, Γ, κ, h => by
    have hne : F.fn n ≠ [] := fun z => by
      have := h.2.2.2.length
      rw [z] at this
      exact h.2.2.1 (List.eq_nil_of_length_eq_zero this)
    obtain ⟨e1, e2⟩ := l.fn n hne
    exact ⟨h.1, by rw [e2]; exact h.2.1, h.2.2.1, by rw [e1]; exact HasKs.le l ts _ _ h.2.2.2⟩
  | .nd .give ts, Γ, κ, h => ⟨h.1, HasKs.le l ts _ _ h.2⟩
  | .nd .go ts, Γ, κ, h => ⟨h.1, HasKs.le l ts _ _ h.2⟩
  | .nd .dull ts, Γ, κ, h => h
theorem HasKs.le (l : FLe F F') : ∀ (ts : List Tm) (Γ κs : List Kd), HasKs F Γ ts κs → HasKs F' Γ ts κs
  | [], _, [], _ => trivial
  | t :: ts, Γ, κ :: κs, h => ⟨HasK.le l t Γ κ h.1, HasKs.le l ts Γ κs h.2⟩
  | [], _, _ :: _, h => h.elim
  | _ :: _, _, [], h => h.elim
end
mutual
theorem PatK.le (l : FLe F F') : ∀ (p : Pat) (κ : Kd) (α : List Kd), PatK F p κ α → PatK F' p κ α
  | .take, _, _, h => h
  | .pass, _, _, h => h
  | .shape n ps, κ, α, h => ⟨h.1, by rw [l.sh]; exact h.2.1, PatsK.le l ps _ α h.2.2⟩
theorem PatsK.le (l : FLe F F') : ∀ (ps : List Pat) (κs : List Kd) (α : List Kd), PatsK F ps κs α → PatsK F' ps κs α
  | [], [], _, h => h
  | p :: ps, κ :: κs, α, h => by
    obtain ⟨a, b, e, h1, h2⟩ := h
    exact ⟨a, b, e, PatK.le l p κ a h1, PatsK.le l ps κs b h2⟩
  | [], _ :: _, _, h => h.elim
  | _ :: _, [], _, h => h.elim
end
theorem Tg.le (l : FLe F F') {Γ : List Kd} {κ : Kd} {e s c : Nat} {t : Tm} (h : Tg F Γ κ e s c t) : Tg F' Γ κ e s c t := ⟨HasK.le l _ _ _ h.k, h.e, h.s, h.c⟩
theorem RowOk.le (l : FLe F F') {κs : List Kd} {r : Rw} (h : RowOk F κs r) : RowOk F' κs r := by
  obtain ⟨α, h1, h2, h3⟩ := h
  exact ⟨α, PatsK.le l _ _ _ h1, h2.le l, h3⟩
theorem DoneAt.le {K : PySem.W.Frag} {H : Hp} {S : List Addr} {v : V} (l : FLe F F') (h : DoneAt K F H S v) : DoneAt K F' H S v := by
  obtain ⟨t, pl, n, e, h1, h2, h3, h4, h5, h6⟩ := h
  obtain ⟨e1, e2⟩ := l.fn n h4
  exact ⟨t, pl, n, e, h1, by rw [e1]; exact h2, h3, by rw [e1]; exact h4, by rw [e1]; exact h5, by rw [e1, e2]; exact h6⟩
theorem GenOk.le {K : PySem.W.Frag} {H : Hp} {g : GenD} (l : FLe F F') (h : GenOk K F H g) : GenOk K F' H g :=
  ⟨h.deck, h.left, h.kit, h.shH, h.shs, ⟨h.shok.1, h.shok.2.1, fun x z => by rw [l.sh]; exact h.shok.2.2 x z⟩, h.zero, h.doneH, h.few, fun v z => (h.done v z).le l, h.ap⟩
end
/-- the table with a definition more -/
def Tab.more (F : Tab) (nm : Str) (κs : List Kd) : Tab := ⟨⟨F.S.sh, fun n => if n = nm then κs.length else F.S.ca n⟩, fun n => if n = nm then κs else F.fn n⟩
theorem Tab.more_le {F : Tab} {nm : Str} {κs : List Kd} (h : F.fn nm = []) : FLe F (F.more nm κs) := by
  refine ⟨fun n => rfl, fun n z => ?_⟩
  have : n ≠ nm := fun e => z (by rw [e]; exact h)
  exact ⟨if_neg this, if_neg this⟩
theorem Tab.more_fn (F : Tab) (nm : Str) (κs : List Kd) : (F.more nm κs).fn nm = κs := if_pos rfl
theorem Tab.more_ca (F : Tab) (nm : Str) (κs : List Kd) : (F.more nm κs).S.ca nm = κs.length := if_pos rfl
/-- what a table says of a program -/
structure PF (F : Tab) (gg : List Df) : Prop where
  sh : ∀ n, F.S.sh n ≤ 3
  fl : ∀ n, (F.fn n).length ≤ 4
  rev : ∀ n, F.fn n ≠ [] → ∃ d ∈ gg, d.name = n
  df : ∀ d ∈ gg, F.fn d.name ≠ [] ∧ d.many = (F.fn d.name).length ∧ F.S.ca d.name = (F.fn d.name).length ∧ d.rows.length ≤ 4 ∧ ∀ r ∈ d.rows, RowOk F (F.fn d.name) r
theorem PF.more {F : Tab} {gg : List Df} {nm : Str} {κs : List Kd} {d : Df} (h : PF F gg) (hn : F.fn nm = []) (hk : κs ≠ []) (hl : κs.length ≤ 4) (e : d.name = nm) (hm : d.many = κs.length) (hr : d.rows.length ≤ 4) (hrs : ∀ r ∈ d.rows, RowOk (F.more nm κs) κs r) : PF (F.more nm κs) (gg ++ [d]) := by
  refine ⟨h.sh, fun n => ?_, fun n z => ?_, fun d' z => ?_⟩
  · by_cases en : n = nm
    · subst en
      rw [Tab.more_fn]
      exact hl
    · rw [show (F.more nm κs).fn n = F.fn n from if_neg en]
      exact h.fl n
  · by_cases en : n = nm
    · exact ⟨d, by simp, by rw [e, en]⟩
    · rw [show (F.more nm κs).fn n = F.fn n from if_neg en] at z
      obtain ⟨d', h1, h2⟩ := h.rev n z
      exact ⟨d', by simp [h1], h2⟩
  · rcases List.mem_append.mp z with z | z
    · obtain ⟨h1, h2, h3, h4, h5⟩ := h.df d' z
      obtain ⟨e1, e2⟩ := (Tab.more_le (κs := κs) hn).fn _ h1
      rw [e1, e2]
      exact ⟨h1, h2, h3, h4, fun r zr => (h5 r zr).le (Tab.more_le hn)⟩
    · rw [List.mem_singleton.mp z, e, Tab.more_fn, Tab.more_ca]
      exact ⟨hk, hm, rfl, hr, hrs⟩
section
variable {P : Program} {w : World} {K : PySem.W.Frag} {mg : Str → Option Value} {base : Heap}
instance : Nonempty Tab := ⟨⟨⟨fun _ => 0, fun _ => 0⟩, fun _ => []⟩⟩
def sp_closed (K : PySem.W.Frag) (F : Tab) : Sp := fun vs H Q _ => ∃ (g : GenD), vs = [.ref g.dk, .ref g.kd] ∧ GenOk K F H g ∧ g.ov = .non ∧
  ∀ t v H' ll, Tg F [] .data 4 597 2 t → Keep [g.dk, g.cs, g.kd] H H' → GenOk K F H' { g with ll := ll } → At K H' v (encT t) → Q v H'
theorem ok_closed (T : Tx K mg) (F : Tab) : Cal P w K mg base 24 "_law_closed" (sp_closed K F) [] := by
  have c_data := ok_data_all (P := P) (w := w) (base := base) T F 6
  refine cal_mk T.f_closed T.g_closed sc_closed (fun _ _ _ _ _ _ us hl => match us, hl with | [_, _], _ => rfl) (fun vs H Q E h => ?_) (fun cdv A outer s0 H vs Q E hr h => ?_)
  · obtain ⟨g, rfl, _⟩ := h
    rfl
  · obtain ⟨g, rfl, G, hov, q⟩ := h
    refine ⟨_, (pss_cons (ps_dput (hu_of hr) (pv 1) pe_str (pe_lst (pa_cons pe_int pa_nil)) rfl)
      (pss_one (ps_ret (pe_c c_data hr (by omega) rfl (pa_cons (pv 0) (pa_cons (pv 1) (pa_cons (pe_lst pa_nil) (pa_cons pe_int pa_nil)))))))), ?_⟩
    refine ⟨(by show 1 ≤ sizeLine; decide), fun ll nll => ?_⟩
    have k1 := Keep.new (o := .lst [.int 40]) nll (Keep.refl [] H)
    have hll1 : upd H ll (.lst [.int 40]) ll = some (.lst [.int 40]) := upd_same
    generalize upd H ll (.lst [.int 40]) = H1 at k1 hll1
    have hkd1 := k1.at_ _ _ (by simp) G.kit
    refine ⟨_, rfl, g.kd, _, rfl, kit_pleft hkd1, ?_⟩
    have k2 : Keep [g.kd] H1 (upd H1 g.kd (.dK (kitF g.sl g.dl g.ov ll))) := Keep.dct hkd1 (.inl (by simp)) (Keep.refl _ _)
    have hkd2 : upd H1 g.kd (.dK (kitF g.sl g.dl g.ov ll)) g.kd = some (.dK (kitF g.sl g.dl g.ov ll)) := upd_same
    generalize upd H1 g.kd (.dK (kitF g.sl g.dl g.ov ll)) = H2 at k2 hkd2
    refine ⟨_, rfl, _, rfl, by decide, fun al nal => ?_⟩
    have k3 := Keep.new (o := .lst []) nal (Keep.refl [] H2)
    have hal3 : upd H2 al (.lst []) al = some (.lst []) := upd_same
    generalize upd H2 al (.lst []) = H3 at k3 hal3
    have k23 : Keep [g.kd] H1 H3 := k2.trans (k3.mono (by simp))
    have k03 : Keep [g.kd] H H3 := (k1.mono (by simp)).trans k23
    have hap := G.ap
    simp only [GenD.S, List.mem_cons, List.not_mem_nil, or_false, not_or] at hap
    obtain ⟨⟨⟨ap1, ap2, ap3⟩, ⟨ap4, ap5, ap6⟩, ap7, ap8, ap9⟩, ap10, ap11⟩ := hap
    obtain ⟨c1, c2, c3, hdk1, hdk2, c4⟩ := G.deck.ex
    have nl : ∀ {x : Addr} {o : HO}, H x = some o → x ≠ ll := fun {x o} h e => by rw [e, nll] at h; cases h
    have nk : ∀ {x : Addr} {ys : List V}, H x = some (.lst ys) → x ≠ g.kd := fun {x ys} h e => by rw [e, G.kit] at h; cases h
    have nllk : ll ≠ g.kd := (nl G.kit).symm
    have hll3 := k23.at_ _ _ (by simp [nllk]) hll1
    have G3 : GenOk K F H3 { g with ll := ll } := by
      refine ⟨G.deck.keep k03 (by simp [Ne.symm ap1]) (by simp [Ne.symm ap2]), ⟨40, hll3⟩, k3.at_ _ _ (by simp) hkd2, k03.at_ _ _ (by simp [nk G.shH]) G.shH, G.shs.keep k03, G.shok, G.zero, k03.at_ _ _ (by simp [nk G.doneH]) G.doneH, G.few, fun v z => ?_, ?_⟩
      · obtain ⟨t', pl', n', e, h1, h2, h3, h4⟩ := G.done v z
        refine ⟨t', pl', n', e, k03.sqT h1, k03.at_ _ _ (by simp [nk h2]) h2, ?_, h4⟩
        simp only [GenD.S, List.mem_cons, List.not_mem_nil, or_false, not_or] at h3 ⊢
        exact ⟨h3.1, h3.2.1, nl h2⟩
      · simp only [GenD.S, List.mem_cons, List.not_mem_nil, or_false, not_or]
        exact ⟨⟨⟨ap1, ap2, nl G.kit⟩, ⟨ap4, ap5, nl G.shH⟩, ap7, ap8, nl G.doneH⟩, (nl hdk1).symm, (nl hdk2).symm⟩
    have nalS : al ∉ [g.dk, g.cs, ll] := by
      have h1 := k23
      simp only [List.mem_cons, List.not_mem_nil, or_false, not_or]
      refine ⟨fun e => ?_, fun e => ?_, fun e => ?_⟩
      · have := k2.at_ _ _ (by simp [Ne.symm ap1]) (k1.at_ _ _ (by simp) hdk1)
        rw [← e, nal] at this
        cases this
      · have := k2.at_ _ _ (by simp [Ne.symm ap2]) (k1.at_ _ _ (by simp) hdk2)
        rw [← e, nal] at this
        cases this
      · have := k2.at_ _ _ (by simp [nllk]) hll1
        rw [← e, nal] at this
        cases this
    refine ⟨{ g with ll := ll }, al, [], 5, rfl, by decide, by decide, G3, .inl hov, ⟨hal3, nalS⟩, by decide, fun t v H' tg k d l a => ?_⟩
    refine q t v H' ll (tg.mono (by decide) (by decide) (by decide)) ?_ (G3.keep k d l) a
    refine k.call (fun b z => ?_) (k03.mono (S' := [g.dk, g.cs, g.kd]) (by simp))
    simp only [GenD.S, List.mem_cons, List.not_mem_nil, or_false] at z ⊢
    rcases z with z | z | z
    · exact .inl (.inl z)
    · exact .inl (.inr (.inl z))
    · exact .inr (z ▸ nll)
end
end K46
/-! K46P10 -/
set_option maxHeartbeats 4000000
namespace K46
open PySem PySem.Spec PyProof.Rows L2 C8
theorem PF.perm {F : Tab} {a b : List Df} (h : PF F a) (p : b.Perm a) : PF F b := ⟨h.sh, h.fl, fun n z => let ⟨d, h1, h2⟩ := h.rev n z; ⟨d, p.mem_iff.mpr h1, h2⟩, fun d z => h.df d (p.mem_iff.mp z)⟩
theorem AtL.perm {K : PySem.W.Frag} {H : Hp} {xs ys : List V} (p : ys.Perm xs) : ∀ {gg : List Df}, AtL K H xs (gg.map encD) → ∃ gg' : List Df, gg'.Perm gg ∧ AtL K H ys (gg'.map encD) := by
  have h : ∀ {xs ys : List V}, xs.Perm ys → ∀ {gg : List Df}, AtL K H xs (gg.map encD) → ∃ gg' : List Df, gg'.Perm gg ∧ AtL K H ys (gg'.map encD) := by
    intro xs ys p
    induction p with
    | nil => intro gg h; exact ⟨gg, .refl _, h⟩
    | cons x _ ih =>
      intro gg h
      cases gg with
      | nil => cases h
      | cons d gg =>
        cases h with
        | cons h1 h2 =>
          obtain ⟨gg', p', h'⟩ := ih h2
          exact ⟨d :: gg', p'.cons d, .cons h1 h'⟩
    | swap x y l =>
      intro gg h
      cases gg with
      | nil => cases h
      | cons d gg =>
        cases gg with
        | nil =>
          cases h with
          | cons h1 h2 => cases h2
        | cons e gg =>
          cases h with
          | cons h1 h2 =>
            cases h2 with
            | cons h2 h3 => exact ⟨e :: d :: gg, .swap _ _ _, .cons h2 (.cons h1 h3)⟩
    | trans _ _ ih1 ih2 =>
      intro gg h
      obtain ⟨g1, p1, h1⟩ := ih1 h
      obtain ⟨g2, p2, h2⟩ := ih2 h1
      exact ⟨g2, p2.trans p1, h2⟩
  intro gg hg
  exact h p.symm hg
theorem kit_pdone {H : Hp} {a sl dl d2 ll : Addr} {ov : V} (h : H a = some (.dK (kitF sl dl ov ll))) : DPut H a (.str "done") (.ref d2) (upd H a (.dK (kitF sl d2 ov ll))) := by
  have := DPut.k (k := Sum.inr (Str.ofString "done")) (v := V.ref d2) h (by show 4 < sizeLine; decide)
  rwa [show putK (kitF sl dl ov ll) (.inr (Str.ofString "done")) (V.ref d2) = kitF sl d2 ov ll by kernel_rfl] at this
theorem kit_mk {sl dl ll : Addr} {ov : V} : mergeK [] (kitF sl dl ov ll) = kitF sl dl ov ll := by kernel_rfl
/-- the text at a tuple's head -/
def headS (H : Hp) (v : V) : Str := match v with
  | .ref t => match H t with
    | some (.tup (.str x :: _)) => x
    | _ => Str.ofString ""
  | _ => Str.ofString ""
theorem headS_of {H : Hp} {t : Addr} {x : Str} {r : List V} (h : H t = some (.tup (.str x :: r))) : headS H (.ref t) = x := by
  simp only [headS, h]
def HdsAt (H : Hp) : List V → List Df → Prop
  | v :: vs, d :: ds => (∃ t r, v = .ref t ∧ H t = some (.tup (.str d.name :: r))) ∧ HdsAt H vs ds
  | [], [] => True
  | _, _ => False
theorem HdsAt.keep {S : List Addr} {H H1 : Hp} (k : Keep S H H1) : ∀ {vs : List V} {ds : List Df}, HdsAt H vs ds → HdsAt H1 vs ds
  | _ :: _, _ :: _, h => ⟨let ⟨t, r, e1, e2⟩ := h.1; ⟨t, r, e1, k.tup _ _ e2⟩, HdsAt.keep k h.2⟩
  | [], [], _ => trivial
  | _ :: _, [], h => h.elim
  | [], _ :: _, h => h.elim
theorem HdsAt.snoc {H : Hp} {v : V} {d : Df} (h2 : ∃ t r, v = .ref t ∧ H t = some (.tup (.str d.name :: r))) : ∀ {vs : List V} {ds : List Df}, HdsAt H vs ds → HdsAt H (vs ++ [v]) (ds ++ [d])
  | _ :: _, _ :: _, h => ⟨h.1, HdsAt.snoc h2 h.2⟩
  | [], [], _ => ⟨h2, trivial⟩
  | _ :: _, [], h => h.elim
  | [], _ :: _, h => h.elim
theorem HdsAt.get {H : Hp} : ∀ {vs : List V} {ds : List Df} {j : Nat} {v : V}, HdsAt H vs ds → vs[j]? = some v → ∃ d t r, ds[j]? = some d ∧ v = .ref t ∧ H t = some (.tup (.str d.name :: r))
  | [], [], _, _, _, e => by simp at e
  | _ :: _, d :: _, 0, _, h, e => by
    simp at e
    subst e
    obtain ⟨t, r, e1, e2⟩ := h.1
    exact ⟨d, t, r, rfl, e1, e2⟩
  | _ :: _, _ :: _, j + 1, _, h, e => by
    obtain ⟨d, t, r, h1, h2⟩ := HdsAt.get (j := j) h.2 (by simpa using e)
    exact ⟨d, t, r, by simpa using h1, h2⟩
  | _ :: _, [], _, _, h, _ => h.elim
  | [], _ :: _, _, _, h, _ => h.elim
section
variable {P : Program} {w : World} {K : PySem.W.Frag} {mg : Str → Option Value} {base : Heap}
def sp_program (K : PySem.W.Frag) : Sp := fun vs H Q _ => ∃ (dk cs : Addr), vs = [.ref dk] ∧ DeckOk H dk cs ∧
  ∀ (g : GenD) (F : Tab) (gg : List Df) (r : Addr) (v : V) H', g.dk = dk → g.cs = cs → g.ov = .non → Keep [dk, cs] H H' → GenOk K F H' g → H' r = some (.tup [.ref g.kd, v]) → At K H' v (encG gg) → PF F gg → gg.length ≤ 4 → (gg.map (·.name)).Nodup → (∀ d ∈ gg, Nm d.name) → Q (.ref r) H'
theorem ok_program (T : Tx K mg) : Cal P w K mg base 26 "_law_program" (sp_program K) [] := by
  have c_draw := ok_draw (P := P) (w := w) (base := base) T
  have c_names := ok_names (P := P) (w := w) (base := base) T
  have c_row := fun F => ok_row (P := P) (w := w) (base := base) T F
  refine cal_mk T.f_program T.g_program sc_program (fun _ _ _ _ _ _ us hl => match us, hl with | [_], _ => rfl) (fun vs H Q E h => ?_) (fun cdv A outer s0 H vs Q E hr h => ?_)
  · obtain ⟨dk, cs, rfl, _⟩ := h
    rfl
  · obtain ⟨dk, cs, rfl, dok, q⟩ := h
    refine ⟨_, (pss_cons (ps_set (i := 1) sc_program.nd rfl (Or.inl rfl) (pe_c c_names hr (by omega) rfl (pa_cons (pv 0) (pa_cons pe_int pa_nil))))
      (pss_cons (ps_set (i := 2) sc_program.nd rfl (Or.inl rfl) (pe_lst (pa_cons (pe_tup (pa_cons (pe_ix ix_list (pv 1) pe_int (fun _ _ => rfl)) (pa_cons pe_int pa_nil))) (pa_cons (pe_tup (pa_cons (pe_ix ix_list (pv 1) pe_int (fun _ _ => rfl)) (pa_cons pe_int pa_nil))) (pa_cons (pe_tup (pa_cons (pe_ix ix_list (pv 1) pe_int (fun _ _ => rfl)) (pa_cons pe_int pa_nil))) (pa_cons (pe_tup (pa_cons (pe_ix ix_list (pv 1) pe_int (fun _ _ => rfl)) (pa_cons (pe_c c_draw hr (by omega) rfl (pa_cons (pv 0) (pa_cons pe_int pa_nil))) pa_nil))) pa_nil))))))
      (pss_cons (ps_asg (pe_tup (pa_cons (pe_disp (pps_cons pe_str (pv 2) (pps_cons pe_str (pe_lst pa_nil) (pps_cons pe_str pe_non (pps_cons pe_str (pe_lst (pa_cons pe_int pa_nil)) pps_nil)))) (by rfl) (by rfl) (fun z => by cases z) (by decide)) (pa_cons (pe_lst pa_nil) pa_nil))) (pg_tup rfl (pgs_cons (pg_name (i := 3) sc_program.nd rfl (Or.inr rfl)) (pgs_cons (pg_name (i := 4) sc_program.nd rfl (Or.inl rfl)) pgs_nil))))
      (pss_cons (ps_for PassesOwn.never rfl (pi_range1 rfl T.z_range (pa_cons (pe_op op_add pe_int (pe_c c_draw hr (by omega) rfl (pa_cons (pv 0) (pa_cons pe_int pa_nil)))) pa_nil)) (pg_name (i := 5) sc_program.nd rfl (Or.inl rfl)) (pss_cons (ps_set (i := 6) sc_program.nd rfl (Or.inl rfl) (pe_ix ix_list (pv 1) (pe_op op_add pe_int (pv 5)) (fun _ _ => rfl)))
      (pss_cons (ps_set (i := 7) sc_program.nd rfl (Or.inr rfl) (pe_lst (pa_cons pe_str (pa_cons pe_str (pa_cons pe_str (pa_cons pe_str (pa_cons pe_str (pa_cons pe_str pa_nil))))))))
      (pss_cons (ps_set (i := 8) sc_program.nd rfl (Or.inl rfl) (pe_op op_cat (pe_lst (pa_cons pe_str pa_nil)) (pe_lc (g := (gName 9)) rfl sc_program.nd (pi_range1 rfl T.z_range (pa_cons (pe_c c_draw hr (by omega) rfl (pa_cons (pv 0) (pa_cons pe_int pa_nil))) pa_nil)) (blkOk_by (own := [("_law_turn", 9)]) (N := ["_law_deck_here", "_law_names_here", "_law_shapes", "_law_kit", "_law_found", "_law_k", "_law_name", "_law_some", "_law_places", "_law_turn", "_law_own", "_law_rows"]) (sc := defScope s_program) (by decide +kernel)) (fun _ _ _ _ _ => (pg_name (i := 9) sc_program.nd rfl (Or.inl rfl))) (fun _ _ _ _ _ => pts_nil) (fun _ _ _ _ _ => (pe_ix (ix_listK (K := K) rfl) (pv 7) (pe_c c_draw hr (by omega) rfl (pa_cons (pv 0) (pa_cons pe_int pa_nil))) (fun _ _ => rfl))))))
      (pss_cons (ps_set (i := 10) sc_program.nd rfl (Or.inr rfl) (pe_tup (pa_cons (pv 6) (pa_cons (pv 8) (pa_cons pe_int pa_nil)))))
      (pss_cons (ps_setLc (i := 11) (g := (gName 9)) rfl sc_program.nd rfl rfl (sw_true rfl rfl rfl (by decide +kernel)) (pi_range1 rfl T.z_range (pa_cons (pe_c c_draw hr (by omega) rfl (pa_cons (pv 0) (pa_cons pe_int pa_nil))) pa_nil)) (blkOk_by (own := [("_law_turn", 9)]) (N := ["_law_deck_here", "_law_names_here", "_law_shapes", "_law_kit", "_law_found", "_law_k", "_law_name", "_law_some", "_law_places", "_law_turn", "_law_own", "_law_rows"]) (sc := defScope s_program) (by decide +kernel)) (fun _ _ _ _ _ => (pg_name (i := 9) sc_program.nd rfl (Or.inl rfl))) (fun _ _ _ _ _ => pts_nil) (fun _ _ _ _ _ => (pe_cX c_row hr (by omega) rfl (pa_cons (pv 0) (pa_cons (pv 3) (pa_cons (pv 10) (pa_cons pe_bl pa_nil)))))))
      (pss_cons (ps_expr (pe_bm PySem.F.plainAttrs_list PySem.F.slot_list_append PySem.F.type_list_append mt_append (pv 4) (pa_cons (pe_tup (pa_cons (pv 6) (pa_cons (pe_callB call_len_seq (by rfl) T.z_len PySem.boot_len (pa_cons (pv 8) pa_nil)) (pa_cons (pe_callTy call_tuple_of (by rfl) T.z_tuple (by decide +kernel) (pa_cons (pe_op op_cat (pv 11) (pe_lst (pa_cons (pe_cX c_row hr (by omega) rfl (pa_cons (pv 0) (pa_cons (pv 3) (pa_cons (pv 10) (pa_cons pe_bl pa_nil))))) pa_nil))) pa_nil)) pa_nil)))) pa_nil)))
      (pss_one (ps_dput (hu_of hr) (pv 3) pe_str (pe_op op_cat (pe_dget (hu_of hr) (pv 3) pe_str (fun _ _ => rfl)) (pe_lst (pa_cons (pe_tup (pa_cons (pv 6) (pa_cons (pv 8) pa_nil))) pa_nil))) rfl)))))))))
      (pss_one (ps_ret (pe_tup (pa_cons (pv 3) (pa_cons (pe_callTy call_tuple_of (by rfl) T.z_tuple (by decide +kernel) (pa_cons (pe_callB cr_sortedT (by rfl) T.z_sorted (by decide +kernel) (pa_cons (pv 4) pa_nil)) pa_nil)) pa_nil))))))))), ?_⟩
    refine ⟨_, rfl, dk, cs, 8, rfl, dok, by decide, fun nl ns H1 k1 d1 n0l hnl hlen hnd hnm => ?_⟩
    have hx : ∀ {i : Nat} {x : Str}, ns[i]? = some x → (ns.map V.str)[i]? = some (.str x) := fun {i x} e => by rw [List.getElem?_map, e]; rfl
    have h8 : ∀ {x : Str}, x ∈ ns → ShN x := fun {x} z => ⟨by rw [TL.len_tl]; exact (hnm x z).2.1, fun c hc => by have := (hnm x z).2.2 c hc; omega⟩
    obtain ⟨n0, e0⟩ : ∃ n, ns[0]? = some n := ⟨ns[0], List.getElem?_eq_getElem (by omega)⟩
    obtain ⟨n1, e1⟩ : ∃ n, ns[1]? = some n := ⟨ns[1], List.getElem?_eq_getElem (by omega)⟩
    obtain ⟨n2, e2⟩ : ∃ n, ns[2]? = some n := ⟨ns[2], List.getElem?_eq_getElem (by omega)⟩
    obtain ⟨n3, e3⟩ : ∃ n, ns[3]? = some n := ⟨ns[3], List.getElem?_eq_getElem (by omega)⟩
    have hz2 : 2 ≤ sizeLine := by decide
    refine ⟨_, rfl, nl, _, ((0 : Nat) : Int), .str n0, rfl, rfl, .of hnl, atI_nat (hx e0), hz2, fun t0 nt0 => ?_⟩
    have k2 := Keep.new (o := .tup [.str n0, .int 0]) nt0 (Keep.refl [] H1)
    have ht0 : upd H1 t0 (.tup [.str n0, .int 0]) t0 = some (.tup [.str n0, .int 0]) := upd_same
    generalize upd H1 t0 (.tup [.str n0, .int 0]) = H2 at k2 ht0
    refine ⟨_, rfl, nl, _, ((1 : Nat) : Int), .str n1, rfl, rfl, .of (k2.at_ _ _ (by simp) hnl), atI_nat (hx e1), hz2, fun t1 nt1 => ?_⟩
    have k3 := Keep.new (o := .tup [.str n1, .int 1]) nt1 (Keep.refl [] H2)
    have ht1 : upd H2 t1 (.tup [.str n1, .int 1]) t1 = some (.tup [.str n1, .int 1]) := upd_same
    generalize upd H2 t1 (.tup [.str n1, .int 1]) = H3 at k3 ht1
    have k13 := k2.trans k3
    refine ⟨_, rfl, nl, _, ((2 : Nat) : Int), .str n2, rfl, rfl, .of (k13.at_ _ _ (by simp) hnl), atI_nat (hx e2), hz2, fun t2 nt2 => ?_⟩
    have k4 := Keep.new (o := .tup [.str n2, .int 2]) nt2 (Keep.refl [] H3)
    have ht2 : upd H3 t2 (.tup [.str n2, .int 2]) t2 = some (.tup [.str n2, .int 2]) := upd_same
    generalize upd H3 t2 (.tup [.str n2, .int 2]) = H4 at k4 ht2
    have k14 := k13.trans k4
    have d4 := d1.keep0 k14
    refine ⟨_, rfl, nl, _, ((3 : Nat) : Int), .str n3, rfl, rfl, .of (k14.at_ _ _ (by simp) hnl), atI_nat (hx e3), _, rfl, dk, cs, 4, rfl, d4, ⟨by decide, by decide⟩, fun a3 H5 ha3 k5 d5 => ⟨hz2, fun t3 nt3 => ⟨(by show 4 ≤ sizeLine; decide), fun sl nsl => ?_⟩⟩⟩
    have k6 := (Keep.new (o := .tup [.str n3, .int (a3 : Int)]) nt3 (Keep.refl [] H5)).new_ (o := .lst [.ref t0, .ref t1, .ref t2, .ref t3]) nsl
    have ht3 : upd (upd H5 t3 (.tup [.str n3, .int (a3 : Int)])) sl (.lst [.ref t0, .ref t1, .ref t2, .ref t3]) t3 = some (.tup [.str n3, .int (a3 : Int)]) := by rw [upd_ne (new_ne nsl).symm]; exact upd_same
    have hsl : upd (upd H5 t3 (.tup [.str n3, .int (a3 : Int)])) sl (.lst [.ref t0, .ref t1, .ref t2, .ref t3]) sl = some (.lst [.ref t0, .ref t1, .ref t2, .ref t3]) := upd_same
    have nslS : sl ≠ dk ∧ sl ≠ cs := d5.no (new_old nsl)
    generalize upd (upd H5 t3 (.tup [.str n3, .int (a3 : Int)])) sl (.lst [.ref t0, .ref t1, .ref t2, .ref t3]) = H6 at k6 ht3 hsl
    have d6 := d5.keep0 k6
    have k56 := k5.trans (k6.mono (S' := [dk, cs]) (by simp))
    have k06 : Keep [dk, cs] H H6 := k1.trans ((k14.mono (by simp)).trans k56)
    have nnl : nl ∉ [dk, cs] := by
      have := d1.ex
      obtain ⟨_, _, _, q1, q2, _⟩ := dok.ex
      simp only [List.mem_cons, List.not_mem_nil, or_false, not_or]
      exact ⟨fun e => (by rw [e, q1] at n0l; cases n0l), fun e => (by rw [e, q2] at n0l; cases n0l)⟩
    have hnl6 := (k14.mono (S' := [dk, cs]) (by simp)).trans k56 |>.at_ _ _ nnl hnl
    have ht0 := k56.tup _ _ (k4.tup _ _ (k3.tup _ _ ht0))
    have ht1 := k56.tup _ _ (k4.tup _ _ ht1)
    have ht2 := k56.tup _ _ ht2
    refine fun kd nkd => ?_
    refine ⟨_, rfl, by decide, fun dl ndl => ⟨(by show 1 ≤ sizeLine; decide), fun ll nll => ?_⟩⟩
    have ndk : dl ≠ kd := new_ne ndl
    have nld : ll ≠ dl := new_ne nll
    have nlk : ll ≠ kd := new_ne (new_old nll)
    have hpp : upd (upd (upd H6 kd (.dK [])) dl (.lst [])) ll (.lst [.int 0]) kd = some (.dK []) := by rw [upd_ne nlk.symm, upd_ne ndk.symm]; exact upd_same
    refine ⟨hpp, kitF sl dl .non ll, rfl, (by show 4 ≤ 15; decide), ?_⟩
    rw [kit_mk]
    refine ⟨by decide, fun fl nfl => ⟨hz2, fun tt ntt => ⟨tt, _, rfl, .of upd_same, rfl, _, _, rfl, _, _, rfl, rfl, ?_⟩⟩⟩
    have n6d : H6 dl = none := new_old ndl
    have n6l : H6 ll = none := new_old (new_old nll)
    have n6f : H6 fl = none := new_old (new_old (new_old (new_old nfl)))
    have k67 : Keep [] H6 (upd (upd (upd (upd (upd (upd H6 kd (.dK [])) dl (.lst [])) ll (.lst [.int 0])) kd (.dK (kitF sl dl .non ll))) fl (.lst [])) tt (.tup [.ref kd, .ref fl])) :=
      Keep.new ntt (Keep.new nfl (Keep.dct hpp (.inr nkd) (Keep.new nll (Keep.new ndl (Keep.new nkd (Keep.refl _ _))))))
    have nfk : fl ≠ kd := new_ne nfl
    have nfl' : fl ≠ ll := new_ne (new_old nfl)
    have nfd : fl ≠ dl := new_ne (new_old (new_old nfl))
    have ntk : tt ≠ kd := new_ne (new_old ntt)
    have ntf : tt ≠ fl := new_ne ntt
    have ntl : tt ≠ ll := new_ne (new_old (new_old ntt))
    have ntd : tt ≠ dl := new_ne (new_old (new_old (new_old ntt)))
    have hkd7 : upd (upd (upd (upd (upd (upd H6 kd (.dK [])) dl (.lst [])) ll (.lst [.int 0])) kd (.dK (kitF sl dl .non ll))) fl (.lst [])) tt (.tup [.ref kd, .ref fl]) kd = some (.dK (kitF sl dl .non ll)) := by rw [upd_ne ntk.symm, upd_ne nfk.symm]; exact upd_same
    have hfl7 : upd (upd (upd (upd (upd (upd H6 kd (.dK [])) dl (.lst [])) ll (.lst [.int 0])) kd (.dK (kitF sl dl .non ll))) fl (.lst [])) tt (.tup [.ref kd, .ref fl]) fl = some (.lst []) := by rw [upd_ne ntf.symm]; exact upd_same
    have hll7 : upd (upd (upd (upd (upd (upd H6 kd (.dK [])) dl (.lst [])) ll (.lst [.int 0])) kd (.dK (kitF sl dl .non ll))) fl (.lst [])) tt (.tup [.ref kd, .ref fl]) ll = some (.lst [.int 0]) := by rw [upd_ne ntl.symm, upd_ne nfl'.symm, upd_ne nlk]; exact upd_same
    have hdl7 : upd (upd (upd (upd (upd (upd H6 kd (.dK [])) dl (.lst [])) ll (.lst [.int 0])) kd (.dK (kitF sl dl .non ll))) fl (.lst [])) tt (.tup [.ref kd, .ref fl]) dl = some (.lst []) := by rw [upd_ne ntd.symm, upd_ne nfd.symm, upd_ne ndk, upd_ne nld.symm]; exact upd_same
    generalize upd (upd (upd (upd (upd (upd H6 kd (.dK [])) dl (.lst [])) ll (.lst [.int 0])) kd (.dK (kitF sl dl .non ll))) fl (.lst [])) tt (.tup [.ref kd, .ref fl]) = H7 at k67 hkd7 hfl7 hll7 hdl7
    have nkS := d6.no nkd
    have ndS := d6.no n6d
    have nlS := d6.no n6l
    have nfS := d6.no n6f
    have nsl6 : ∀ {x : Addr}, H6 x = none → sl ≠ x := fun {x} z e => by rw [e, z] at hsl; cases hsl
    have hnl7 := k67.at_ _ _ (by simp) hnl6
    have d7 := d6.keep0 k67
    have hne : ∀ {i j : Nat} {x y : Str}, ns[i]? = some x → ns[j]? = some y → i ≠ j → x ≠ y := fun {i j x y} a b hij e => by
      subst e
      exact hij ((List.getElem?_inj (List.getElem?_eq_some_iff.mp a).1 hnd).mp (a.trans b.symm))
    let F0 : Tab := ⟨⟨fun n => if n = n1 then 1 else if n = n2 then 2 else if n = n3 then a3 else 0, fun _ => 0⟩, fun _ => []⟩
    have G7 : GenOk K F0 H7 ⟨dk, cs, kd, ll, sl, dl, .non, [.ref t0, .ref t1, .ref t2, .ref t3], [], [(n0, 0), (n1, 1), (n2, 2), (n3, a3)]⟩ := by
      refine ⟨d7, ⟨0, hll7⟩, hkd7, k67.at_ _ _ (by simp) hsl, ?_, ⟨by simp, by show 4 ≤ 1000; decide, ?_⟩, ⟨n0, rfl⟩, hdl7, Nat.zero_le _, fun v z => (by cases z), ?_⟩
      · exact .cons (.tup (.of (k67.tup _ _ ht0)) (.cons (.str _) (.cons (.int _) .nil))) (.cons (.tup (.of (k67.tup _ _ ht1)) (.cons (.str _) (.cons (.int _) .nil))) (.cons (.tup (.of (k67.tup _ _ ht2)) (.cons (.str _) (.cons (.int _) .nil))) (.cons (.tup (.of (k67.tup _ _ ht3)) (.cons (.str _) (.cons (.int _) .nil))) .nil)))
      · intro x z
        simp only [List.mem_cons, List.not_mem_nil, or_false] at z
        have h01 := hne e0 e1 (by decide)
        have h02 := hne e0 e2 (by decide)
        have h03 := hne e0 e3 (by decide)
        have h12 := hne e1 e2 (by decide)
        have h13 := hne e1 e3 (by decide)
        have h23 := hne e2 e3 (by decide)
        rcases z with rfl | rfl | rfl | rfl
        · exact ⟨by show (if n0 = n1 then 1 else if n0 = n2 then 2 else if n0 = n3 then a3 else 0) = 0; rw [if_neg h01, if_neg h02, if_neg h03], by show 0 ≤ 3; decide, h8 (List.mem_of_getElem? e0)⟩
        · exact ⟨by show (if n1 = n1 then 1 else if n1 = n2 then 2 else if n1 = n3 then a3 else 0) = 1; rw [if_pos rfl], by show 1 ≤ 3; decide, h8 (List.mem_of_getElem? e1)⟩
        · exact ⟨by show (if n2 = n1 then 1 else if n2 = n2 then 2 else if n2 = n3 then a3 else 0) = 2; rw [if_neg h12.symm, if_pos rfl], by show 2 ≤ 3; decide, h8 (List.mem_of_getElem? e2)⟩
        · exact ⟨by show (if n3 = n1 then 1 else if n3 = n2 then 2 else if n3 = n3 then a3 else 0) = a3; rw [if_neg h13.symm, if_neg h23.symm, if_pos rfl], by show a3 ≤ 3; omega, h8 (List.mem_of_getElem? e3)⟩
      · simp only [GenD.S, List.mem_cons, List.not_mem_nil, or_false, not_or]
        exact ⟨⟨⟨nkS.1, nkS.2, nlk.symm⟩, ⟨nslS.1, nslS.2, nsl6 n6l⟩, ndS.1, ndS.2, nld.symm⟩, nlS.1, nlS.2⟩
    have P7 : PF F0 [] := by
      refine ⟨fun n => ?_, fun n => Nat.zero_le _, fun n z => absurd rfl z, fun d z => (by cases z)⟩
      show (if n = n1 then 1 else if n = n2 then 2 else if n = n3 then a3 else 0) ≤ 3
      split
      · decide
      · split
        · decide
        · split
          · omega
          · decide
    refine ⟨_, rfl, dk, cs, 4, rfl, d7, ⟨by decide, by decide⟩, fun cnt H8 hcnt k8 d8 => ⟨_, _, rfl, rfl, ((1 + cnt : Nat) : Int), by rw [Int.natCast_add]; rfl, by omega, by omega, ?_⟩⟩
    have G8 := G7.keepD k8 d8
    have k68 := (k67.mono (S' := [dk, cs]) (by simp)).trans k8
    have hfl8 := k8.at_ _ _ (by simp [nfS]) hfl7
    have hnl8 := k8.at_ _ _ nnl hnl7
    have n6t : nl ≠ kd := fun e => by rw [e, nkd] at hnl6; cases hnl6
    have n6u : nl ≠ fl := fun e => by rw [e, n6f] at hnl6; cases hnl6
    clear_value F0
    refine for_it (walk_range (n := 1 + cnt)) (fun i σ H' => ∃ (o5 o6 o7 o8 o9 o10 o11 : Option V) (F : Tab) (dl : Addr) (ds : List V) (gg : List Df) (fv : List V), σ = [some (.ref dk), some (.ref nl), some (.ref sl), some (.ref kd), some (.ref fl), o5, o6, o7, o8, o9, o10, o11] ∧ Keep [dk, cs, kd, fl] H8 H' ∧ GenOk K F H' ⟨dk, cs, kd, ll, sl, dl, .non, [.ref t0, .ref t1, .ref t2, .ref t3], ds, [(n0, 0), (n1, 1), (n2, 2), (n3, a3)]⟩ ∧ H' fl = some (.lst fv) ∧ AtL K H' fv (gg.map encD) ∧ HdsAt H' fv gg ∧ PF F gg ∧ gg.map (·.name) = (ns.drop 4).take i ∧ (fl ≠ ll ∧ kd ≠ fl ∧ ds.length ≤ i) ∧ dl ≠ fl ∧ ∀ v ∈ ds, DoneAt K F H' [dk, cs, ll, fl, kd] v)
      ⟨none, none, none, none, none, none, none, F0, dl, [], [], [], rfl, Keep.refl _ _, G8, hfl8, .nil, trivial, P7, rfl, ⟨nfl', nfk.symm, Nat.zero_le _⟩, nfd.symm, fun v z => (by cases z)⟩ (fun _ _ _ _ _ => trivial) (fun i v σ H9 H10 hi ⟨o5, o6, o7, o8, o9, o10, o11, F, dl, ds, gg, fv, e, k9, G9, hfl9, hfv9, htl9, P9, hnm9, ⟨nfll, nkfl, hdsl⟩, ndlf, hdone9⟩ yy => ?_) (fun σ H9 ⟨o5, o6, o7, o8, o9, o10, o11, F, dl, ds, gg, fv, e, k9, G9, hfl9, hfv9, htl9, P9, hnm9, ⟨nfll, nkfl, hdsl⟩, ndlf, hdone9⟩ => ?_)
    · subst e
      obtain ⟨rfl, rfl⟩ := yy
      have hi4 : i < 4 := by omega
      have k68a : Keep [dk, cs, kd, fl] H6 H10 := (k68.mono (by intro b z; simp only [List.mem_cons, List.not_mem_nil, or_false] at z ⊢; rcases z with z | z <;> simp [z])).trans k9
      have nnl4 : nl ∉ [dk, cs, kd, fl] := by
        simp only [List.mem_cons, List.not_mem_nil, or_false, not_or] at nnl ⊢
        exact ⟨nnl.1, nnl.2, n6t, n6u⟩
      have hnl9 := k9.at_ _ _ nnl4 hnl8
      obtain ⟨nm, enm⟩ : ∃ n, ns[4 + i]? = some n := ⟨ns[4 + i], List.getElem?_eq_getElem (by omega)⟩
      refine ⟨_, rfl, _, rfl, _, _, rfl, rfl, nl, _, ((4 + i : Nat) : Int), .str nm, rfl, congrArg V.int (by omega), .of hnl9, atI_nat (hx enm), ?_⟩
      refine ⟨(by show 6 ≤ sizeLine; decide), fun so nso => ?_⟩
      have ka := Keep.new (o := .lst [.str "data", .str "data", .str "data", .str "fun", .str "wait", .str "dull"]) nso (Keep.refl [] H10)
      have hso : upd H10 so (.lst [.str "data", .str "data", .str "data", .str "fun", .str "wait", .str "dull"]) so = some (.lst (kVs [.data, .data, .data, .fn, .wait, .dull])) := upd_same
      have nsoS := G9.deck.no nso
      generalize upd H10 so (.lst [.str "data", .str "data", .str "data", .str "fun", .str "wait", .str "dull"]) = Ha at ka hso
      refine ⟨(by show 1 ≤ sizeLine; decide), fun pd npd => ?_⟩
      have kb := Keep.new (o := .lst [.str "data"]) npd (Keep.refl [] Ha)
      have hpd : upd Ha pd (.lst [.str "data"]) pd = some (.lst [.str "data"]) := upd_same
      have npdS := (G9.deck.keep0 ka).no npd
      generalize upd Ha pd (.lst [.str "data"]) = Hb at kb hpd
      have kab := ka.trans kb
      have hso := kb.at_ _ _ (by simp) hso
      refine ⟨_, rfl, dk, cs, 4, rfl, G9.deck.keep0 kab, ⟨by decide, by decide⟩, fun pc Hc hpc kc dc => ⟨(pc : Int), rfl, by omega, by omega, fun D nD => lc_dr (walk_range (n := pc)) [dk, cs] (fun j ys H => DeckOk H dk cs ∧ ∃ κs : List Kd, ys = kVs κs) (Nat.le_trans (show pc ≤ 4 by omega) (by decide)) nD dc.there (fun H k => ⟨dc.keep0 k, [], rfl⟩) (fun _ _ => trivial) (fun j x Hd He ys Qn F' hj kd' hDd hl hp y1 hQ => ?_) (fun ys Hd kd' hD hl hp => ?_)⟩⟩
      · obtain ⟨rfl, rfl⟩ := y1
        obtain ⟨dd, κs, rfl⟩ := hp
        refine ⟨rfl, tyes ?_⟩
        have hso2 := (kc.trans kd').at_ _ _ (by simp [nsoS]) hso
        refine ⟨_, rfl, _, rfl, dk, cs, 6, rfl, dd, ⟨by decide, by decide⟩, fun x Hf hx6 kf df => ?_⟩
        obtain ⟨κ, eκ⟩ : ∃ κ, [Kd.data, .data, .data, .fn, .wait, .dull][x]? = some κ := ⟨_, List.getElem?_eq_getElem hx6⟩
        have nDk := dc.no nD
        refine ⟨so, _, (x : Int), .str (kS κ), rfl, rfl, .of (kf.at_ _ _ (by simp [nsoS]) hso2), atI_nat (by rw [kVs, List.getElem?_map, eκ]; rfl), ?_⟩
        exact hQ _ _ kf fun H6 k6 => ⟨df.keep k6 (by simp [nDk.1.symm]) (by simp [nDk.2.symm]), κs ++ [κ], by simp only [kVs, List.map_append, List.map_cons, List.map_nil]⟩
      · obtain ⟨dd, κs, rfl⟩ := hp
        have hκl : κs.length = pc := by rw [kVs, List.length_map] at hl; exact hl
        have kcd := kc.trans kd'
        have hpd' := kcd.at_ _ _ (by simp [npdS]) hpd
        have hz10 : 10 ≤ sizeLine := by decide
        refine ⟨pd, D, _, _, rfl, rfl, hpd', hD, by rw [kVs, List.length_map, List.length_singleton]; omega, fun plc nplc => ?_⟩
        have ke := Keep.new (o := .lst ([.str "data"] ++ kVs κs)) nplc (Keep.refl [] Hd)
        have hplc : upd Hd plc (.lst ([.str "data"] ++ kVs κs)) plc = some (.lst (kVs (.data :: κs))) := upd_same
        have nplS := dd.no nplc
        generalize upd Hd plc (.lst ([.str "data"] ++ kVs κs)) = He at ke hplc
        refine ⟨_, rfl, _, rfl, (by show 3 ≤ sizeLine; decide), fun ot not => ?_⟩
        have kf := Keep.new (o := .tup [.str nm, .ref plc, .int 0]) not (Keep.refl [] He)
        have hot : upd He ot (.tup [.str nm, .ref plc, .int 0]) ot = some (.tup [.str nm, .ref plc, .int 0]) := upd_same
        generalize upd He ot (.tup [.str nm, .ref plc, .int 0]) = Hf at kf hot
        have kef := ke.trans kf
        have hplc := kf.at_ _ _ (by simp) hplc
        have k9f : Keep [dk, cs] H10 Hf := (kab.mono (by simp)).trans (kcd.trans (kef.mono (by simp)))
        have Gf : GenOk K F Hf ⟨dk, cs, kd, ll, sl, dl, .non, [.ref t0, .ref t1, .ref t2, .ref t3], ds, [(n0, 0), (n1, 1), (n2, 2), (n3, a3)]⟩ := G9.keepD k9f (dd.keep0 kef)
        have hFn : F.fn nm = [] := by
          cases hf : F.fn nm with
          | nil => rfl
          | cons a b =>
            obtain ⟨d, hd, e⟩ := P9.rev nm (by rw [hf]; simp)
            have h1 : d.name ∈ gg.map (·.name) := List.mem_map.mpr ⟨d, hd, rfl⟩
            rw [hnm9, e] at h1
            obtain ⟨j, ej⟩ := List.getElem?_of_mem h1
            rw [List.getElem?_take] at ej
            split at ej
            · next hji =>
              rw [List.getElem?_drop] at ej
              exact absurd rfl (hne ej enm (by omega))
            · cases ej
        have le := Tab.more_le (κs := .data :: κs) hFn
        have efn := Tab.more_fn F nm (.data :: κs)
        have eca := Tab.more_ca F nm (.data :: κs)
        have G' := Gf.le le
        generalize hF' : F.more nm (.data :: κs) = F' at le efn eca G'
        have hllf := Gf.left
        obtain ⟨cl, hllf⟩ := hllf
        have hplS : plc ∉ [dk, cs, ll] := by
          simp only [List.mem_cons, List.not_mem_nil, or_false, not_or]
          refine ⟨nplS.1, nplS.2, fun e => ?_⟩
          obtain ⟨c9, h9⟩ := G9.left
          have := ((kab.mono (S' := [dk, cs]) (by simp)).trans kcd).at_ _ _ (by simp [nlS]) h9
          rw [← e, nplc] at this
          cases this
        refine ⟨_, rfl, dk, cs, 4, rfl, Gf.deck, ⟨by decide, by decide⟩, fun rc Hg hrc kg dg => ⟨(rc : Int), rfl, by omega, by omega, fun D2 nD2 => lc_dr (walk_range (n := rc)) [dk, cs] (fun j ys H => GenOk K F' H ⟨dk, cs, kd, ll, sl, dl, .non, [.ref t0, .ref t1, .ref t2, .ref t3], ds, [(n0, 0), (n1, 1), (n2, 2), (n3, a3)]⟩ ∧ ∃ rs : List Rw, AtL K H ys (rs.map encR) ∧ rs.length = j ∧ ∀ r ∈ rs, RowOk F' (.data :: κs) r) (Nat.le_trans (show rc ≤ 4 by omega) (by decide)) nD2 dg.there (fun H k => ⟨(G'.keepD kg dg).keep0 k, [], .nil, rfl, fun r z => by cases z⟩) (fun _ _ => trivial) (fun j x Hh Hi ys Qn F2 hj kh hDh hlh hp y1 hQ => ?_) (fun ys Hh kh hD2 hlh hp => ?_)⟩⟩
        · obtain ⟨rfl, rfl⟩ := y1
          obtain ⟨Gh, rs, hys, hrl, hrs⟩ := hp
          refine ⟨rfl, tyes ?_⟩
          have kgh := kg.trans kh
          refine ⟨_, rfl, _, rfl, _, rfl, F', ⟨dk, cs, kd, ll, sl, dl, .non, [.ref t0, .ref t1, .ref t2, .ref t3], ds, [(n0, 0), (n1, 1), (n2, 2), (n3, a3)]⟩, ot, plc, nm, false, rfl, Gh, .of (kgh.tup _ _ hot), by rw [efn]; exact kgh.at_ _ _ (by simp [nplS]) hplc, hplS, by rw [efn]; rfl, by rw [efn, List.length_cons]; omega, by rw [efn, eca], fun r v Hi hr ki di ai => ?_⟩
          rw [efn] at hr
          have nDk := dg.no nD2
          refine hQ _ _ ki fun Hj kj => ⟨?_, rs ++ [r], ?_, by simp [hrl], fun r' z => ?_⟩
          · have kk : Keep [dk, cs] Hg Hj := (kh.trans ki).call0' kj nD2
            exact (G'.keepD kg dg).keepD kk (di.keep kj (by simp [nDk.1.symm]) (by simp [nDk.2.symm]))
          · rw [List.map_append]
            exact ((hys.keep ki).keep kj).append (.cons (ai.keep kj) .nil)
          · rcases List.mem_append.mp z with z | z
            · exact hrs r' z
            · rw [List.mem_singleton.mp z]
              exact hr
        · obtain ⟨Gh, rs, hys, hrl, hrs⟩ := hp
          have kgh := kg.trans kh
          have k9h := k9f.trans kgh
          have nfl2 : fl ∉ [dk, cs] := by simp [nfS]
          have hflh := k9h.at_ _ _ nfl2 hfl9
          have hplh := kgh.at_ _ _ (by simp [nplS]) hplc
          have hoth := kgh.tup _ _ hot
          refine ⟨_, rfl, .inl ⟨rfl, _, .of hflh⟩, _, rfl, _, rfl, plc, _, rfl, .inl (.of hplh), _, rfl, _, rfl, _, rfl, _, rfl, F', ⟨dk, cs, kd, ll, sl, dl, .non, [.ref t0, .ref t1, .ref t2, .ref t3], ds, [(n0, 0), (n1, 1), (n2, 2), (n3, a3)]⟩, ot, plc, nm, true, rfl, Gh, .of hoth, by rw [efn]; exact hplh, hplS, by rw [efn]; rfl, by rw [efn, List.length_cons]; omega, by rw [efn, eca], fun r v Hi hr ki di ai => ?_⟩
          rw [efn] at hr
          have Gi := Gh.keepD ki di
          have k9i := k9h.trans ki
          refine ⟨(by show 1 ≤ sizeLine; decide), fun l1 nl1 => ?_⟩
          have kj := Keep.new (o := .lst [v]) nl1 (Keep.refl [] Hi)
          have hl1 : upd Hi l1 (.lst [v]) l1 = some (.lst [v]) := upd_same
          generalize upd Hi l1 (.lst [v]) = Hj at kj hl1
          have hD2S := dg.no nD2
          have hD2j := kj.at_ _ _ (by simp) (ki.at_ _ _ (by simp [hD2S]) hD2)
          have hysl := hys.length
          rw [List.length_map, hrl] at hysl
          refine ⟨D2, l1, _, _, rfl, rfl, hD2j, hl1, by rw [List.length_singleton]; omega, fun l2 nl2 => ?_⟩
          have kk := Keep.new (o := .lst (ys ++ [v])) nl2 (Keep.refl [] Hj)
          refine ⟨l2, _, rfl, .inl ⟨.of upd_same, fun u nu => ⟨(by show 3 ≤ sizeLine; decide), fun r3 nr3 => ?_⟩⟩⟩
          have kl := (kk.new_ (o := .tup (ys ++ [v])) nu).new_ (o := .tup [.str nm, .int ((kVs (.data :: κs)).length : Int), .ref u]) nr3
          have hu : upd (upd (upd Hj l2 (.lst (ys ++ [v]))) u (.tup (ys ++ [v]))) r3 (.tup [.str nm, .int ((kVs (.data :: κs)).length : Int), .ref u]) u = some (.tup (ys ++ [v])) := by rw [upd_ne (new_ne nr3).symm]; exact upd_same
          have hr3 : upd (upd (upd Hj l2 (.lst (ys ++ [v]))) u (.tup (ys ++ [v]))) r3 (.tup [.str nm, .int ((kVs (.data :: κs)).length : Int), .ref u]) r3 = some (.tup [.str nm, .int ((kVs (.data :: κs)).length : Int), .ref u]) := upd_same
          generalize upd (upd (upd Hj l2 (.lst (ys ++ [v]))) u (.tup (ys ++ [v]))) r3 (.tup [.str nm, .int ((kVs (.data :: κs)).length : Int), .ref u]) = Hk at kl hu hr3
          have kil := kj.trans kl
          have Gk := Gi.keep0 kil
          have hflk := kil.at_ _ _ (by simp) (ki.at_ _ _ nfl2 hflh)
          have hfvl := hfv9.length
          have hggl : gg.length = i := by
            have := congrArg List.length hnm9
            rw [List.length_map, List.length_take, List.length_drop, hlen] at this
            omega
          rw [List.length_map, hggl] at hfvl
          refine ⟨fl, _, _, rfl, rfl, hflk, by omega, ?_⟩
          have km : Keep [fl] Hk (upd Hk fl (.lst (fv ++ [.ref r3]))) := Keep.lst hflk (.inl (by simp)) (Keep.refl _ _)
          have hflm : upd Hk fl (.lst (fv ++ [.ref r3])) fl = some (.lst (fv ++ [.ref r3])) := upd_same
          generalize upd Hk fl (.lst (fv ++ [.ref r3])) = Hm at km hflm
          have hkdm := km.at_ _ _ (by simp [nkfl]) Gk.kit
          have k9k : Keep [dk, cs] H10 Hk := k9i.trans (kil.mono (by simp))
          have nfS3 : fl ≠ dk ∧ fl ≠ cs ∧ fl ≠ ll := ⟨nfS.1, nfS.2, nfll⟩
          have kS5 : Keep [dk, cs, ll, fl, kd] H10 Hm := (k9k.mono (by intro b z; simp only [List.mem_cons, List.not_mem_nil, or_false] at z ⊢; rcases z with z | z <;> simp [z])).trans (km.mono (by intro b z; rw [List.mem_singleton.mp z]; simp))
          have hdonem : ∀ v ∈ ds, DoneAt K F' Hm [dk, cs, ll, fl, kd] v := fun v z => ((hdone9 v z).keep kS5).le le
          have hdlm := km.at_ _ _ (by simp [ndlf]) Gk.doneH
          have hllm := Gk.left.keep km (by simp [nfS3.2.2.symm])
          have dm := Gk.deck.keep km (by simp [nfS3.1.symm]) (by simp [nfS3.2.1.symm])
          have hslm := km.at_ _ _ (by simp [nsl6 n6f]) Gk.shH
          have hshm := Gk.shs.keep km
          refine ⟨_, rfl, kd, _, rfl, kit_gdone hkdm, _, rfl, _, rfl, hz2, fun t4 nt4 => ⟨(by show 1 ≤ sizeLine; decide), fun l3 nl3 => ?_⟩⟩
          have kn := (Keep.new (o := .tup [.str nm, .ref plc]) nt4 (Keep.refl [] Hm)).new_ (o := .lst [.ref t4]) nl3
          have ht4 : upd (upd Hm t4 (.tup [.str nm, .ref plc])) l3 (.lst [.ref t4]) t4 = some (.tup [.str nm, .ref plc]) := by rw [upd_ne (new_ne nl3).symm]; exact upd_same
          have hl3 : upd (upd Hm t4 (.tup [.str nm, .ref plc])) l3 (.lst [.ref t4]) l3 = some (.lst [.ref t4]) := upd_same
          generalize upd (upd Hm t4 (.tup [.str nm, .ref plc])) l3 (.lst [.ref t4]) = Hn at kn ht4 hl3
          refine ⟨dl, l3, ds, _, rfl, rfl, kn.at_ _ _ (by simp) hdlm, hl3, by rw [List.length_singleton]; omega, fun d2 nd2 => ?_⟩
          have ko := Keep.new (o := .lst (ds ++ [.ref t4])) nd2 (Keep.refl [] Hn)
          have hd2 : upd Hn d2 (.lst (ds ++ [.ref t4])) d2 = some (.lst (ds ++ [.ref t4])) := upd_same
          have nmd : Hm d2 = none := kn.free nd2
          generalize upd Hn d2 (.lst (ds ++ [.ref t4])) = Ho at ko hd2
          have kmo := kn.trans ko
          have hkdo := kmo.at_ _ _ (by simp) hkdm
          refine ⟨_, rfl, kd, _, rfl, kit_pdone hkdo, ?_⟩
          have kp : Keep [kd] Ho (upd Ho kd (.dK (kitF sl d2 .non ll))) := Keep.dct hkdo (.inl (by simp)) (Keep.refl _ _)
          have hkdp : upd Ho kd (.dK (kitF sl d2 .non ll)) kd = some (.dK (kitF sl d2 .non ll)) := upd_same
          generalize upd Ho kd (.dK (kitF sl d2 .non ll)) = Hp at kp hkdp
          have kmp : Keep [kd] Hm Hp := (kmo.mono (by simp)).trans kp
          have k5p : Keep [dk, cs, ll, fl, kd] Hm Hp := kmp.mono (by intro b z; rw [List.mem_singleton.mp z]; simp)
          have nmx : ∀ {x : Addr} {o : HO}, Hm x = some o → x ≠ d2 := fun {x o} h e => by rw [e, nmd] at h; cases h
          obtain ⟨cm, hllm'⟩ := id hllm
          obtain ⟨q1, q2, q3, q4, q5, _⟩ := dm.ex
          have nd2k : d2 ≠ kd := (nmx hkdm).symm
          have nd2l : d2 ≠ ll := (nmx hllm').symm
          have hplm := km.at_ _ _ (by
            simp only [List.mem_singleton]
            intro e
            have := ((kab.mono (S' := [dk, cs]) (by simp)).trans kcd).at_ _ _ nfl2 hfl9
            rw [← e, nplc] at this
            cases this) (kil.at_ _ _ (by simp) (ki.at_ _ _ (by simp [nplS]) hplh))
          have hpl5 : plc ∉ [dk, cs, ll, fl, kd] := by
            simp only [List.mem_cons, List.not_mem_nil, or_false, not_or] at hplS ⊢
            refine ⟨hplS.1, hplS.2.1, hplS.2.2, fun e => ?_, fun e => ?_⟩
            · have := ((kab.mono (S' := [dk, cs]) (by simp)).trans kcd).at_ _ _ nfl2 hfl9
              rw [← e, nplc] at this
              cases this
            · have := ((kab.mono (S' := [dk, cs]) (by simp)).trans kcd).at_ _ _ (by simp [nkS]) G9.kit
              rw [← e, nplc] at this
              cases this
          have hdonep : ∀ v ∈ ds ++ [V.ref t4], DoneAt K F' Hp [dk, cs, ll, fl, kd] v := fun v z => by
            rcases List.mem_append.mp z with z | z
            · exact (hdonem v z).keep k5p
            · rw [List.mem_singleton.mp z]
              refine ⟨t4, plc, nm, rfl, .of (kp.tup _ _ (ko.tup _ _ ht4)), ?_, hpl5, by rw [efn]; simp, by rw [efn, List.length_cons]; omega, by rw [efn, eca]⟩
              rw [efn]
              refine kmp.at_ _ _ ?_ hplm
              simp only [List.mem_cons, List.not_mem_nil, or_false, not_or] at hpl5 ⊢
              exact hpl5.2.2.2.2
          have Gp : GenOk K F' Hp ⟨dk, cs, kd, ll, sl, d2, .non, [.ref t0, .ref t1, .ref t2, .ref t3], ds ++ [.ref t4], [(n0, 0), (n1, 1), (n2, 2), (n3, a3)]⟩ := by
            have hap := Gk.ap
            simp only [GenD.S, List.mem_cons, List.not_mem_nil, or_false, not_or] at hap
            refine ⟨dm.keep kmp (by simp [nkS.1.symm]) (by simp [nkS.2.symm]), hllm.keep kmp (by simp [Ne.symm hap.1.1.2.2]), hkdp, kmp.at_ _ _ (by simp [nsl6 nkd]) hslm, hshm.keep kmp, Gk.shok, Gk.zero, kp.at_ _ _ (by simp [nd2k]) hd2, by simp only [List.length_append, List.length_singleton]; omega, fun v z => ?_, ?_⟩
            · obtain ⟨t', pl', n', e, h1, h2, h3, h4⟩ := hdonep v z
              refine ⟨t', pl', n', e, h1, h2, ?_, h4⟩
              simp only [GenD.S, List.mem_cons, List.not_mem_nil, or_false, not_or] at h3 ⊢
              exact ⟨h3.1, h3.2.1, h3.2.2.1⟩
            · simp only [GenD.S, List.mem_cons, List.not_mem_nil, or_false, not_or]
              exact ⟨⟨hap.1.1, hap.1.2.1, (nmx q4).symm, (nmx q5).symm, nd2l⟩, hap.2⟩
          have k8p : Keep [dk, cs, kd, fl] H8 Hp := k9.trans ((k9k.mono (by intro b z; simp only [List.mem_cons, List.not_mem_nil, or_false] at z ⊢; rcases z with z | z <;> simp [z])).trans ((km.mono (by intro b z; rw [List.mem_singleton.mp z]; simp)).trans (kmp.mono (by intro b z; rw [List.mem_singleton.mp z]; simp))))
          have khk : Keep [dk, cs] Hh Hk := ki.trans (kil.mono (by simp))
          refine ⟨_, _, _, _, _, _, _, F', d2, ds ++ [.ref t4], gg ++ [⟨nm, κs.length + 1, rs ++ [r]⟩], fv ++ [.ref r3], rfl, k8p, Gp, kmp.at_ _ _ (by simp [nkfl.symm]) hflm, ?_, ?_, ?_, ?_, ⟨nfll, nkfl, by simp only [List.length_append, List.length_singleton]; omega⟩, (nmx hflm).symm, hdonep⟩
          · rw [List.map_append]
            refine (((hfv9.keep k9k).keep km).keep kmp).append (.cons ?_ .nil)
            have el : ((kVs (.data :: κs)).length : Int) = ((κs.length + 1 : Nat) : Int) := by rw [kVs, List.length_map, List.length_cons]
            rw [el] at hr3
            refine .tup (.of (kmp.tup _ _ (km.tup _ _ hr3))) (.cons (.str _) (.cons (.int _) (.cons (.tup (.of (kmp.tup _ _ (km.tup _ _ hu))) ?_) .nil)))
            rw [List.map_append]
            exact ((((hys.keep ki).append (.cons ai .nil)).keep kil).keep km).keep kmp
          · exact (((htl9.keep k9k).keep km).keep kmp).snoc ⟨r3, _, rfl, kmp.tup _ _ (km.tup _ _ hr3)⟩
          · rw [← hF']
            refine P9.more hFn (by simp) (by rw [List.length_cons]; omega) rfl (by rw [List.length_cons]) (by simp only [List.length_append, List.length_singleton]; omega) (fun r' z => ?_)
            rw [hF']
            rcases List.mem_append.mp z with z | z
            · exact hrs r' z
            · rw [List.mem_singleton.mp z]
              exact hr
          · rw [List.map_append, hnm9, take_snoc (show (ns.drop 4)[i]? = some nm by rw [List.getElem?_drop]; exact enm)]
            rfl
    · subst e
      have hl4 : gg.length = min (1 + cnt) 4 := by
        have := congrArg List.length hnm9
        rw [List.length_map, List.length_take, List.length_drop, hlen] at this
        exact this
      have hfvl := hfv9.length
      rw [List.length_map] at hfvl
      have hnn : (gg.map (·.name)).Nodup := by
        rw [hnm9]
        exact ((List.take_sublist _ _).trans (List.drop_sublist _ _)).nodup hnd
      refine ⟨_, rfl, _, rfl, fl, fv, headS H9, rfl, .of hfl9, fun x z => ?_, fun x zx y zy e => ?_, fun ys p hp np => ?_⟩
      · obtain ⟨j, ej⟩ := List.getElem?_of_mem z
        obtain ⟨d, t, r, _, rfl, ht⟩ := htl9.get ej
        exact ⟨t, r, rfl, by rw [headS_of ht]; exact ht⟩
      · obtain ⟨j, ej⟩ := List.getElem?_of_mem zx
        obtain ⟨j', ej'⟩ := List.getElem?_of_mem zy
        obtain ⟨d, t, r, ed, rfl, ht⟩ := htl9.get ej
        obtain ⟨d', t', r', ed', rfl, ht'⟩ := htl9.get ej'
        rw [headS_of ht, headS_of ht'] at e
        have e1 : (gg.map (·.name))[j]? = (gg.map (·.name))[j']? := by
          rw [List.getElem?_map, List.getElem?_map, ed, ed']
          exact congrArg some e
        have e2 := (List.getElem?_inj (by rw [List.length_map]; exact (List.getElem?_eq_some_iff.mp ed).1) hnn).mp e1
        subst e2
        rw [ej] at ej'
        exact Option.some.inj ej'
      · have kp := Keep.new (o := .lst ys) np (Keep.refl [] H9)
        obtain ⟨gg', pg, hys⟩ := AtL.perm hp hfv9
        refine ⟨p, ys, rfl, .inl ⟨.of upd_same, fun u nu => ⟨hz2, fun r nr => ?_⟩⟩⟩
        have ku := kp.new_ (o := .tup ys) nu
        have kr := ku.new_ (o := .tup [.ref kd, .ref u]) nr
        have hu : upd (upd (upd H9 p (.lst ys)) u (.tup ys)) r (.tup [.ref kd, .ref u]) u = some (.tup ys) := by rw [upd_ne (new_ne nr).symm]; exact upd_same
        have k69 : Keep [dk, cs] H6 H9 := k9.call (fun b z => by
          simp only [List.mem_cons, List.not_mem_nil, or_false] at z ⊢
          rcases z with z | z | z | z
          · exact .inl (.inl z)
          · exact .inl (.inr z)
          · exact .inr (z ▸ nkd)
          · exact .inr (z ▸ n6f)) k68
        refine q ⟨dk, cs, kd, ll, sl, dl, .non, [.ref t0, .ref t1, .ref t2, .ref t3], ds, [(n0, 0), (n1, 1), (n2, 2), (n3, a3)]⟩ F gg' r _ _ rfl rfl rfl (k06.trans (k69.trans (kr.mono (by simp)))) (G9.keep0 kr) upd_same (.tup (.of hu) (hys.keep kr)) (P9.perm pg) ?_ ?_ ?_
        · rw [pg.length_eq]
          omega
        · exact (pg.map _).nodup_iff.mpr hnn
        · intro d z
          have : d.name ∈ gg.map (·.name) := List.mem_map.mpr ⟨d, pg.mem_iff.mp z, rfl⟩
          rw [hnm9] at this
          exact hnm _ (List.mem_of_mem_drop (List.mem_of_mem_take this))
end
end K46
/-! K46Q1 -/
set_option maxHeartbeats 4000000
namespace K46
open PySem PySem.Spec PyProof.Rows L2 C8
section
variable {F : Tab}
/-! ### kinds tell the plain conditions -/
mutual
theorem PatK.toS : ∀ (p : Pat) (κ : Kd) (α : List Kd), PatK F p κ α → PatS F.S p
  | .take, _, _, _ => trivial
  | .pass, _, _, _ => trivial
  | .shape n ps, κ, α, h => ⟨h.2.1, PatsK.toS ps _ α h.2.2⟩
theorem PatsK.toS : ∀ (ps : List Pat) (κs : List Kd) (α : List Kd), PatsK F ps κs α → PatsS F.S ps
  | [], [], _, _ => trivial
  | p :: ps, κ :: κs, α, h => by
    obtain ⟨a, b, e, h1, h2⟩ := h
    exact ⟨PatK.toS p κ a h1, PatsK.toS ps κs b h2⟩
  | [], _ :: _, _, h => h.elim
  | _ :: _, [], _, h => h.elim
end
theorem PatsK.len : ∀ {ps : List Pat} {κs α : List Kd}, PatsK F ps κs α → ps.length = κs.length
  | [], [], _, _ => rfl
  | p :: ps, κ :: κs, α, h => by
    obtain ⟨a, b, e, h1, h2⟩ := h
    exact congrArg Nat.succ (PatsK.len h2)
  | [], _ :: _, _, h => h.elim
  | _ :: _, [], _, h => h.elim
mutual
theorem HasK.toS : ∀ (t : Tm) (Γ : List Kd) (κ : Kd), HasK F Γ t κ → TmS F.S t
  | .at i, Γ, κ, h => trivial
  | .clo true b, Γ, κ, h => HasK.toS b _ _ h.2.2.2
  | .clo false b, Γ, κ, h => HasK.toS b _ _ h.2.2.2
  | .nd (.shape n) ts, Γ, κ, h => ⟨h.2.1.1, HasKs.toS ts _ _ h.2.2⟩
  | .nd (.call n) ts, Γ, κ, h => ⟨h.2.1, HasKs.toS ts _ _ h.2.2.2⟩
  | .nd .give ts, Γ, κ, h => HasKs.toS ts _ _ h.2
  | .nd .go ts, Γ, κ, h => HasKs.toS ts _ _ h.2
  | .nd .dull ts, Γ, κ, h => by
    obtain ⟨_, rfl⟩ := h
    exact trivial
theorem HasKs.toS : ∀ (ts : List Tm) (Γ κs : List Kd), HasKs F Γ ts κs → TmsS F.S ts
  | [], _, [], _ => trivial
  | t :: ts, Γ, κ :: κs, h => ⟨HasK.toS t Γ κ h.1, HasKs.toS ts Γ κs h.2⟩
  | [], _, _ :: _, h => h.elim
  | _ :: _, _, [], h => h.elim
end
mutual
theorem HasK.ok : ∀ (t : Tm) (Γ : List Kd) (κ : Kd), HasK F Γ t κ → TmOk Γ.length t
  | .at i, Γ, κ, h => h.1
  | .clo true b, Γ, κ, h => by
    have := HasK.ok b _ _ h.2.2.2
    rw [List.length_append] at this
    exact this
  | .clo false b, Γ, κ, h => HasK.ok b _ _ h.2.2.2
  | .nd (.shape n) ts, Γ, κ, h => HasKs.ok ts _ _ h.2.2
  | .nd (.call n) ts, Γ, κ, h => HasKs.ok ts _ _ h.2.2.2
  | .nd .give ts, Γ, κ, h => HasKs.ok ts _ _ h.2
  | .nd .go ts, Γ, κ, h => HasKs.ok ts _ _ h.2
  | .nd .dull ts, Γ, κ, h => by
    obtain ⟨_, rfl⟩ := h
    exact trivial
theorem HasKs.ok : ∀ (ts : List Tm) (Γ κs : List Kd), HasKs F Γ ts κs → TmsOk Γ.length ts
  | [], _, [], _ => trivial
  | t :: ts, Γ, κ :: κs, h => ⟨HasK.ok t Γ κ h.1, HasKs.ok ts Γ κs h.2⟩
  | [], _, _ :: _, h => h.elim
  | _ :: _, _, [], h => h.elim
end
end
mutual
theorem asksIn_takes : ∀ (p : Pat) (pl kn : Nat), (asksIn p pl kn).2.1.length = ptk p
  | .take, _, _ => rfl
  | .pass, _, _ => rfl
  | .shape n ps, pl, kn => asksL_takes ps _ _
theorem asksL_takes : ∀ (ps : List Pat) (pl kn : Nat), (asksL ps pl kn).2.1.length = ptkL ps
  | [], _, _ => rfl
  | p :: ps, pl, kn => by
    simp only [asksL, List.length_append, asksIn_takes p, asksL_takes ps, ptkL]
end
theorem RowOk.rw {F : Tab} {κs : List Kd} {r : Rw} (h : RowOk F κs r) (hl : κs.length ≤ 4) : RwOk κs.length r ∧ RwFit 6400 κs.length r ∧ r.ps.length = κs.length ∧ PatsS F.S r.ps ∧ TmS F.S r.body := by
  obtain ⟨α, h1, h2, h3, h4, h5⟩ := h
  have ha := PatsK.length _ _ _ h1
  have hk := h2.k.ok
  have hs := h2.s
  have hc := h2.c
  have e : (asksL r.ps 0 κs.length).2.1.length = α.length := by rw [asksL_takes, ha]
  have hn : nodes r.body * (α.length + cdeep r.body + 1) ≤ 149 * 39 := Nat.mul_le_mul hs (by omega)
  exact ⟨⟨by rw [h1.len]; exact Nat.le_refl _, by rw [e]; exact hk, by omega, h4⟩, ⟨by rw [e]; show nodes r.body * (α.length + cdeep r.body + 1) ≤ 6400 - 100; omega, by omega⟩, h1.len, h1.toS, h2.k.toS⟩
structure ProgFacts (F : Tab) (gg : List Df) : Prop where
  tab : TabOk F gg
  ps : ProgS F.S gg
  ok : ∀ d ∈ gg, DfOk d
  w : progW gg ≤ 100000
  fit : ∀ d ∈ gg, d.rows.length ≤ 4 ∧ d.many ≤ 10 ∧ ∀ r ∈ d.rows, RwFit 6400 d.many r
theorem rowsW_le {c : Nat} : ∀ {rs : List Rw}, (∀ r ∈ rs, nodes r.body ≤ c) → rowsW rs ≤ rs.length * (2 + c)
  | [], _ => Nat.zero_le _
  | r :: rs, h => by
    have h1 := h r (List.mem_cons_self ..)
    have h2 := rowsW_le (fun x z => h x (List.mem_cons_of_mem r z))
    simp only [rowsW, List.length_cons, Nat.add_mul, Nat.one_mul]
    omega
theorem progW_le {c : Nat} : ∀ {gg : List Df}, (∀ d ∈ gg, rowsW d.rows ≤ c) → progW gg ≤ gg.length * (1 + c)
  | [], _ => Nat.zero_le _
  | d :: gg, h => by
    have h1 := h d (List.mem_cons_self ..)
    have h2 := progW_le (fun x z => h x (List.mem_cons_of_mem d z))
    simp only [progW, List.length_cons, Nat.add_mul, Nat.one_mul]
    omega
theorem PF.facts {F : Tab} {gg : List Df} (h : PF F gg) (hg : gg.length ≤ 4) : ProgFacts F gg := by
  have row : ∀ d ∈ gg, ∀ r ∈ d.rows, RwOk d.many r ∧ RwFit 6400 d.many r ∧ r.ps.length = d.many ∧ PatsS F.S r.ps ∧ TmS F.S r.body := fun d hd r hr => by
    obtain ⟨_, e, _, _, h5⟩ := h.df d hd
    rw [e]
    exact (h5 r hr).rw (h.fl _)
  refine ⟨⟨fun n => Nat.le_trans (h.sh n) (by decide), fun n => Nat.le_trans (h.fl n) (by decide), fun n z => ?_⟩, fun d hd => ?_, fun d hd => ?_, ?_, fun d hd => ?_⟩
  · obtain ⟨d, hd, e⟩ := h.rev n z
    cases hf : rowsOf gg n with
    | none =>
      have : gg.find? (fun d => decide (d.name = n)) = none := by
        unfold rowsOf at hf
        cases hq : gg.find? (fun d => decide (d.name = n)) with
        | none => rfl
        | some d' => rw [hq] at hf; cases hf
      have := List.find?_eq_none.mp this d hd
      simp [e] at this
    | some rows =>
      obtain ⟨d', hd', e1, e2⟩ := rowsOf_mem hf
      refine ⟨rows, rfl, fun r hr => ?_⟩
      subst e2
      obtain ⟨_, _, _, _, h5⟩ := h.df d' hd'
      obtain ⟨α, h1, h2, h3, h4, h6⟩ := h5 r hr
      rw [e1] at h1
      exact ⟨⟨h2.e, α, h1, h2.k⟩, h4, by omega⟩
  · obtain ⟨_, e, e2, _, _⟩ := h.df d hd
    exact ⟨fun r hr => (row d hd r hr).2.2.2, by rw [e, e2], fun r hr => (row d hd r hr).2.2.1⟩
  · obtain ⟨_, e, e2, h4, _⟩ := h.df d hd
    exact ⟨by omega, by rw [e]; exact Nat.le_trans (h.fl _) (by decide), fun r hr => (row d hd r hr).1⟩
  · have h1 : progW gg ≤ gg.length * (1 + 4 * 151) := progW_le fun d hd => by
      obtain ⟨_, _, _, h4, h5⟩ := h.df d hd
      have h6 : rowsW d.rows ≤ d.rows.length * (2 + 149) := rowsW_le fun r hr => by
        obtain ⟨α, _, h2, _⟩ := h5 r hr
        exact h2.s
      have := Nat.mul_le_mul_right (2 + 149) h4
      omega
    have := Nat.mul_le_mul_right (1 + 4 * 151) hg
    omega
  · obtain ⟨_, e, _, h4, _⟩ := h.df d hd
    exact ⟨h4, by rw [e]; exact Nat.le_trans (h.fl _) (by decide), fun r hr => (row d hd r hr).2.1⟩
/-- a closed term's -/
structure TermFacts (F : Tab) (t : Tm) : Prop where
  ok : TmOk 0 t
  n : nodes t ≤ 2000
  fit : TmFit 6400 0 t
  s : TmS F.S t
  k : HasK F [] t .data
  e : evh t ≤ 4
theorem Tg.facts {F : Tab} {t : Tm} (h : Tg F [] .data 4 597 2 t) : TermFacts F t := by
  have hs := h.s
  have hc := h.c
  have hn : nodes t * (0 + cdeep t + 1) ≤ 597 * 3 := Nat.mul_le_mul hs (by omega)
  exact ⟨HasK.ok _ _ _ h.k, by omega, by show nodes t * (0 + cdeep t + 1) ≤ 6400 - 100; omega, HasK.toS _ _ _ h.k, h.k, h.e⟩
/-! ### worths that are data -/
mutual
def wval : Wo → MV
  | .shape n ws => .shape n (wvals ws)
  | _ => .dull
def wvals : List Wo → List MV
  | [] => []
  | w :: ws => wval w :: wvals ws
end
section
variable {F : Tab} {bs : List Bk} {K : PySem.W.Frag} {S : List Addr} {H : Hp}
mutual
theorem Wv.val : ∀ {w : Wo} {v : MV}, WoK F w .data → Wv bs w v → v = wval w
  | .shape n ws, _, h, q => by
    cases q with
    | shape _ q => exact congrArg (MV.shape n) (WvL.vals h.2.2 q)
  | .clo true _ _, _, h, _ => by cases h.1
  | .clo false _ _, _, h, _ => by cases h.1
  | .dull, _, h, _ => by cases (show Kd.data = .dull from h)
theorem WvL.vals : ∀ {ws : List Wo} {vs : List MV}, WosD F ws → WvL bs ws vs → vs = wvals ws
  | [], _, _, q => by
    cases q
    rfl
  | w :: ws, _, h, q => by
    cases q with
    | cons q1 q2 =>
      rw [Wv.val h.1 q1, WvL.vals h.2 q2]
      rfl
end
mutual
theorem WAt.val : ∀ {w : Wo} {v : V}, WoK F w .data → WAt K S H v w → At K H v (encV (wval w))
  | .shape n ws, _, h, q => by
    cases q with
    | shape q1 q2 q3 => exact .tup q1 (.cons (.str _) (.cons (.str _) (.cons (.tup q2 (WAtL.vals h.2.2 q3)) .nil)))
  | .clo true _ _, _, h, _ => by cases h.1
  | .clo false _ _, _, h, _ => by cases h.1
  | .dull, _, h, _ => by cases (show Kd.data = .dull from h)
theorem WAtL.vals : ∀ {ws : List Wo} {vs : List V}, WosD F ws → WAtL K S H vs ws → AtL K H vs (encVs (wvals ws))
  | [], _, _, q => by
    cases q
    exact .nil
  | w :: ws, _, h, q => by
    cases q with
    | cons q1 q2 => exact .cons (WAt.val h.1 q1) (WAtL.vals h.2 q2)
end
end
end K46
/-! K46L7 -/
set_option maxHeartbeats 4000000
namespace K46
open PySem PySem.Spec PyProof.Rows L2 C8
/-! ### worths that are shapes of few parts -/
mutual
def MvOk : MV → Prop
  | .shape n vs => vs.length ≤ 3 ∧ ShN n ∧ MvsOk vs
  | _ => False
def MvsOk : List MV → Prop
  | [] => True
  | v :: vs => MvOk v ∧ MvsOk vs
end
mutual
def mnodes : MV → Nat
  | .shape _ vs => 1 + mnodesL vs
  | _ => 1
def mnodesL : List MV → Nat
  | [] => 0
  | v :: vs => mnodes v + mnodesL vs
end
theorem mnodesL_append : ∀ a b : List MV, mnodesL (a ++ b) = mnodesL a + mnodesL b
  | [], b => by simp [mnodesL]
  | v :: a, b => by
    have := mnodesL_append a b
    simp only [List.cons_append, mnodesL, this]
    omega
theorem MvsOk.append : ∀ {a b : List MV}, MvsOk a → MvsOk b → MvsOk (a ++ b)
  | [], _, _, h => h
  | _ :: _, _, h, h2 => ⟨h.1, MvsOk.append h.2 h2⟩
theorem MvsOk.left : ∀ {a b : List MV}, MvsOk (a ++ b) → MvsOk a ∧ MvsOk b
  | [], _, h => ⟨trivial, h⟩
  | _ :: _, _, h => ⟨⟨h.1, (MvsOk.left h.2).1⟩, (MvsOk.left h.2).2⟩
mutual
theorem wval_ok {F : Tab} (hF : ∀ n, F.S.sh n ≤ 3) : ∀ (w : Wo), WoK F w .data → MvOk (wval w)
  | .shape n ws, h => ⟨by rw [wvals_len, h.2.1.1]; exact hF n, h.2.1.2, wvals_ok hF ws h.2.2⟩
  | .clo true _ _, h => by cases h.1
  | .clo false _ _, h => by cases h.1
  | .dull, h => by cases (show Kd.data = .dull from h)
theorem wvals_ok {F : Tab} (hF : ∀ n, F.S.sh n ≤ 3) : ∀ (ws : List Wo), WosD F ws → MvsOk (wvals ws)
  | [], _ => trivial
  | w :: ws, h => ⟨wval_ok hF w h.1, wvals_ok hF ws h.2⟩
theorem wvals_len : ∀ (ws : List Wo), (wvals ws).length = ws.length
  | [] => rfl
  | w :: ws => congrArg Nat.succ (wvals_len ws)
end
section
variable {P : Program} {w : World} {K : PySem.W.Frag} {mg : Str → Option Value} {base : Heap}
def sp_is_small (K : PySem.W.Frag) : Sp := fun vs H Q _ => ∃ (v : V) (m : MV), vs = [v] ∧ At K H v (encV m) ∧ MvOk m ∧ (∀ H', Keep [] H H' → mnodes m ≤ 3000 → Q (.bl true) H') ∧ ∀ H', Keep [] H H' → Q (.bl false) H'
theorem ok_is_small (T : Tx K mg) : Cal P w K mg base 1 "_law_is_small" (sp_is_small K) [] := by
  refine cal_mk T.f_is_small T.g_is_small sc_is_small (fun _ _ _ _ _ _ us hl => match us, hl with | [_], _ => rfl) (fun vs H Q E h => ?_) (fun cdv A outer s0 H vs Q E hr h => ?_)
  · obtain ⟨v, m, rfl, _⟩ := h
    rfl
  · obtain ⟨v, m, rfl, hv, hm, qt, qf⟩ := h
    refine ⟨_, (pss_cons (ps_par (i := 1) (j := 2) (by rfl) sc_is_small.nd rfl rfl (by decide) rfl rfl (pa_cons (pe_lst (pa_cons (pv 0) pa_nil)) (pa_cons pe_int pa_nil)) (by rfl))
      (pss_cons (ps_while PassesOwn.never (PW.pt (pw_and (pt_cmpR (op_ne0 hr.units0) (pv 1) (pe_lst pa_nil) (nomark _)) (pw_and1 (pt_cmpR op_lt (pv 2) pe_int (nomark _))))) (pss_cons (ps_par (i := 3) (j := 2) (by rfl) sc_is_small.nd rfl rfl (by decide) rfl rfl (pa_cons (pe_bm0 PySem.F.plainAttrs_list PySem.F.slot_list_pop PySem.F.type_list_pop mt_pop (pv 1)) (pa_cons (pe_op op_add (pv 2) pe_int) pa_nil)) (by rfl))
      (pss_one (ps_expr (pe_bm PySem.F.plainAttrs_list PySem.F.slot_list_extend PySem.F.type_list_extend mt_extend (pv 1) (pa_cons (pe_ifExp (pt_cmpR op_eq (pe_ix ix_tup (pv 3) pe_int (fun _ _ => rfl)) pe_str (nomark _)) (pe_callTy call_list_of (by rfl) T.z_list (by decide +kernel) (pa_cons (pe_ix ix_tup (pv 3) pe_int (fun _ _ => rfl)) pa_nil)) (pe_lst pa_nil)) pa_nil))))))
      (pss_one (ps_ret (pe_cmpR (op_eq0 hr.units0) (pv 1) (pe_lst pa_nil) (nomark _)))))), ?_⟩
    have hz1 : 1 ≤ sizeLine := by decide
    have hz9 : 9100 < sizeLine := by decide
    refine ⟨_, rfl, hz1, fun l nl => ⟨_, _, rfl, ?_⟩⟩
    have k1 := Keep.new (o := .lst [v]) nl (Keep.refl [] H)
    refine ⟨fun j σ H' => ∃ (Ms : List MV) (ys : List V) (c : Nat) (o3 : Option V), σ = [some v, some (.ref l), some (.int (c : Int)), o3] ∧ Keep [] H H' ∧ H' l = some (.lst ys) ∧ AtL K H' ys (encVs Ms) ∧ MvsOk Ms ∧ c + mnodesL Ms = mnodes m ∧ Ms.length ≤ 1 + 2 * c ∧ c ≤ 3000 ∧ j = 3000 - c, ⟨3000, [m], [v], 0, none, rfl, k1, upd_same, .cons (hv.keep k1) .nil, ⟨hm, trivial⟩, by simp [mnodesL], by simp, by omega, rfl⟩, ?_⟩
    rintro j σ H2 ⟨Ms, ys, c, o3, rfl, k2, hl2, hys, hok, hcnt, hlen, hc3, rfl⟩
    have hysl := hys.length
    rw [encVs_map, List.length_map] at hysl
    refine ⟨_, rfl, by decide, fun q0 nq => ⟨l, q0, ys, rfl, rfl, .inl ⟨.of ((Keep.new nq (Keep.refl [] H2)).at_ _ _ (by simp) hl2), .of upd_same⟩, _, rfl, ?_⟩⟩
    have kq := Keep.new (o := .lst []) nq (Keep.refl [] H2)
    have hl3 := kq.at_ _ _ (by simp) hl2
    have hys3 := hys.keep kq
    generalize upd H2 q0 (.lst []) = H3 at kq hl3 hys3
    have k3 := k2.trans kq
    have fin : Q (.bl ys.isEmpty) H3 → (∀ q1, H3 q1 = none → Q (.bl ys.isEmpty) (upd H3 q1 (.lst []))) → True := fun _ _ => trivial
    rcases List.eq_nil_or_concat Ms with rfl | ⟨Ms', m1, e⟩
    · have ey : ys = [] := List.eq_nil_of_length_eq_zero hysl
      subst ey
      refine iff' rfl ?_
      refine iff' rfl ?_
      refine ⟨_, rfl, by decide, fun q1 nq1 => ⟨l, q1, [], rfl, rfl, .inl ⟨.of ((Keep.new nq1 (Keep.refl [] H3)).at_ _ _ (by simp) hl3), .of upd_same⟩, ?_⟩⟩
      simp only [mnodesL, Nat.add_zero] at hcnt
      exact qt _ (k3.new_ nq1) (by omega)
    · rw [List.concat_eq_append] at e
      subst e
      have hne : ys.isEmpty = false := by
        cases ys with
        | nil => simp at hysl
        | cons _ _ => rfl
      refine ift (by rw [hne]; rfl) ?_
      refine ⟨_, rfl, _, _, rfl, rfl, _, rfl, ite2 (fun hb => ?_) (fun hb => ?_)⟩
      · have hlt : c < 3000 := by
          have := of_decide_eq_true hb
          omega
        refine ⟨fun σ' H' => ∃ m', m' < 3000 - c ∧ ∃ (Ms : List MV) (ys : List V) (c : Nat) (o3 : Option V), σ' = [some v, some (.ref l), some (.int (c : Int)), o3] ∧ Keep [] H H' ∧ H' l = some (.lst ys) ∧ AtL K H' ys (encVs Ms) ∧ MvsOk Ms ∧ c + mnodesL Ms = mnodes m ∧ Ms.length ≤ 1 + 2 * c ∧ c ≤ 3000 ∧ m' = 3000 - c, fun _ _ h => h, ?_⟩
        rw [encVs_map, List.map_append] at hys3
        obtain ⟨ys', yl, rfl, hys', hyl⟩ := hys3.split
        obtain ⟨y1, yr, rfl, hy1, hyr⟩ := hyl.cons'
        cases hyr
        obtain ⟨hok1, hok2, _⟩ := hok.left
        match m1, hok2, hy1 with
        | .shape n vs, hok2, hy1 =>
          obtain ⟨a, z1, z2, z3, rfl, hq, w1, w2, w3⟩ := hy1.t3
          obtain rfl := w1.s
          obtain ⟨u, zs, rfl, hu, hzs⟩ := w3.t
          have hzl := hzs.length
          rw [encVs_map, List.length_map] at hzl
          have hv3 : vs.length ≤ 3 := hok2.1
          simp only [List.length_append, List.length_singleton] at hysl hlen
          refine ⟨_, rfl, .inl ⟨rfl, _, .of hl3⟩, l, _, .ref a, rfl, rfl, hl3, by simp, _, rfl, _, _, rfl, rfl, _, _, rfl, ?_⟩
          have e3 : (ys' ++ [V.ref a]).dropLast = ys' := by simp
          rw [e3]
          have k4 : Keep [l] H3 (upd H3 l (.lst ys')) := Keep.lst hl3 (.inl (by simp)) (Keep.refl _ _)
          have hl4 : upd H3 l (.lst ys') l = some (.lst ys') := upd_same
          have k04 : Keep [] H (upd H3 l (.lst ys')) := Keep.lst hl3 (.inr nl) k3
          generalize upd H3 l (.lst ys') = H4 at k4 hl4 k04
          refine ⟨_, rfl, .inl ⟨rfl, _, .of hl4⟩, _, rfl, a, _, 0, .str "shape", rfl, rfl, k4.sqT hq, atI_nat (j := 0) rfl, rfl, _, rfl, ift (by decide +kernel) ?_⟩
          refine ⟨_, rfl, a, _, 2, .ref u, rfl, rfl, k4.sqT hq, atI_nat (j := 2) rfl, u, zs, rfl, .inr (k4.sqT hu), fun p np => ?_⟩
          have k5 := Keep.new (o := .lst zs) np (Keep.refl [] H4)
          have hl5 := k5.at_ _ _ (by simp) hl4
          refine ⟨l, p, ys', zs, rfl, rfl, hl5, upd_same, by omega, ?_⟩
          have k6 : Keep [l] (upd H4 p (.lst zs)) (upd (upd H4 p (.lst zs)) l (.lst (ys' ++ zs))) := Keep.lst hl5 (.inl (by simp)) (Keep.refl _ _)
          have k06 : Keep [] H (upd (upd H4 p (.lst zs)) l (.lst (ys' ++ zs))) := Keep.lst hl5 (.inr nl) (k04.trans k5)
          have k36 := k4.trans ((k5.mono (S' := [l]) (by simp)).trans k6)
          refine ⟨3000 - (c + 1), by omega, Ms' ++ vs, ys' ++ zs, c + 1, _, rfl, k06, upd_same, ?_, hok1.append hok2.2.2, ?_, by simp only [List.length_append]; omega, by omega, rfl⟩
          · rw [encVs_map, List.map_append]
            rw [encVs_map] at hzs
            exact (hys'.append hzs).keep k36
          · rw [mnodesL_append] at hcnt ⊢
            simp only [mnodesL, mnodes] at hcnt
            omega
      · refine ⟨_, rfl, by decide, fun q1 nq1 => ⟨l, q1, ys, rfl, rfl, .inl ⟨.of ((Keep.new nq1 (Keep.refl [] H3)).at_ _ _ (by simp) hl3), .of upd_same⟩, ?_⟩⟩
        rw [hne]
        exact qf _ (k3.new_ nq1)
def chain (z m : Str) : Nat → MV
  | 0 => .shape z []
  | k + 1 => .shape m [chain z m k]
def sp_counted (K : PySem.W.Frag) : Sp := fun vs H Q _ => ∃ (v : V) (z m : Str) (k : Nat), vs = [v, .str m] ∧ At K H v (encV (chain z m k)) ∧ ∀ H', Keep [] H H' → Q (.int (k : Int)) H'
theorem ok_counted (T : Tx K mg) : Cal P w K mg base 1 "_law_counted" (sp_counted K) [] := by
  refine cal_mk T.f_counted T.g_counted sc_counted (fun _ _ _ _ _ _ us hl => match us, hl with | [_, _], _ => rfl) (fun vs H Q E h => ?_) (fun cdv A outer s0 H vs Q E hr h => ?_)
  · obtain ⟨v, z, m, k, rfl, _⟩ := h
    rfl
  · obtain ⟨v, z, m, k, rfl, hv, q⟩ := h
    refine ⟨_, (pss_cons (ps_set (i := 2) sc_counted.nd rfl (Or.inl rfl) pe_int)
      (pss_cons (ps_while PassesOwn.never (PW.pt (pw_and (pt_cmpR op_eq (pe_ix ix_tup (pv 0) pe_int (fun _ _ => rfl)) pe_str (nomark _)) (pw_and1 (pt_cmpR (op_ne0 hr.units0) (pe_ix ix_tup (pv 0) pe_int (fun _ _ => rfl)) (pe_tup pa_nil) (nomark _))))) (pss_cons (ps_if (pt_cmpR op_ne (pe_ix ix_tup (pv 0) pe_int (fun _ _ => rfl)) (pv 1) (nomark _)) (pss_one (ps_ret (pe_un un_neg pe_int))) pss_nil)
      (pss_one (ps_par (i := 0) (j := 2) (by rfl) sc_counted.nd rfl rfl (by decide) rfl rfl (pa_cons (pe_ix ix_tup (pe_ix ix_tup (pv 0) pe_int (fun _ _ => rfl)) pe_int (fun _ _ => rfl)) (pa_cons (pe_op op_add (pv 2) pe_int) pa_nil)) (by rfl)))))
      (pss_one (ps_ret (pv 2))))), ?_⟩
    refine ⟨fun j σ H' => ∃ (c : Nat) (v' : V), σ = [some v', some (.str m), some (.int (c : Int))] ∧ Keep [] H H' ∧ At K H' v' (encV (chain z m j)) ∧ c + j = k, ⟨k, 0, v, rfl, Keep.refl _ _, hv, by omega⟩, ?_⟩
    rintro j σ H2 ⟨c, v', rfl, k2, hv2, hcj⟩
    have cut : ∃ (n : Str) (a u : Addr) (zs : List V), v' = .ref a ∧ SqT K H2 a [.str "shape", .str n, .ref u] ∧ SqT K H2 u zs ∧ ((j = 0 ∧ zs = []) ∨ ∃ j' y, j = j' + 1 ∧ n = m ∧ zs = [y] ∧ At K H2 y (encV (chain z m j'))) := by
      cases j with
      | zero =>
        obtain ⟨a, z1, z2, z3, rfl, hq, w1, w2, w3⟩ := hv2.t3
        obtain rfl := w1.s
        obtain rfl := w2.s
        obtain ⟨u, zs, rfl, hu, hzs⟩ := w3.t
        cases hzs
        exact ⟨_, a, u, [], rfl, hq, hu, .inl ⟨rfl, rfl⟩⟩
      | succ j =>
        obtain ⟨a, z1, z2, z3, rfl, hq, w1, w2, w3⟩ := hv2.t3
        obtain rfl := w1.s
        obtain rfl := w2.s
        obtain ⟨u, y, rfl, hu, hy⟩ := w3.t1
        exact ⟨_, a, u, [y], rfl, hq, hu, .inr ⟨j, y, rfl, rfl, rfl, hy⟩⟩
    obtain ⟨n, a, u, zs, rfl, hq, hu, hcase⟩ := cut
    refine ⟨_, rfl, a, _, 0, .str "shape", rfl, rfl, hq, atI_nat (j := 0) rfl, rfl, _, rfl, ift (by decide +kernel) ?_⟩
    refine ⟨_, rfl, a, _, 2, .ref u, rfl, rfl, hq, atI_nat (j := 2) rfl, (by show 0 ≤ sizeLine; decide), fun q0 nq => ?_⟩
    have kq := Keep.new (o := .tup []) nq (Keep.refl [] H2)
    have hq0 : upd H2 q0 (.tup []) q0 = some (.tup []) := upd_same
    generalize upd H2 q0 (.tup []) = H3 at kq hq0
    refine ⟨u, q0, zs, rfl, rfl, .inr ⟨kq.sqT hu, .of hq0⟩, _, rfl, ?_⟩
    have hq3 := kq.sqT hq
    have k3 := k2.trans kq
    rcases hcase with ⟨rfl, rfl⟩ | ⟨j', y, rfl, rfl, rfl, hy⟩
    · refine iff' rfl ?_
      have : c = k := by omega
      subst this
      exact ⟨_, rfl, q _ k3⟩
    · refine ift rfl ?_
      refine ⟨fun σ' H' => ∃ m', m' < j' + 1 ∧ ∃ (c : Nat) (v' : V), σ' = [some v', some (.str n), some (.int (c : Int))] ∧ Keep [] H H' ∧ At K H' v' (encV (chain z n m')) ∧ c + m' = k, fun _ _ h => h, ?_⟩
      refine ⟨_, rfl, a, _, 1, .str n, rfl, rfl, hq3, atI_nat (j := 1) rfl, _, rfl, rfl, _, rfl, iff' (by simp) ?_⟩
      refine ⟨_, rfl, a, _, 2, .ref u, rfl, rfl, hq3, atI_nat (j := 2) rfl, u, _, 0, y, rfl, rfl, kq.sqT hu, atI_nat (j := 0) rfl, _, rfl, _, _, rfl, rfl, _, _, rfl, ?_⟩
      exact ⟨j', Nat.lt_succ_self _, c + 1, y, rfl, k3, hy.keep kq, by omega⟩
def okD : K46.D → Prop
  | .int z => 0 ≤ z
  | .str _ => True
  | .tup _ => True
  | _ => False
def isI : K46.D → Bool
  | .int _ => true
  | _ => false
def tyD : K46.D → String
  | .str _ => "str"
  | .int _ => "int"
  | .bl _ => "bool"
  | .non => "NoneType"
  | .tup _ => "tuple"
theorem tyx_of {H : Hp} : ∀ {d : K46.D} {v : V}, At K H v d → TyX K H v (.type (tyD d))
  | .str _, _, h => by
    cases h
    exact .base (.str _)
  | .int _, _, h => by
    cases h
    exact .base (.int _)
  | .bl _, _, h => by
    cases h
    exact .base (.bl _)
  | .non, _, h => by
    cases h
    exact .base .non
  | .tup _, _, h => by
    cases h with
    | tup h1 h2 =>
      rcases h1 with (h1 | ⟨o, h1⟩) | ⟨o, its, n, h1, h2, h3⟩
      · exact .base (.tup h1)
      · exact .fTuple h1
      · exact .kTuple h1 h2
def sp_is_row (K : PySem.W.Frag) : Sp := fun vs H Q _ => ∃ (v : V) (i : Ins), vs = [v] ∧ At K H v (encI i) ∧ ∀ H', Keep [] H H' → Q (.bl true) H'
theorem ok_is_row (T : Tx K mg) : Cal P w K mg base 1 "_law_is_row" (sp_is_row K) [] := by
  refine cal_mk T.f_is_row T.g_is_row sc_is_row (fun _ _ _ _ _ _ us hl => match us, hl with | [_], _ => rfl) (fun vs H Q E h => ?_) (fun cdv A outer s0 H vs Q E hr h => ?_)
  · obtain ⟨v, i, rfl, _⟩ := h
    rfl
  · obtain ⟨v, i, rfl, hv, q⟩ := h
    refine ⟨_, (pss_cons (ps_par (i := 1) (j := 2) (by rfl) sc_is_row.nd rfl rfl (by decide) rfl rfl (pa_cons (pe_ix ix_tup (pv 0) pe_int (fun _ _ => rfl)) (pa_cons (pe_lc (g := (gName 3)) rfl sc_is_row.nd (pi_tup (pe_slice sl_tupA (pv 0) (po_some pe_int) po_none)) (blkOk_by (own := [("_law_one", 3)]) (N := ["_law_row_here", "_law_word", "_law_whole", "_law_one"]) (sc := defScope s_is_row) (by decide +kernel)) (fun _ _ _ _ _ => (pg_name (i := 3) sc_is_row.nd rfl (Or.inl rfl))) (fun _ _ _ _ _ => (pts_one (PW.pt (pw_and (pt_val (pe_callB (call_isiK (K := K) rfl) (by rfl) T.z_isinstance (by decide +kernel) (pa_cons (pv 3) (pa_cons (pe_bltn (v := .ty "int") rfl T.z_int (by decide +kernel) rfl) pa_nil)))) (pw_and (pt_not (pt_val (pe_callB (call_isiK (K := K) rfl) (by rfl) T.z_isinstance (by decide +kernel) (pa_cons (pv 3) (pa_cons (pe_bltn (v := .ty "bool") rfl T.z_bool (by decide +kernel) rfl) pa_nil))))) (pw_and1 (pt_cmpR op_ge (pv 3) pe_int (nomark _)))))))) (fun _ _ _ _ _ => (pv 3))) pa_nil)) (by rfl))
      (pss_cons (ps_if (pt_cmpR op_in_seq (pv 1) (pe_tup (pa_cons pe_str (pa_cons pe_str (pa_cons pe_str (pa_cons pe_str pa_nil))))) (by rfl)) (pss_one (ps_ret (pe_cmpR op_eq (pe_callB call_len_seq (by rfl) T.z_len PySem.boot_len (pa_cons (pv 0) pa_nil)) pe_int (nomark _)))) pss_nil)
      (pss_cons (ps_if (pt_cmpR op_eq (pv 1) pe_str (nomark _)) (pss_one (ps_ret (pe_and (pe_cmpR op_eq (pe_callB call_len_seq (by rfl) T.z_len PySem.boot_len (pa_cons (pv 0) pa_nil)) pe_int (nomark _)) (pe_one (pe_cmpR op_eq (pe_callB call_len_seq (by rfl) T.z_len PySem.boot_len (pa_cons (pv 2) pa_nil)) pe_int (nomark _)))))) pss_nil)
      (pss_cons (ps_if (pt_cmpR op_in_seq (pv 1) (pe_tup (pa_cons pe_str (pa_cons pe_str (pa_cons pe_str pa_nil)))) (by rfl)) (pss_one (ps_ret (pe_and (pe_cmpR op_eq (pe_callB call_len_seq (by rfl) T.z_len PySem.boot_len (pa_cons (pv 0) pa_nil)) pe_int (nomark _)) (pe_and (pe_callB call_isi (by rfl) T.z_isinstance (by decide +kernel) (pa_cons (pe_ix ix_tup (pv 0) pe_int (fun _ _ => rfl)) (pa_cons (pe_bltn (v := .ty "str") rfl T.z_str (by decide +kernel) rfl) pa_nil))) (pe_one (pe_cmpR op_eq (pe_callB call_len_seq (by rfl) T.z_len PySem.boot_len (pa_cons (pv 2) pa_nil)) pe_int (nomark _))))))) pss_nil)
      (pss_cons (ps_if (PW.pt (pw_or (pt_cmpR op_ne (pv 1) pe_str (nomark _)) (pw_or (pt_cmpR op_ne (pe_callB call_len_seq (by rfl) T.z_len PySem.boot_len (pa_cons (pv 0) pa_nil)) pe_int (nomark _)) (pw_or (pt_cmpR op_ne (pe_callB call_len_seq (by rfl) T.z_len PySem.boot_len (pa_cons (pv 2) pa_nil)) pe_int (nomark _)) (pw_or1 (pt_not (pt_val (pe_callB call_isi (by rfl) T.z_isinstance (by decide +kernel) (pa_cons (pe_ix ix_tup (pv 0) pe_int (fun _ _ => rfl)) (pa_cons (pe_bltn (v := .ty "tuple") rfl T.z_tuple (by decide +kernel) rfl) pa_nil)))))))))) (pss_one (ps_ret pe_bl)) pss_nil)
      (pss_one (ps_ret (pe_cmpR (op_eq0 hr.units0) (pe_lc (g := (gName 3)) rfl sc_is_row.nd (pi_tup (pe_ix ix_tup (pv 0) pe_int (fun _ _ => rfl))) (blkOk_by (own := [("_law_one", 3)]) (N := ["_law_row_here", "_law_word", "_law_whole", "_law_one"]) (sc := defScope s_is_row) (by decide +kernel)) (fun _ _ _ _ _ => (pg_name (i := 3) sc_is_row.nd rfl (Or.inl rfl))) (fun _ _ _ _ _ => (pts_one (PW.pt (pw_or (pt_cmpR op_ne (pe_callB (call_len_seqK (K := K) rfl) (by rfl) T.z_len PySem.boot_len (pa_cons (pv 3) pa_nil)) pe_int (nomark _)) (pw_or (pt_not (pt_val (pe_callB (call_isiK (K := K) rfl) (by rfl) T.z_isinstance (by decide +kernel) (pa_cons (pe_ix (ix_tupK (K := K) rfl) (pv 3) pe_int (fun _ _ => rfl)) (pa_cons (pe_bltn (v := .ty "str") rfl T.z_str (by decide +kernel) rfl) pa_nil))))) (pw_or1 (pt_not (pt_val (pe_callB (call_isiK (K := K) rfl) (by rfl) T.z_isinstance (by decide +kernel) (pa_cons (pe_ix (ix_tupK (K := K) rfl) (pv 3) pe_int (fun _ _ => rfl)) (pa_cons (pe_bltn (v := .ty "int") rfl T.z_int (by decide +kernel) rfl) pa_nil))))))))))) (fun _ _ _ _ _ => (pv 3))) (pe_lst pa_nil) (nomark _))))))))), ?_⟩
    obtain ⟨w0, rest, hv0, hok, hcase⟩ : ∃ (w0 : Str) (rest : List K46.D), At K H v (.tup (.str w0 :: rest)) ∧ (∀ d ∈ rest, okD d) ∧ (((w0 = "dull" ∨ w0 = "give" ∨ w0 = "go" ∨ w0 = "tell") ∧ rest = []) ∨ (w0 = "local" ∧ ∃ k : Nat, rest = [.int (k : Int)]) ∨ ((w0 = "shape" ∨ w0 = "call" ∨ w0 = "close") ∧ ∃ (n : Str) (m : Nat), rest = [.str n, .int (m : Int)]) ∨ (w0 = "ask" ∧ ∃ (k : Nat) (n : Str) (l f : Nat), rest = [.int (k : Int), .tup [.tup [.str n, .int (l : Int)]], .int (f : Int)])) := by
      have o1 : ∀ d ∈ ([] : List K46.D), okD d := fun d z => by cases z
      have o2 : ∀ (n : Str) (m : Nat), ∀ d ∈ [K46.D.str n, .int (m : Int)], okD d := fun n m d z => by
        simp only [List.mem_cons, List.not_mem_nil, or_false] at z
        rcases z with rfl | rfl
        · trivial
        · exact Int.natCast_nonneg _
      match i, hv with
      | .loc k, hv => exact ⟨_, _, hv, fun d z => (by rw [List.mem_singleton.mp z]; exact Int.natCast_nonneg _), .inr (.inl ⟨rfl, k, rfl⟩)⟩
      | .ask k n l f, hv =>
        refine ⟨_, _, hv, fun d z => ?_, .inr (.inr (.inr ⟨rfl, k, n, l, f, rfl⟩))⟩
        simp only [List.mem_cons, List.not_mem_nil, or_false] at z
        rcases z with rfl | rfl | rfl
        · exact Int.natCast_nonneg _
        · trivial
        · exact Int.natCast_nonneg _
      | .own (.shape n) m, hv => exact ⟨_, _, hv, o2 n m, .inr (.inr (.inl ⟨.inl rfl, n, m, rfl⟩))⟩
      | .own (.call n) m, hv => exact ⟨_, _, hv, o2 n m, .inr (.inr (.inl ⟨.inr (.inl rfl), n, m, rfl⟩))⟩
      | .own .give m, hv => exact ⟨_, _, hv, o1, .inl ⟨.inr (.inl rfl), rfl⟩⟩
      | .own .go m, hv => exact ⟨_, _, hv, o1, .inl ⟨.inr (.inr (.inl rfl)), rfl⟩⟩
      | .own .dull m, hv => exact ⟨_, _, hv, o1, .inl ⟨.inl rfl, rfl⟩⟩
      | .close n m, hv => exact ⟨_, _, hv, o2 n m, .inr (.inr (.inl ⟨.inr (.inr rfl), n, m, rfl⟩))⟩
      | .tell, hv => exact ⟨_, _, hv, o1, .inl ⟨.inr (.inr (.inr rfl)), rfl⟩⟩
    obtain ⟨a, xs0, rfl, hq, hxs0⟩ := hv0.t
    obtain ⟨x, xs, rfl, h1, hxs⟩ := hxs0.cons'
    obtain rfl := h1.s
    have hxl := hxs.length
    have hrl : rest.length ≤ 3 := by
      rcases hcase with ⟨_, rfl⟩ | ⟨_, _, rfl⟩ | ⟨_, _, _, rfl⟩ | ⟨_, _, _, _, _, rfl⟩ <;> simp
    have hz9 : 9 < sizeLine := by decide
    refine ⟨_, rfl, a, _, 0, .str w0, rfl, rfl, hq, atI_nat (j := 0) rfl, _, rfl, _, rfl, ?_⟩
    dsimp only [tNoPart]
    refine sl_1 (x := .str w0) hq fun tb ntb => ?_
    have kt := Keep.new (o := .tup xs) ntb (Keep.refl [] H)
    have htb : upd H tb (.tup xs) tb = some (.tup xs) := upd_same
    generalize upd H tb (.tup xs) = H1 at kt htb
    have hxs1 := hxs.keep kt
    refine ⟨tb, rfl, ⟨xs, .of htb⟩, fun D nD => ?_⟩
    refine lc_it (walk_tup (xs := xs)) (fun i H' => ∃ ys, Keep [] H1 H' ∧ H' D = some (.lst ys) ∧ AtL K H' ys ((rest.take i).filter isI) ∧ ys.length ≤ i) ⟨[], Keep.new nD (Keep.refl _ _), upd_same, .nil, Nat.le_refl _⟩ (fun i H' _ ⟨ys, k, _⟩ => k.sqT (.of htb)) (fun i y H2 H3 hi ⟨ys, k, hD, hys, hyl⟩ yy => ?_) (fun H2 ⟨ys, k, hD, hys, hyl⟩ => ?_)
    · obtain ⟨rfl, ey⟩ := yy
      obtain ⟨d, ed, hd⟩ := hxs1.get' ey
      have hokd := hok d (List.mem_of_getElem? ed)
      replace hd := hd.keep k
      rw [take_snoc ed, List.filter_append]
      refine ⟨rfl, ?_⟩
      match d, hd, hokd, ed with
      | .int z, hd, hokd, ed =>
        obtain rfl := hd.i
        have hz : (0 : Int) ≤ z := hokd
        refine ⟨_, rfl, _, _, .type "int", .type "int", true, rfl, .ty "int", tyx_of hd, kit_ty (a := "int") (b := "int") (by decide +kernel), _, rfl, ift rfl ?_⟩
        refine ⟨_, rfl, _, _, .type "int", .type "bool", false, rfl, .ty "bool", tyx_of hd, kit_ty (a := "int") (b := "bool") (by decide +kernel), _, rfl, ift rfl ?_⟩
        refine ⟨_, rfl, _, _, rfl, rfl, _, rfl, ift (decide_eq_true hz) ?_⟩
        refine ⟨_, rfl, ys, hD, by omega, ys ++ [.int z], Keep.lst hD (.inr nD) k, upd_same, ?_, by simp; omega⟩
        have kD : Keep [D] H3 (upd H3 D (.lst (ys ++ [.int z]))) := Keep.lst hD (.inl (by simp)) (Keep.refl _ _)
        exact (hys.keep kD).append (.cons (.int z) .nil)
      | .str z, hd, hokd, ed =>
        obtain rfl := hd.s
        refine ⟨_, rfl, _, _, .type "str", .type "int", false, rfl, .ty "int", tyx_of hd, kit_ty (a := "str") (b := "int") (by decide +kernel), _, rfl, iff' rfl (iff' rfl ?_)⟩
        exact ⟨ys, k, hD, by simpa [isI] using hys, by omega⟩
      | .tup z, hd, hokd, ed =>
        refine ⟨_, rfl, _, _, .type "tuple", .type "int", false, rfl, .ty "int", tyx_of hd, kit_ty (a := "tuple") (b := "int") (by decide +kernel), _, rfl, iff' rfl (iff' rfl ?_)⟩
        exact ⟨ys, k, hD, by simpa [isI] using hys, by omega⟩
      | .bl _, _, hokd, _ => exact hokd.elim
      | .non, _, hokd, _ => exact hokd.elim
    · rw [hxl, List.take_length] at hys
      have k2 := kt.trans k
      have hq2 := k2.sqT hq
      have hxs2 := hxs1.keep k
      have hyl2 := hys.length
      clear hxs1 hyl hxs0
      refine ⟨_, _, rfl, ?_⟩
      rcases hcase with ⟨hw, rfl⟩ | ⟨rfl, kk, rfl⟩ | ⟨hw, n, m, rfl⟩ | ⟨rfl, kk, n, l, f, rfl⟩
      · cases hxs2
        refine ⟨_, rfl, (by show 4 ≤ sizeLine; decide), fun p np => ⟨p, _, rfl, .inr (.of upd_same), rfl, rfl, _, rfl, ift (by rcases hw with rfl | rfl | rfl | rfl <;> decide +kernel) ?_⟩⟩
        have k3 := k2.new_ (o := .tup [.str "dull", .str "give", .str "go", .str "tell"]) np
        have kp := Keep.new (o := .tup [.str "dull", .str "give", .str "go", .str "tell"]) np (Keep.refl [] H2)
        exact ⟨_, rfl, a, _, rfl, .inr (kp.sqT hq2), rfl, q _ k3⟩
      · obtain ⟨y, yr, rfl, hy, hyr⟩ := hxs2.cons'
        cases hyr
        refine ⟨_, rfl, (by show 4 ≤ sizeLine; decide), fun p np => ⟨p, _, rfl, .inr (.of upd_same), rfl, rfl, _, rfl, iff' (by decide +kernel) ?_⟩⟩
        have k3 := k2.new_ (o := .tup [.str "dull", .str "give", .str "go", .str "tell"]) np
        have kp := Keep.new (o := .tup [.str "dull", .str "give", .str "go", .str "tell"]) np (Keep.refl [] H2)
        refine ⟨_, rfl, rfl, _, rfl, ift (by decide +kernel) ?_⟩
        refine ⟨_, rfl, a, _, rfl, .inr (kp.sqT hq2), rfl, _, rfl, ift (decide_eq_true rfl) ?_⟩
        exact ⟨_, rfl, D, _, rfl, .inl (.of (kp.at_ _ _ (by simp) hD)), rfl, by rw [hyl2]; exact q _ k3⟩
      · obtain ⟨y, yr, rfl, hy, hyr⟩ := hxs2.cons'
        obtain ⟨y2, yr2, rfl, hy2, hyr2⟩ := hyr.cons'
        cases hyr2
        obtain rfl := hy.s
        refine ⟨_, rfl, (by show 4 ≤ sizeLine; decide), fun p np => ⟨p, _, rfl, .inr (.of upd_same), rfl, rfl, _, rfl, iff' (by rcases hw with rfl | rfl | rfl <;> decide +kernel) ?_⟩⟩
        have kp := Keep.new (o := .tup [.str "dull", .str "give", .str "go", .str "tell"]) np (Keep.refl [] H2)
        generalize upd H2 p (.tup [.str "dull", .str "give", .str "go", .str "tell"]) = H3 at kp
        refine ⟨_, rfl, rfl, _, rfl, iff' (by rcases hw with rfl | rfl | rfl <;> decide +kernel) ?_⟩
        refine ⟨_, rfl, (by show 3 ≤ sizeLine; decide), fun p2 np2 => ⟨p2, _, rfl, .inr (.of upd_same), rfl, rfl, _, rfl, ift (by rcases hw with rfl | rfl | rfl <;> decide +kernel) ?_⟩⟩
        have kp2 := kp.new_ (o := .tup [.str "shape", .str "call", .str "close"]) np2
        refine ⟨_, rfl, a, _, rfl, .inr (kp2.sqT hq2), rfl, _, rfl, ift (decide_eq_true rfl) ?_⟩
        refine ⟨_, rfl, a, _, 1, .str n, rfl, rfl, kp2.sqT hq2, atI_nat (j := 1) rfl, _, _, .type "str", .type "str", true, rfl, .ty "str", .base (.str n), kit_ty (a := "str") (b := "str") (by decide +kernel), _, rfl, ift rfl ?_⟩
        exact ⟨_, rfl, D, _, rfl, .inl (.of (kp2.at_ _ _ (by simp) hD)), rfl, by rw [hyl2]; exact q _ (k2.trans kp2)⟩
      · obtain ⟨y, yr, rfl, hy, hyr⟩ := hxs2.cons'
        obtain ⟨y2, yr2, rfl, hy2, hyr2⟩ := hyr.cons'
        obtain ⟨y3, yr3, rfl, hy3, hyr3⟩ := hyr2.cons'
        cases hyr3
        refine ⟨_, rfl, (by show 4 ≤ sizeLine; decide), fun p np => ⟨p, _, rfl, .inr (.of upd_same), rfl, rfl, _, rfl, iff' (by decide +kernel) ?_⟩⟩
        have kp := Keep.new (o := .tup [.str "dull", .str "give", .str "go", .str "tell"]) np (Keep.refl [] H2)
        generalize upd H2 p (.tup [.str "dull", .str "give", .str "go", .str "tell"]) = H3 at kp
        refine ⟨_, rfl, rfl, _, rfl, iff' (by decide +kernel) ?_⟩
        refine ⟨_, rfl, (by show 3 ≤ sizeLine; decide), fun p2 np2 => ⟨p2, _, rfl, .inr (.of upd_same), rfl, rfl, _, rfl, iff' (by decide +kernel) ?_⟩⟩
        have kp2 := kp.new_ (o := .tup [.str "shape", .str "call", .str "close"]) np2
        generalize upd H3 p2 (.tup [.str "shape", .str "call", .str "close"]) = H4 at kp2
        have hq4 := kp2.sqT hq2
        have hD4 := kp2.at_ _ _ (by simp) hD
        have hy24 := hy2.keep kp2
        have k4 := k2.trans kp2
        refine ⟨_, rfl, rfl, _, rfl, iff' (by decide +kernel) ?_⟩
        refine ⟨_, rfl, a, _, rfl, .inr hq4, rfl, _, rfl, iff' (by simp) ?_⟩
        refine ⟨_, rfl, D, _, rfl, .inl (.of hD4), rfl, _, rfl, iff' (by rw [hyl2]; rfl) ?_⟩
        refine ⟨_, rfl, a, _, 2, y2, rfl, rfl, hq4, atI_nat (j := 2) rfl, _, _, .type "tuple", .type "tuple", true, rfl, .ty "tuple", tyx_of hy24, kit_ty (a := "tuple") (b := "tuple") (by decide +kernel), _, rfl, iff' rfl ?_⟩
        obtain ⟨ua, z, rfl, hua, hz⟩ := hy24.t1
        obtain ⟨pa, z1, z2, rfl, hpa, hz1, hz2⟩ := hz.t2
        obtain rfl := hz1.s
        obtain rfl := hz2.i
        refine ⟨_, rfl, a, _, 2, .ref ua, rfl, rfl, hq4, atI_nat (j := 2) rfl, ua, rfl, ⟨_, hua⟩, fun D2 nD2 => ?_⟩
        refine lc_it (walk_tup (xs := [V.ref pa])) (fun i H' => Keep [] H4 H' ∧ H' D2 = some (.lst [])) ⟨Keep.new nD2 (Keep.refl _ _), upd_same⟩ (fun i H' _ ⟨k, _⟩ => k.sqT hua) (fun i y H5 H6 hi ⟨k, hD5⟩ yy => ?_) (fun H5 ⟨k, hD5⟩ => ?_)
        · obtain ⟨rfl, ey⟩ := yy
          have hi0 : i = 0 := by
            have : i < 1 := hi
            omega
          subst hi0
          cases ey
          refine ⟨rfl, ?_⟩
          refine ⟨_, rfl, pa, _, rfl, .inr (k.sqT hpa), rfl, _, rfl, iff' (by simp) ?_⟩
          refine ⟨_, rfl, pa, _, 0, .str n, rfl, rfl, k.sqT hpa, atI_nat (j := 0) rfl, _, _, .type "str", .type "str", true, rfl, .ty "str", .base (.str n), kit_ty (a := "str") (b := "str") (by decide +kernel), _, rfl, iff' rfl ?_⟩
          refine ⟨_, rfl, pa, _, 1, .int (l : Int), rfl, rfl, k.sqT hpa, atI_nat (j := 1) rfl, _, _, .type "int", .type "int", true, rfl, .ty "int", .base (.int _), kit_ty (a := "int") (b := "int") (by decide +kernel), _, rfl, iff' rfl ?_⟩
          exact ⟨k, hD5⟩
        · refine ⟨by decide, fun q0 nq => ⟨D2, q0, [], rfl, rfl, .inl ⟨.of ((Keep.new nq (Keep.refl [] H5)).at_ _ _ (by simp) hD5), .of upd_same⟩, ?_⟩⟩
          exact q _ ((k4.trans k).new_ nq)
end
end K46
/-! K46R8 -/
set_option maxHeartbeats 4000000
/-! ### the set of a list of texts, no two alike: how many -/
namespace K46
open PySem PySem.Spec PyProof.Rows
section
variable {prog : Program} {w : World} {A : Around} {R : Result → Shared → Prop} {I : Addr} {fp wr : List Addr} {G : Array GenState → Array GenState → Prop} {n : Nat} {P : Nat → Value → Prop} {St : Nat → Shared → Prop}
theorem loopTxt (W : WalksS prog w A.in1 I fp wr G n P St) (S : Addr) (hSf : S ∉ fp) (xs : List Str) (hsz : xs.length = n) (hn1 : n + 1 < scanBound) (hnd : xs.Nodup)
    (hval : ∀ i v, P i v → ∃ t, v = .str (xs.getD i Str.empty) t) :
    ∀ (k i : Nat) (s : Shared), n - i = k → i ≤ n → St i s →
      s.heap.SetOf (PySem.strKind prog w) S (fun k' => (xs.take i).any (· == k')) i →
      (∀ s', Moved (S :: wr) G s s' → s'.heap.SetOf (PySem.strKind prog w) S (fun k' => (xs.take n).any (· == k')) n → R (.ok (.ret .none)) s') →
      codeAny (model prog w) A (.builtin "set.update.loop" ⟨[.ref S, .ref I], []⟩) R s := by
  have hSw : S ∉ wr := fun h => hSf (W.sub _ h)
  have hsub : ∀ b ∈ wr, b ∈ S :: wr := fun b hb => List.mem_cons_of_mem _ hb
  intro k
  induction k with
  | zero =>
    intro i s hk hi hst hS hR
    have hin : i = n := by omega
    subst hin
    refine codeAny_builtin PyProof.Rows.F.entry_set_update_loop ?_
    rw [Around.under_plainId PyProof.Rows.F.plain_set_update_loop _]
    show wpAny _ A.in1 (pyNext (.ref I) >>= _) _ _ s
    refine wpAny_bind (W.done s _ _ hst fun s' hm => ?_)
    show wpAny _ A.in1 (ret Value.none) _ _ s'
    exact wpAny_pure (hR s' (hm.mono hsub) (by
      obtain ⟨o, es, ep, t, ho, rest⟩ := hS
      exact ⟨o, es, ep, t, hm.heap S _ hSw ho, rest⟩))
  | succ k ih =>
    intro i s hk hi hst hS hR
    have hlt : i < n := by omega
    refine codeAny_builtin PyProof.Rows.F.entry_set_update_loop ?_
    rw [Around.under_plainId PyProof.Rows.F.plain_set_update_loop _]
    show wpAny _ A.in1 (pyNext (.ref I) >>= _) _ _ s
    refine wpAny_bind (W.item i s _ _ hlt hst fun v s' hP hst' hm => ?_)
    obtain ⟨t, rfl⟩ := hval i v hP
    have hS' : s'.heap.SetOf (PySem.strKind prog w) S (fun k' => (xs.take i).any (· == k')) i := by
      obtain ⟨o, es, ep, tb, ho, rest⟩ := hS
      exact ⟨o, es, ep, tb, hm.heap S _ hSw ho, rest⟩
    show wpAny _ A.in1 (holding [Value.str (xs.getD i Str.empty) t] (setAdd S (.str (xs.getD i Str.empty) t)) >>= _) _ _ s'
    refine wpAny_bind (wpAny_holding ?_)
    unfold setAdd
    refine wpAny_holding ?_
    refine wpAny_bind ((PySem.strKind prog w).pyHash (k := xs.getD i Str.empty) (strKind_is _ _ _ _) ?_)
    refine wpAny_setAddHashed_of (knd := PySem.strKind prog w) (s := { s' with toks := s'.toks + 1 }) (strKind_is _ _ _ _) rfl hS' (by omega) fun h' hsb hS2 => ?_
    have hSi : h'.SetOf (PySem.strKind prog w) S (fun k' => (xs.take (i + 1)).any (· == k')) (i + 1) := by
      have hlx : i < xs.length := by omega
      have e1 : xs.getD i Str.empty = xs[i] := by rw [List.getD_eq_getElem?_getD, List.getElem?_eq_getElem hlx] <;> rfl
      have e2 : xs.take (i + 1) = xs.take i ++ [xs[i]] := by rw [List.take_add_one, List.getElem?_eq_getElem hlx] <;> rfl
      have no : ((xs.take i).any (· == xs[i])) = false := by
        refine Bool.eq_false_iff.mpr fun z => ?_
        obtain ⟨y, hy, ey⟩ := List.any_eq_true.mp z
        rw [eq_of_beq ey] at hy
        have hnd2 : (xs.take (i + 1)).Nodup := hnd.sublist (List.take_sublist _ _)
        rw [e2] at hnd2
        exact (List.nodup_append.mp hnd2).2.2 _ hy _ (List.mem_singleton.mpr rfl) rfl
      rw [e1] at hS2
      refine SetOf_congr hS2 (fun k' => ?_) (by rw [no]; rfl)
      rw [e2, List.any_append, List.any_cons, List.any_nil, Bool.or_false]
      congr 1
      by_cases e : k' = xs[i]
      · rw [decide_eq_true e, e]
        exact (beq_self_eq_true _).symm
      · rw [decide_eq_false e]
        exact (beq_eq_false_iff_ne.mpr fun z => e z.symm).symm
    refine wpAny_pure ⟨plainId_quiet PyProof.Rows.F.plain_set_update_loop _, ih (i + 1) _ (by omega) hlt (W.frame _ s' _ _ hst' (Nat.le_succ _) fun b hb o e => ?_) hSi fun s'' hm'' hS'' => ?_⟩
    · rw [hsb.2 b (fun h : b = S => hSf (by rw [← h]; exact hb))]; exact e
    · refine hR s'' (Moved.trans W.gtrans ((hm.mono hsub).then_heap (Nat.le_succ _) fun b o hb e => ?_) hm'') hS''
      rw [hsb.2 b (fun h : b = S => hb (by rw [h]; exact List.mem_cons_self))]; exact e
end
section
variable {prog : Program} {w : World} {A : Around} {E : Value → Shared → Prop} {s : Shared}
theorem call_set_txt {l : Addr} {items : Array Value} {xs : List Str} {Q : Value → Shared → Prop}
    (hh : A.handled = none) (hl : s.heap.IsList l items) (hi : PyProof.Rows.StrsAre items.toList xs) (hn1 : xs.length + 1 < scanBound) (hnd : xs.Nodup)
    (h : ∀ (h' : Heap) (tk : Nat), h'.SetOf (PySem.strKind prog w) s.heap.objs.size (fun k' => (xs.take items.size).any (· == k')) items.size →
      (∀ b o, b < s.heap.objs.size → s.heap.get? b = some o → h'.get? b = some o) → Q (.ref s.heap.objs.size) { s with heap := h', toks := tk }) :
    wpAny (model prog w) A (call (.type "set") [.ref l]) Q E s := by
  obtain ⟨c, tl, hmro⟩ := PySem.F.called_set.mro
  have hmade := PySem.F.called_set.made
  have hsub := PySem.F.called_set.sub
  refine wpAny_call (codeAny_of_tree ?_)
  show wpAny _ _ (callAny (.type "set") _) _ _ _
  refine wpAny_pure ⟨Code.quiet_builtin _ (by decide +kernel), codeAny_builtin PySem.F.entry_type_call ?_⟩
  rw [Around.under_plain (weight_type_call_type "set" [.ref l] []) rfl]
  have h1 := PySem.F.called_set.notType
  have h2 := PySem.F.called_set.canCreate
  have hct := PySem.F.typeCall_set_1 (.ref l)
  repeat (any_goals (first | assumption | wp_step))

  refine codeAny_mono (code_set_new_1 (.ref l) (E := E) (Q₁ := fun obj s₁ => ∃ led : Bool, obj = .ref s.heap.objs.size ∧ s₁ = { s with heap := s.heap.push { cls := .type "set", dict := none, data := .set #[] 0 (.fresh 0 0 led) } }) fun led => ⟨led, rfl, rfl⟩) fun r s₁ hr => ?_
  cases r with
  | error e => exact hr
  | ok fl =>
    cases fl with
    | ret obj =>
      obtain ⟨led, rfl, rfl⟩ := hr
      have hS : (s.heap.push { cls := .type "set", dict := none, data := .set #[] 0 (.fresh 0 0 led) }).get? s.heap.objs.size = some { cls := .type "set", dict := none, data := .set #[] 0 (.fresh 0 0 led) } := Heap.get?_push_size _ rfl
      have hT : Shared.TypeIs { s with heap := s.heap.push { cls := .type "set", dict := none, data := .set #[] 0 (.fresh 0 0 led) } } (.ref s.heap.objs.size) "set" := ⟨_, hS, rfl⟩
      have hli := PySem.F.called_set.init.lookup
      have hbi := PySem.F.called_set.init.bind (.ref s.heap.objs.size)
      repeat (any_goals (first | assumption | wp_step))

      refine codeAny_mono (codeAny_call_builtin (R := wants (fun r s₂ => r = .none ∧ ∃ h' tk, s₂ = { s with heap := h', toks := tk } ∧
          h'.SetOf (PySem.strKind prog w) s.heap.objs.size (fun k' => (xs.take items.size).any (· == k')) items.size ∧
          (∀ b o, b < s.heap.objs.size → s.heap.get? b = some o → h'.get? b = some o)) E) PySem.F.called_set.init.plain PySem.F.entry_set_init (check_set_init_1 hT ?_)) fun r₂ s₂ hr₂ => ?_
      · obtain ⟨ol, hol, hcl, nl, hdl⟩ := hl
        obtain ⟨ocls, odict, odata, oslots⟩ := ol
        simp only at hcl hdl
        subst hcl; subst hdl
        have hol' : (s.heap.push { cls := .type "set", dict := none, data := .set #[] 0 (.fresh 0 0 led) }).get? l = some { cls := .type "list", dict := odict, data := .seq items nl, slots := oslots } := Heap.get?_push_of_some _ hol
        have hsls := PySem.F.sub_list_set
        have hslf := PySem.F.sub_list_frozenset
        have hne : (Value.type "list" == Value.type "dict") = false := by decide
        have hl1 : (s.heap.push { cls := .type "set", dict := none, data := .set #[] 0 (.fresh 0 0 led) }).IsList l items := ⟨_, hol', rfl, nl, rfl⟩
        unfold Builtin.«set.__init__» noKeywords Builtin.Frozenset.updateFrom
        generalize hPI : pyIter = PI
        wp_walk
        subst hPI

        refine wpAny_pyIter_list hl1 ?_
        refine wpAny_bind (wpAny_runValue ?_)
        have hlS : l < s.heap.objs.size := Heap.lt_size hol
        have hh3 : A.in1.in1.in1.handled = none := by simp [hh]
        have hneI : l ≠ (s.heap.push { cls := .type "set", dict := none, data := .set #[] 0 (.fresh 0 0 led) }).objs.size := by
          rw [Heap.size_push]; exact Nat.ne_of_lt (Nat.lt_succ_of_lt hlS)
        have hSf : s.heap.objs.size ∉ [(s.heap.push { cls := .type "set", dict := none, data := .set #[] 0 (.fresh 0 0 led) }).objs.size, l] := by
          rw [Heap.size_push]; simp only [List.mem_cons, List.mem_singleton, List.not_mem_nil, or_false, not_or]
          exact ⟨Nat.ne_of_lt (Nat.lt_succ_self _), Nat.ne_of_gt hlS⟩
        have hsz : xs.length = items.size := by rw [← StrsAre.len_eq hi, Array.length_toList]
        have hval : ∀ (i : Nat) (v : Value), items[i]? = some v → ∃ t, v = .str (xs.getD i Str.empty) t := fun i v hv => SS.strs_at hi i v (by rw [Array.getElem?_toList]; exact hv)
        refine loopTxt ((Walks.list hh3 _ l hneI items).toS) s.heap.objs.size
          hSf xs hsz (by rw [← hsz]; exact hn1) hnd hval (items.size - 0) 0 _ (by omega) (Nat.zero_le _)
          ⟨⟨_, Heap.get?_push_size _ rfl, rfl, rfl⟩, (hl1.push _)⟩ ?hS0 ?hR
        case hS0 =>
          have hget : ((s.heap.push { cls := .type "set", dict := none, data := .set #[] 0 (.fresh 0 0 led) }).push { cls := .type "list_iterator", data := .fields #[.ref l, .int 0 0] }).get? s.heap.objs.size
              = some { cls := .type "set", dict := none, data := .set #[] 0 (.fresh 0 0 led) } := Heap.get?_push_of_some _ hS
          exact PyProof.Rows.SetOf_congr ((PyProof.Rows.setObjOf_fresh (knd := PySem.strKind prog w) led).setOf hget (by unfold scanBound; omega)) (fun _ => rfl) rfl
        case hR =>
          intro s' hm hS'
          obtain ⟨h', g', d', tk', os'⟩ := s'
          have eg : g' = s.gens := hm.gens
          have ed : d' = s.drawn := hm.drawn
          have eo : os' = s.os := hm.os
          subst eg; subst ed; subst eo
          show wpAny _ _ _ _ _ _
          refine wpAny_pure ?_
          show wpAny _ _ (ret Value.none) _ _ _
          refine wpAny_pure ⟨rfl, h', tk', rfl, hS', fun b o hb e => ?_⟩
          have hb1 : b ≠ s.heap.objs.size := Nat.ne_of_lt hb
          have hb2 : b ≠ (s.heap.push { cls := .type "set", dict := none, data := .set #[] 0 (.fresh 0 0 led) }).objs.size := by
            rw [Heap.size_push]; exact Nat.ne_of_lt (Nat.lt_succ_of_lt hb)
          exact hm.heap b o (by simp only [List.mem_cons, List.mem_singleton, List.not_mem_nil, or_false, not_or]; exact ⟨hb1, hb2⟩) (Heap.get?_push_of_some _ (Heap.get?_push_of_some _ e))

      · cases r₂ with
        | error e => exact hr₂
        | ok fl₂ =>
          cases fl₂ with
          | ret r =>
            obtain ⟨rfl, h', tk, rfl, hS', hk'⟩ := hr₂
            repeat (any_goals (first | assumption | wp_step))
            exact h _ _ hS' hk'
          | _ => exact hr₂.elim
    | _ => exact hr.elim
end
open L2
def tLenSetT (K : PySem.W.Frag) (ta : TE) : TE := fun σ H Q => ta σ H fun x H1 => ∃ (l : Addr) (xs : List Str), x = .ref l ∧ SqL K H1 l (xs.map V.str) ∧ xs.Nodup ∧ xs.length ≤ 4000 ∧ Q (.int (xs.length : Nat)) H1
theorem pe_lenSetT {X : Cx} {a : Expr} {ta : TE} {p p2 q pos : Pos} (hc : X.calm = true) (hg : Gl X "len") (hm : X.mg "len" = none) (hg2 : Gl X "set") (hm2 : X.mg "set" = none) (ha : PE X a ta)
    (na : starEach [a] X.env = (false, eval a X.env) :: starEach [] X.env := by rfl) : PE X (.Call (.Name "len" p) [.Call (.Name "set" p2) [a] [] q] [] pos) (tLenSetT X.K ta) := by
  refine ⟨fun pins s σ H Q I h => Call_ (ld_blt I hg hm boot_len (PyProof.Rows.callWith_builtin1 (PyProof.Rows.args_cons ?_ rfl) rfl rfl))⟩
  refine Call_ (ld_blt I hg2 hm2 boot_set ?_)
  refine PyProof.Rows.callWith_type1 (PyProof.Rows.args_cons (thn (ha.run pins s σ H _ I h) fun v s1 ⟨x, H1, I1, r1, q1⟩ => PyProof.Rows.args_nil ?_) na) na rfl
  obtain ⟨l, xs, rfl, hq, hnd, hlen, q1⟩ := q1
  cases r1
  obtain ⟨its, r, pl, hz⟩ := I1.list hq
  have hl : its.toArray.size = xs.length := by rw [List.size_toArray, ← r.length, List.length_map]
  refine call_set_txt (xs := xs) (I1.ok.hd hc) pl.isList (by simpa using strsAre_of r) (by unfold scanBound; omega) hnd fun h' tk hS hk => ?_
  refine PyProof.Rows.args_nil ?_
  obtain ⟨o, es, ep, t, ho, hex, hd, _, _, _, hf, hn⟩ := hS
  have I2 : Inv X pins σ H1 { s1 with heap := h', toks := tk } := I1.kept fun b o e => hk b o (Heap.lt_size e) e
  exact call_len_set ho hex hd hf (by rw [hn] <;> omega) ⟨.int xs.length, H1, I2.tok _, ⟨_, by rw [hn, hl]⟩, q1⟩
end K46
/-! K46L8 -/
set_option maxHeartbeats 4000000
namespace K46
open PySem PySem.Spec PyProof.Rows L2 C8
theorem pi_listK {X : Cx} {tg l : Expr} {tl : TE} {K : PySem.W.Frag} (h : X.K = K) (hl : PE X l tl) : PI X tg l (iList K tl) := h ▸ pi_list hl
def codeSum : List Bk → Nat
  | [] => 0
  | b :: bs => b.code.length + codeSum bs
theorem codeSum_append : ∀ a b : List Bk, codeSum (a ++ b) = codeSum a + codeSum b
  | [], b => by simp [codeSum]
  | x :: a, b => by
    have := codeSum_append a b
    simp only [List.cons_append, codeSum, this]
    omega
/-- what is made, by form -/
structure FormOk (g : List Df) (bs : List Bk) : Prop where
  nd : (nmB bs).Nodup
  few : bs.length ≤ 4000
  sum : codeSum bs ≤ 10000000
  defs : ∀ d ∈ g, ∃ b ∈ bs, b.name = d.name ∧ b.many = d.many
  term : ∃ b ∈ bs, b.name = Str.ofString "." ∧ b.many = 0
  only : ∀ b ∈ bs, (∃ d ∈ g, b.name = d.name) ∨ b.name = Str.ofString "." ∨ ∃ k, k ≤ 4000 ∧ b.name = dot k
  gs : g.length ≤ 4000
section
variable {K : PySem.W.Frag} {H : Hp}
def encKB (b : Bk) : K46.D := .tup [.str b.name, encB b]
theorem pairsB : ∀ {bs : List Bk} {ys : List V}, AtL K H ys (bs.map encKB) → ∃ (ps : List Addr) (kvs : List (Key × V)), ys = ps.map V.ref ∧ Paired (fun p kv => SqT K H p [kV kv.1, kv.2]) ps kvs ∧ kvs.map (·.1) = bs.map (fun b => (Sum.inr b.name : Key)) ∧ AtL K H (kvs.map (·.2)) (bs.map encB)
  | [], _, h => by
    cases h
    exact ⟨[], [], rfl, .nil, rfl, .nil⟩
  | b :: bs, _, h => by
    obtain ⟨y, ys, rfl, h1, h2⟩ := AtL.cons' h
    obtain ⟨ps, kvs, rfl, p, r1, r2⟩ := pairsB h2
    obtain ⟨a, x1, x2, rfl, hq, z1, z2⟩ := h1.t2
    obtain rfl := z1.s
    refine ⟨a :: ps, (.inr b.name, x2) :: kvs, rfl, .cons hq p, ?_, .cons z2 r2⟩
    simp only [List.map_cons, r1]
theorem merge_new : ∀ (kvs acc : List (Key × V)), (acc.map (·.1) ++ kvs.map (·.1)).Nodup → mergeK acc kvs = acc ++ kvs
  | [], acc, _ => by simp [mergeK]
  | kv :: kvs, acc, h => by
    have hn : valV acc kv.1 = none := by
      cases e : valV acc kv.1 with
      | none => rfl
      | some v =>
        obtain ⟨p, h1, h2⟩ := Option.map_eq_some_iff.mp e
        have hm := List.mem_of_find?_eq_some h1
        have hk := List.find?_some h1
        simp only [decide_eq_true_eq] at hk
        have := (List.nodup_append.mp h).2.2 p.1 (List.mem_map.mpr ⟨p, hm, rfl⟩) kv.1 (by simp)
        exact absurd hk this
    show mergeK (putK acc kv.1 kv.2) kvs = _
    rw [putK_new _ hn, merge_new kvs (acc ++ [(kv.1, kv.2)]) (by simpa using h)]
    simp
theorem keys_nodup {bs : List Bk} (h : (nmB bs).Nodup) : (bs.map (fun b => (Sum.inr b.name : Key))).Nodup := by
  have : bs.map (fun b => (Sum.inr b.name : Key)) = (nmB bs).map (fun x => (Sum.inr x : Key)) := by rw [nmB, List.map_map]; rfl
  rw [this]
  exact List.Pairwise.map _ (fun a b hab e => hab (Sum.inr.inj e)) h
/-- a block by its name -/
theorem known_get {b : Bk} : ∀ {bs : List Bk} {kvs : List (Key × V)}, (nmB bs).Nodup → kvs.map (·.1) = bs.map (fun b => (Sum.inr b.name : Key)) → AtL K H (kvs.map (·.2)) (bs.map encB) → b ∈ bs → ∃ v, valV kvs (.inr b.name) = some v ∧ At K H v (encB b)
  | [], _, _, _, _, hm => by cases hm
  | c :: bs, [], _, hk, _, _ => by cases hk
  | c :: bs, (k, v) :: kvs, nd, hk, hv, hm => by
    simp only [List.map_cons, List.cons.injEq] at hk
    obtain ⟨rfl, hk⟩ := hk
    obtain ⟨nd1, nd2⟩ := List.nodup_cons.mp (show (c.name :: nmB bs).Nodup from nd)
    cases hv with
    | cons h1 h2 =>
      rcases List.mem_cons.mp hm with rfl | hm
      · exact ⟨v, valV_pos rfl, h1⟩
      · have hne : ¬ ((Sum.inr c.name : Key) = Sum.inr b.name) := fun e => nd1 (List.mem_map.mpr ⟨b, hm, (Sum.inr.inj e).symm⟩)
        obtain ⟨v', e1, e2⟩ := known_get nd2 hk h2 hm
        exact ⟨v', by rw [valV_neg hne]; exact e1, e2⟩
end
/-! ### names of blocks: a dot and digits -/
theorem isDigit_num : ∀ d, 48 ≤ d → d ≤ 57 → Unicode.isDigit d = true := fun d h1 h2 => (by decide +kernel : ∀ d < 58, 48 ≤ d → Unicode.isDigit d = true) d (by omega) h1
theorem dot_cut0 (k : Nat) : cutS (dot k) none (some 1) = Str.ofString "." := by
  apply TL.ext_tl
  have h := tl_cutTo (dot k) 1
  rw [show ((1 : Nat) : Int) = 1 from rfl] at h
  rw [h, tl_dot, show TL.tl (Str.ofString ".") = [46] by decide +kernel]
  rfl
theorem dot_cut1 (k : Nat) : TL.tl (cutS (dot k) (some 1) none) = TL.numL k := by
  have h := tl_cutFrom (dot k) 1
  rw [show ((1 : Nat) : Int) = 1 from rfl] at h
  rw [h, tl_dot]
  rfl
theorem dot_digits (k : Nat) : Txt.isdigit (cutS (dot k) (some 1) none) = true := by
  have h := dot_cut1 k
  generalize cutS (dot k) (some 1) none = x at h
  have hne := TL.numL_ne k
  unfold Txt.isdigit
  rw [Bool.and_eq_true]
  refine ⟨decide_eq_true ?_, Array.all_eq_true_iff_forall_mem.mpr fun c hc => ?_⟩
  · rw [TL.len_tl, h]
    cases hq : TL.numL k with
    | nil => exact absurd hq hne
    | cons a b => simp
  · have hm : c ∈ TL.numL k := by
      rw [← h]
      exact Array.mem_toList_iff.mpr hc
    obtain ⟨h1, h2⟩ := TL.numL_digits k c hm
    exact isDigit_num c h1 h2
theorem dot_len {k : Nat} (h : k ≤ 4000) : (dot k).length ≤ 10 := by
  rw [TL.len_tl, tl_dot, List.length_cons]
  have := TL.numL_len (n := k) (k := 4) (by decide) (by omega)
  omega
theorem keep_lock {H H1 : Hp} {d : Addr} {kvs : List (Key × V)} {od : Obj} (h : H d = some (.dK kvs)) (k : Keep [] (upd H d (.frz od (.dK kvs))) H1) : Keep [] H (upd H1 d (.dK kvs)) := by
  have go : ∀ b o, H b = some o → upd H1 d (.dK kvs) b = some o := fun b o e => by
    by_cases n : b = d
    · rw [n, upd_same]
      rw [n, h] at e
      exact e
    · rw [upd_ne n]
      exact k.at_ b o (by simp) (by rw [upd_ne n]; exact e)
  exact ⟨fun b o _ e => go b o e, fun b xs e => go b _ e, fun b o u e => go b _ e⟩
theorem inV_mem {n : Str} : ∀ {xs : List Str}, n ∈ xs → inV (.str n) (xs.map V.str) = true := fun {xs} h => by
  unfold inV
  rw [List.any_eq_true]
  exact ⟨.str n, List.mem_map.mpr ⟨n, h, rfl⟩, by simp [eqV]⟩
theorem flat_strs : ∀ xs : List Str, (xs.map V.str).all flatV = true
  | [] => rfl
  | x :: xs => by
    rw [List.map_cons, List.all_cons, flat_strs xs]
    rfl
end K46
/-! K46L9 -/
set_option maxHeartbeats 4000000
namespace K46
open PySem PySem.Spec PyProof.Rows L2 C8
def heads (g : List Df) : List (Str × Nat) := (g.map fun d => (d.name, d.many)) ++ [(Str.ofString ".", 0)]
theorem AtL.strs {K : PySem.W.Frag} {H : Hp} : ∀ {bs : List Bk} {ys : List V}, AtL K H ys (bs.map fun b => K46.D.str b.name) → ys = (nmB bs).map V.str
  | [], _, h => by
    cases h
    rfl
  | b :: bs, _, h => by
    obtain ⟨y, ys, rfl, h1, h2⟩ := AtL.cons' h
    rw [h1.s, AtL.strs h2]
    rfl
theorem AtL.strs' {K : PySem.W.Frag} {H : Hp} : ∀ {bs : List (Str × Nat)} {ys : List V}, AtL K H ys (bs.map fun x => K46.D.str x.1) → ys = (bs.map (·.1)).map V.str
  | [], _, h => by
    cases h
    rfl
  | b :: bs, _, h => by
    obtain ⟨y, ys, rfl, h1, h2⟩ := AtL.cons' h
    rw [h1.s, AtL.strs' h2]
    rfl
section
variable {P : Program} {w : World} {K : PySem.W.Frag} {mg : Str → Option Value} {base : Heap}
def sp_are_blocks (K : PySem.W.Frag) : Sp := fun vs H Q _ => ∃ (gv bv : V) (g : List Df) (bs : List Bk), vs = [gv, bv] ∧ At K H gv (encG g) ∧ At K H bv (encBs bs) ∧ FormOk g bs ∧ ∀ H', Keep [] H H' → Q (.bl true) H'
theorem ok_are_blocks (T : Tx K mg) : Cal P w K mg base 2 "_law_are_blocks" (sp_are_blocks K) [] := by
  have c_is_row := ok_is_row (P := P) (w := w) (base := base) T
  refine cal_mk T.f_are_blocks T.g_are_blocks sc_are_blocks (fun _ _ _ _ _ _ us hl => match us, hl with | [_, _], _ => rfl) (fun vs H Q E h => ?_) (fun cdv A outer s0 H vs Q E hr h => ?_)
  · obtain ⟨gv, bv, g, bs, rfl, _⟩ := h
    rfl
  · obtain ⟨gv, bv, g, bs, rfl, hg, hb, ok, q⟩ := h
    refine ⟨_, (pss_cons (ps_if (PW.pt (pw_or (pt_not (pt_val (pe_callB call_isi (by rfl) T.z_isinstance (by decide +kernel) (pa_cons (pv 1) (pa_cons (pe_bltn (v := .ty "tuple") rfl T.z_tuple (by decide +kernel) rfl) pa_nil))))) (pw_or1 (pt_cmpR op_ne (pe_lenSetT rfl rfl T.z_len rfl T.z_set (pe_lc (g := (gName 2)) rfl sc_are_blocks.nd (pi_tup (pv 1)) (blkOk_by (own := [("_law_block", 2)]) (N := ["_law_program_here", "_law_blocks", "_law_block", "_law_known", "_law_heads", "_law_name", "_law_many", "_law_rows", "_law_others", "_law_head", "_law_code", "_law_row_here"]) (sc := defScope s_are_blocks) (by decide +kernel)) (fun _ _ _ _ _ => (pg_name (i := 2) sc_are_blocks.nd rfl (Or.inl rfl))) (fun _ _ _ _ _ => pts_nil) (fun _ _ _ _ _ => (pe_ix (ix_tupK (K := K) rfl) (pv 2) pe_int (fun _ _ => rfl))))) (pe_callB call_len_seq (by rfl) T.z_len PySem.boot_len (pa_cons (pv 1) pa_nil)) (nomark _))))) (pss_one (ps_ret pe_bl)) pss_nil)
      (pss_cons (ps_set (i := 3) sc_are_blocks.nd rfl (Or.inr rfl) (pe_callTy (call_dictP rfl) (by rfl) T.z_dict (by decide +kernel) (pa_cons (pe_lc (g := (gName 2)) rfl sc_are_blocks.nd (pi_tup (pv 1)) (blkOk_by (own := [("_law_block", 2)]) (N := ["_law_program_here", "_law_blocks", "_law_block", "_law_known", "_law_heads", "_law_name", "_law_many", "_law_rows", "_law_others", "_law_head", "_law_code", "_law_row_here"]) (sc := defScope s_are_blocks) (by decide +kernel)) (fun _ _ _ _ _ => (pg_name (i := 2) sc_are_blocks.nd rfl (Or.inl rfl))) (fun _ _ _ _ _ => pts_nil) (fun _ _ _ _ _ => (pe_tup (pa_cons (pe_ix (ix_tupK (K := K) rfl) (pv 2) pe_int (fun _ _ => rfl)) (pa_cons (pv 2) pa_nil))))) pa_nil)))
      (pss_cons (ps_set (i := 4) sc_are_blocks.nd rfl (Or.inr rfl) (pe_op op_cat (pe_lc (g := (gTup K 3 (gCons (gName 5) (gCons (gName 6) (gCons (gName 7) gNil))))) rfl sc_are_blocks.nd (pi_tup (pv 0)) (blkOk_by (own := [("_law_name", 5), ("_law_many", 6), ("_law_rows", 7)]) (N := ["_law_program_here", "_law_blocks", "_law_block", "_law_known", "_law_heads", "_law_name", "_law_many", "_law_rows", "_law_others", "_law_head", "_law_code", "_law_row_here"]) (sc := defScope s_are_blocks) (by decide +kernel)) (fun _ _ _ _ _ => (pg_tup rfl (pgs_cons (pg_name (i := 5) sc_are_blocks.nd rfl (Or.inl rfl)) (pgs_cons (pg_name (i := 6) sc_are_blocks.nd rfl (Or.inl rfl)) (pgs_cons (pg_name (i := 7) sc_are_blocks.nd rfl (Or.inl rfl)) pgs_nil))))) (fun _ _ _ _ _ => pts_nil) (fun _ _ _ _ _ => (pe_tup (pa_cons (pv 5) (pa_cons (pv 6) pa_nil))))) (pe_lst (pa_cons (pe_tup (pa_cons pe_str (pa_cons pe_int pa_nil))) pa_nil))))
      (pss_cons (ps_if (pt_cmpR (op_ne0 hr.units0) (pe_lc (g := (gTup K 2 (gCons (gName 5) (gCons (gName 6) gNil)))) rfl sc_are_blocks.nd (pi_list (pv 4)) (blkOk_by (own := [("_law_name", 5), ("_law_many", 6)]) (N := ["_law_program_here", "_law_blocks", "_law_block", "_law_known", "_law_heads", "_law_name", "_law_many", "_law_rows", "_law_others", "_law_head", "_law_code", "_law_row_here"]) (sc := defScope s_are_blocks) (by decide +kernel)) (fun _ _ _ _ _ => (pg_tup rfl (pgs_cons (pg_name (i := 5) sc_are_blocks.nd rfl (Or.inl rfl)) (pgs_cons (pg_name (i := 6) sc_are_blocks.nd rfl (Or.inl rfl)) pgs_nil)))) (fun _ _ _ _ _ => (pts_one (PW.pt (pw_or (pt_cmp (pc_dnotin (hu_of hr) (pv 5) (pv 3))) (pw_or1 (pt_cmpR op_ne (pe_ix (ix_tupK (K := K) rfl) (pe_dget (hu_of hr) (pv 3) (pv 5) (fun _ _ => rfl)) pe_int (fun _ _ => rfl)) (pv 6) (nomark _))))))) (fun _ _ _ _ _ => (pv 5))) (pe_lst pa_nil) (nomark _)) (pss_one (ps_ret pe_bl)) pss_nil)
      (pss_cons (ps_lock (ps_setLc (i := 8) (g := (gName 5)) rfl sc_are_blocks.nd rfl rfl (sw_true rfl rfl rfl (by decide +kernel)) (pi_keys (pv 3)) (blkOk_by (own := [("_law_name", 5)]) (N := ["_law_program_here", "_law_blocks", "_law_block", "_law_known", "_law_heads", "_law_name", "_law_many", "_law_rows", "_law_others", "_law_head", "_law_code", "_law_row_here"]) (sc := defScope s_are_blocks) (by decide +kernel)) (fun _ _ _ _ _ => (pg_name (i := 5) sc_are_blocks.nd rfl (Or.inl rfl))) (fun _ _ _ _ _ => (pts_one (pt_cmpR (op_notIn_seqK (K := K) rfl) (pv 5) (pe_lc (g := (gName 9)) rfl sc_are_blocks.nd (pi_listK (K := K) rfl (pv 4)) (blkOk_by (own := [("_law_head", 9)]) (N := ["_law_program_here", "_law_blocks", "_law_block", "_law_known", "_law_heads", "_law_name", "_law_many", "_law_rows", "_law_others", "_law_head", "_law_code", "_law_row_here"]) (sc := { kind := .function, names := [(".0", .local), ("_law_name", .local), ("_law_heads", .cell)], isGenerator := false, isCoroutine := false }) (by decide +kernel)) (fun _ _ _ _ _ => (pg_name (i := 9) sc_are_blocks.nd rfl (Or.inl rfl))) (fun _ _ _ _ _ => pts_nil) (fun _ _ _ _ _ => (pe_ix (ix_tupK (K := K) rfl) (pv 9) pe_int (fun _ _ => rfl)))) (by rfl)))) (fun _ _ _ _ _ => (pv 5))))
      (pss_cons (ps_if (pt_cmpR (op_ne0 hr.units0) (pe_lc (g := (gName 5)) rfl sc_are_blocks.nd (pi_list (pv 8)) (blkOk_by (own := [("_law_name", 5)]) (N := ["_law_program_here", "_law_blocks", "_law_block", "_law_known", "_law_heads", "_law_name", "_law_many", "_law_rows", "_law_others", "_law_head", "_law_code", "_law_row_here"]) (sc := defScope s_are_blocks) (by decide +kernel)) (fun _ _ _ _ _ => (pg_name (i := 5) sc_are_blocks.nd rfl (Or.inl rfl))) (fun _ _ _ _ _ => (pts_one (PW.pt (pw_or (pt_cmpR op_ne (pe_slice sl_str (pv 5) po_none (po_some pe_int)) pe_str (nomark _)) (pw_or1 (pt_not (pt_val (pe_m0 PySem.F.slot_str_isdigit PySem.F.type_str_isdigit mt_isdigit (pe_slice sl_str (pv 5) (po_some pe_int) po_none))))))))) (fun _ _ _ _ _ => (pv 5))) (pe_lst pa_nil) (nomark _)) (pss_one (ps_ret pe_bl)) pss_nil)
      (pss_cons (ps_set (i := 7) sc_are_blocks.nd rfl (Or.inl rfl) (pe_lst pa_nil))
      (pss_cons (ps_for PassesOwn.never rfl (pi_tup (pv 1)) (pg_tup rfl (pgs_cons (pg_name (i := 5) sc_are_blocks.nd rfl (Or.inl rfl)) (pgs_cons (pg_name (i := 6) sc_are_blocks.nd rfl (Or.inl rfl)) (pgs_cons (pg_name (i := 10) sc_are_blocks.nd rfl (Or.inl rfl)) pgs_nil)))) (pss_one (ps_expr (pe_bm PySem.F.plainAttrs_list PySem.F.slot_list_extend PySem.F.type_list_extend mt_extend (pv 7) (pa_cons (pe_callTy call_list_of (by rfl) T.z_list (by decide +kernel) (pa_cons (pv 10) pa_nil)) pa_nil)))))
      (pss_one (ps_ret (pe_cmpR (op_eq0 hr.units0) (pe_lc (g := (gName 11)) rfl sc_are_blocks.nd (pi_list (pv 7)) (blkOk_by (own := [("_law_row_here", 11)]) (N := ["_law_program_here", "_law_blocks", "_law_block", "_law_known", "_law_heads", "_law_name", "_law_many", "_law_rows", "_law_others", "_law_head", "_law_code", "_law_row_here"]) (sc := defScope s_are_blocks) (by decide +kernel)) (fun _ _ _ _ _ => (pg_name (i := 11) sc_are_blocks.nd rfl (Or.inl rfl))) (fun _ _ _ _ _ => (pts_one (PW.pt (pw_or (pt_not (pt_val (pe_callB (call_isiK (K := K) rfl) (by rfl) T.z_isinstance (by decide +kernel) (pa_cons (pv 11) (pa_cons (pe_bltn (v := .ty "tuple") rfl T.z_tuple (by decide +kernel) rfl) pa_nil))))) (pw_or1 (pt_not (pt_val (pe_c c_is_row hr (by omega) rfl (pa_cons (pv 11) pa_nil))))))))) (fun _ _ _ _ _ => (pv 11))) (pe_lst pa_nil) (nomark _)))))))))))), ?_⟩
    have hz2 : 2 ≤ sizeLine := by decide
    have hz4 : 4001 < sizeLine := by decide
    obtain ⟨ba, bxs, rfl, hba, hbx⟩ := id hb.t
    obtain ⟨ga, gxs, rfl, hga, hgx⟩ := id hg.t
    have hbl := hbx.length
    have hgl := hgx.length
    rw [List.length_map] at hbl hgl
    have hfew := ok.few
    have hgs := ok.gs
    refine ⟨_, rfl, _, _, .type "tuple", .type "tuple", true, rfl, .ty "tuple", tyx_of hb, kit_ty (a := "tuple") (b := "tuple") (by decide +kernel), _, rfl, iff' rfl ?_⟩
    refine ⟨_, rfl, ba, rfl, ⟨bxs, hba⟩, fun D nD => lc_data (K := K) (walk_tup (xs := bxs)) (bs.map fun b => K46.D.str b.name) (by rw [List.length_map]; exact hbl.symm) (by omega) nD (fun H k => k.sqT hba) (fun i x H1 H2 d Qn F hi k1 y1 e1 hQ => ?_) (fun ys H1 k1 hD hys => ?_)⟩
    · obtain ⟨rfl, ex⟩ := y1
      obtain ⟨d', e2, hx⟩ := hbx.get' ex
      rw [List.getElem?_map] at e1 e2
      obtain ⟨b, eb, rfl⟩ := Option.map_eq_some_iff.mp e1
      rw [eb] at e2
      cases e2
      obtain ⟨a, x1, x2, x3, rfl, ha, z1, z2, z3⟩ := (hx.keep k1).t3
      obtain rfl := z1.s
      exact ⟨rfl, tyes ⟨_, rfl, a, _, 0, .str b.name, rfl, rfl, ha, atI_nat (j := 0) rfl, hQ _ _ (Keep.refl _ _) (.str _)⟩⟩
    obtain rfl : ys = (nmB bs).map V.str := hys.strs
    refine ⟨D, nmB bs, rfl, .of hD, ok.nd, by rw [nmB, List.length_map]; exact ok.few, _, rfl, ba, bxs, rfl, .inr (k1.sqT hba), rfl, _, rfl, iff' (by simp [nmB, hbl]) ?_⟩
    clear hD hys
    have hbx1 := hbx.keep k1
    have hba1 := k1.sqT hba
    refine ⟨_, rfl, ba, rfl, ⟨bxs, hba1⟩, fun D2 nD2 => lc_data (K := K) (walk_tup (xs := bxs)) (bs.map encKB) (by rw [List.length_map]; exact hbl.symm) (by omega) nD2 (fun H k => k.sqT hba1) (fun i x H2 H3 d Qn F hi k2 y1 e1 hQ => ?_) (fun ys H2 k2 hD2 hys => ?_)⟩
    · obtain ⟨rfl, ex⟩ := y1
      obtain ⟨d', e2, hx⟩ := hbx1.get' ex
      rw [List.getElem?_map] at e1 e2
      obtain ⟨b, eb, rfl⟩ := Option.map_eq_some_iff.mp e1
      rw [eb] at e2
      cases e2
      have hx2 := hx.keep k2
      obtain ⟨a, x1, x2, x3, rfl, ha, z1, z2, z3⟩ := id hx2.t3
      obtain rfl := z1.s
      exact ⟨rfl, tyes ⟨_, rfl, a, _, 0, .str b.name, rfl, rfl, ha, atI_nat (j := 0) rfl, _, rfl, hz2, fun p np => hQ _ _ (Keep.new np (Keep.refl _ _)) (At.new upd_same (.cons (.str _) (.cons (hx2.keep (Keep.new np (Keep.refl [] _))) .nil)))⟩⟩
    obtain ⟨ps, kvs, rfl, hpp, hk1, hk2⟩ := pairsB hys
    refine ⟨D2, ps, kvs, rfl, .of hD2, hpp, fun kd nkd => ?_⟩
    rw [merge_new kvs [] (by rw [hk1]; exact keys_nodup ok.nd), List.nil_append]
    have k3 := Keep.new (o := .dK kvs) nkd (Keep.refl [] H2)
    have hkd : upd H2 kd (.dK kvs) kd = some (.dK kvs) := upd_same
    have hk3 := hk2.keep k3
    generalize upd H2 kd (.dK kvs) = H3 at k3 hkd hk3
    have k03 := k1.trans (k2.trans k3)
    have hga3 := k03.sqT hga
    have hgx3 := hgx.keep k03
    refine ⟨_, rfl, ga, rfl, ⟨gxs, hga3⟩, fun D3 nD3 => lc_data (K := K) (walk_tup (xs := gxs)) (g.map fun d => K46.D.tup [.str d.name, .int (d.many : Int)]) (by rw [List.length_map]; exact hgl.symm) (by omega) nD3 (fun H k => k.sqT hga3) (fun i x H4 H5 d Qn F hi k4 y1 e1 hQ => ?_) (fun ys H4 k4 hD3 hys => ?_)⟩
    · obtain ⟨rfl, ex⟩ := y1
      obtain ⟨d', e2, hx⟩ := hgx3.get' ex
      rw [List.getElem?_map] at e1 e2
      obtain ⟨b, eb, rfl⟩ := Option.map_eq_some_iff.mp e1
      rw [eb] at e2
      cases e2
      obtain ⟨a, x1, x2, x3, rfl, ha, z1, z2, z3⟩ := (hx.keep k4).t3
      obtain rfl := z1.s
      obtain rfl := z2.i
      refine ⟨a, _, rfl, ha, rfl, _, _, rfl, _, _, rfl, _, _, rfl, rfl, rfl, tyes ?_⟩
      exact ⟨_, rfl, _, rfl, hz2, fun p np => hQ _ _ (Keep.new np (Keep.refl _ _)) (At.new upd_same (.cons (.str _) (.cons (.int _) .nil)))⟩
    refine ⟨hz2, fun t nt => ⟨(by show 1 ≤ sizeLine; decide), fun l nl => ?_⟩⟩
    have k5 := (Keep.new (o := .tup [.str ".", .int 0]) nt (Keep.refl [] H4)).new_ (o := .lst [.ref t]) nl
    have ht : upd (upd H4 t (.tup [.str ".", .int 0])) l (.lst [.ref t]) t = some (.tup [.str ".", .int 0]) := by rw [upd_ne (new_ne nl).symm]; exact upd_same
    have hl : upd (upd H4 t (.tup [.str ".", .int 0])) l (.lst [.ref t]) l = some (.lst [.ref t]) := upd_same
    generalize upd (upd H4 t (.tup [.str ".", .int 0])) l (.lst [.ref t]) = H5 at k5 ht hl
    have hysl := hys.length
    rw [List.length_map] at hysl
    refine ⟨D3, l, _, _, rfl, rfl, k5.at_ _ _ (by simp) hD3, hl, by rw [List.length_singleton]; omega, fun hd nhd => ?_⟩
    have k6 := Keep.new (o := .lst (ys ++ [.ref t])) nhd (Keep.refl [] H5)
    have hhd : upd H5 hd (.lst (ys ++ [.ref t])) hd = some (.lst (ys ++ [.ref t])) := upd_same
    generalize upd H5 hd (.lst (ys ++ [.ref t])) = H6 at k6 hhd
    have k46 := k5.trans k6
    have hheads : AtL K H6 (ys ++ [.ref t]) ((heads g).map fun x => K46.D.tup [.str x.1, .int (x.2 : Int)]) := by
      rw [heads, List.map_append, List.map_map]
      exact (hys.keep k46).append (.cons (.tup (.of (k6.tup _ _ ht)) (.cons (.str _) (.cons (.int _) .nil))) .nil)
    have k36 := k4.trans k46
    have hkd6 := k36.at_ _ _ (by simp) hkd
    have hk6 := hk3.keep k36
    have k06 := k03.trans k36
    generalize ys ++ [V.ref t] = hs at hhd hheads
    have hhl := hheads.length
    rw [List.length_map] at hhl
    have hget : ∀ {n : Str} {m : Nat}, (n, m) ∈ heads g → ∃ (v : V) (a : Addr) (c : V), valV kvs (.inr n) = some v ∧ v = .ref a ∧ SqT K H6 a [.str n, .int (m : Int), c] := fun {n m} hm => by
      obtain ⟨b, hb1, rfl, rfl⟩ : ∃ b ∈ bs, b.name = n ∧ b.many = m := by
        rcases List.mem_append.mp hm with hm | hm
        · obtain ⟨d, hd', e⟩ := List.mem_map.mp hm
          cases e
          obtain ⟨b, h1, h2, h3⟩ := ok.defs d hd'
          exact ⟨b, h1, h2, h3⟩
        · cases List.mem_singleton.mp hm
          obtain ⟨b, h1, h2, h3⟩ := ok.term
          exact ⟨b, h1, h2, h3⟩
      obtain ⟨v, e1, e2⟩ := known_get ok.nd hk1 hk6 hb1
      obtain ⟨a, x1, x2, x3, rfl, ha, z1, z2, z3⟩ := e2.t3
      obtain rfl := z1.s
      obtain rfl := z2.i
      exact ⟨_, a, x3, e1, rfl, ha⟩
    refine ⟨_, rfl, hd, rfl, ⟨hs, .of hhd⟩, fun D4 nD4 => lc_it (walk_list (xs := hs)) (fun i H' => Keep [] H6 H' ∧ H' D4 = some (.lst [])) ⟨Keep.new nD4 (Keep.refl _ _), upd_same⟩ (fun i H' _ ⟨k, _⟩ => .of (k.at_ _ _ (by simp) hhd)) (fun i x H7 H8 hi ⟨k7, hD7⟩ yy => ?_) (fun H7 ⟨k7, hD7⟩ => ?_)⟩
    · obtain ⟨rfl, ex⟩ := yy
      obtain ⟨d', e2, hx⟩ := hheads.get' ex
      rw [List.getElem?_map] at e2
      obtain ⟨⟨n, m⟩, en, rfl⟩ := Option.map_eq_some_iff.mp e2
      obtain ⟨pa, x1, x2, rfl, hpa, z1, z2⟩ := (hx.keep k7).t2
      obtain rfl := z1.s
      obtain rfl := z2.i
      obtain ⟨v, va, vc, e1, rfl, hva⟩ := hget (List.mem_of_getElem? en)
      have hkd7 := k7.at_ _ _ (by simp) hkd6
      have dg : DGet H8 kd (.str n) (some (.ref va)) := e1 ▸ DGet.k (k := Sum.inr n) hkd7
      refine ⟨pa, _, rfl, hpa, rfl, _, _, rfl, _, _, rfl, rfl, rfl, ?_⟩
      refine ⟨_, rfl, _, rfl, kd, _, rfl, dg, _, rfl, iff' rfl ?_⟩
      refine ⟨_, rfl, _, rfl, kd, _, rfl, dg, va, _, 1, .int (m : Int), rfl, rfl, k7.sqT hva, atI_nat (j := 1) rfl, _, rfl, rfl, _, rfl, iff' (by simp) ?_⟩
      exact ⟨k7, hD7⟩
    refine ⟨by decide, fun q0 nq0 => ⟨D4, q0, [], rfl, rfl, .inl ⟨.of ((Keep.new nq0 (Keep.refl [] H7)).at_ _ _ (by simp) hD7), .of upd_same⟩, _, rfl, iff' rfl ?_⟩⟩
    have k8 := k7.new_ (o := .lst []) nq0
    generalize upd H7 q0 (.lst []) = H8 at k8
    have hkd8 := k8.at_ _ _ (by simp) hkd6
    have hhd8 := k8.at_ _ _ (by simp) hhd
    have hheads8 := hheads.keep k8
    refine ⟨kd, _, hkd8, trivial, fun od => ?_⟩
    have hkdz : upd H8 kd (.frz od (.dK kvs)) kd = some (.frz od (.dK kvs)) := upd_same
    have kz : Keep [kd] H8 (upd H8 kd (.frz od (.dK kvs))) := Keep.put hkd8 True.intro (.inl (by simp)) (Keep.refl _ _)
    have hne : hd ≠ kd := fun e => by rw [e, hkd8] at hhd8; cases hhd8
    have hhdz := kz.at_ _ _ (by simp [hne]) hhd8
    have hheadsz := hheads8.keep kz
    have klock := fun {H1 : Hp} => keep_lock (H1 := H1) (od := od) hkd8
    generalize upd H8 kd (.frz od (.dK kvs)) = Hz at hkdz hhdz hheadsz klock
    have hkl : kvs.length = bs.length := by
      have := congrArg List.length hk1
      simpa using this
    refine ⟨_, rfl, kd, od, rfl, .inl ⟨kvs, hkdz, fun D5 nD5 => lc_it walk_keys (fun i H' => ∃ ys, Keep [] Hz H' ∧ H' D5 = some (.lst ys) ∧ (∀ y ∈ ys, ∃ k, k ≤ 4000 ∧ y = V.str (dot k)) ∧ ys.length ≤ i) ⟨[], Keep.new nD5 (Keep.refl _ _), upd_same, fun y z => (by cases z), Nat.le_refl _⟩ (fun i H' _ ⟨ys, k, _⟩ => k.frz _ _ _ hkdz) (fun i x H9 H10 hi ⟨ys, k9, hD9, hys9, hyl9⟩ yy => ?_) (fun H9 ⟨ys, k9, hD9, hys9, hyl9⟩ => ?_)⟩⟩
    · obtain ⟨rfl, kk, vv, ekv, rfl⟩ := yy
      have ek : (kvs.map (·.1))[i]? = some kk := by rw [List.getElem?_map, ekv]; rfl
      rw [hk1, List.getElem?_map] at ek
      obtain ⟨b, eb, rfl⟩ := Option.map_eq_some_iff.mp ek
      have hbm := List.mem_of_getElem? eb
      refine ⟨rfl, ?_⟩
      have hhd9 := k9.at_ _ _ (by simp) hhdz
      have hheads9 := hheadsz.keep k9
      refine ⟨_, rfl, _, rfl, hd, rfl, ⟨hs, .of hhd9⟩, fun D6 nD6 => lc_data (K := K) (walk_list (xs := hs)) ((heads g).map fun x => K46.D.str x.1) (by rw [List.length_map]; exact hhl.symm) (by rw [hhl, heads, List.length_append, List.length_map, List.length_singleton]; omega) nD6 (fun H k => .of (k.at_ _ _ (by simp) hhd9)) (fun j x Ha Hb d Qn F hj ka y1 e1 hQ => ?_) (fun zs Ha ka hD6 hzs => ?_)⟩
      · obtain ⟨rfl, ex⟩ := y1
        obtain ⟨d', e2, hx⟩ := hheads9.get' ex
        rw [List.getElem?_map] at e1 e2
        obtain ⟨⟨n, m⟩, en, rfl⟩ := Option.map_eq_some_iff.mp e1
        rw [en] at e2
        cases e2
        obtain ⟨pa, x1, x2, rfl, hpa, z1, z2⟩ := (hx.keep ka).t2
        obtain rfl := z1.s
        exact ⟨rfl, tyes ⟨_, rfl, pa, _, 0, .str n, rfl, rfl, hpa, atI_nat (j := 0) rfl, hQ _ _ (Keep.refl _ _) (.str _)⟩⟩
      · obtain rfl : zs = ((heads g).map (·.1)).map V.str := hzs.strs'
        have ka9 := k9.trans ka
        have hD5a := ka.at_ _ _ (by simp) hD9
        refine ⟨D6, _, rfl, .inl (.of hD6), rfl, flat_strs _, _, rfl, ?_⟩
        by_cases hmem : b.name ∈ (heads g).map (·.1)
        · refine iff' ?_ ⟨ys, ka9, hD5a, hys9, by omega⟩
          show (if true = true then !inV (.str b.name) _ else _) = false
          rw [if_pos rfl, inV_mem hmem]
          rfl
        · refine ite2 (fun _ => ?_) (fun _ => ⟨ys, ka9, hD5a, hys9, by omega⟩)
          refine ⟨_, rfl, ys, hD5a, by omega, ys ++ [.str b.name], Keep.lst hD5a (.inr nD5) ka9, upd_same, fun y z => ?_, by simp; omega⟩
          rcases List.mem_append.mp z with z | z
          · exact hys9 y z
          · rw [List.mem_singleton.mp z]
            rcases ok.only b hbm with ⟨d, hd1, e⟩ | e | ⟨k, hk, e⟩
            · exact absurd (List.mem_map.mpr ⟨(d.name, d.many), List.mem_append_left _ (List.mem_map.mpr ⟨d, hd1, rfl⟩), e.symm⟩) hmem
            · exact absurd (List.mem_map.mpr ⟨(Str.ofString ".", 0), by simp [heads], e.symm⟩) hmem
            · exact ⟨k, hk, by rw [e]⟩
    refine ⟨k9.frz _ _ _ hkdz, ?_⟩
    have k10 := klock k9
    have hoth : upd H9 kd (.dK kvs) D5 = some (.lst ys) := by
      have : D5 ≠ kd := fun e => by rw [e, hkdz] at nD5; cases nD5
      rw [upd_ne this]
      exact hD9
    generalize upd H9 kd (.dK kvs) = H10 at k10 hoth
    have k010 := (k06.trans k8).trans k10
    refine ⟨_, rfl, D5, rfl, ⟨ys, .of hoth⟩, fun D7 nD7 => lc_it (walk_list (xs := ys)) (fun i H' => Keep [] H10 H' ∧ H' D7 = some (.lst [])) ⟨Keep.new nD7 (Keep.refl _ _), upd_same⟩ (fun i H' _ ⟨k, _⟩ => .of (k.at_ _ _ (by simp) hoth)) (fun i x H11 H12 hi ⟨k11, hD11⟩ yy => ?_) (fun H11 ⟨k11, hD11⟩ => ?_)⟩
    · obtain ⟨rfl, ex⟩ := yy
      obtain ⟨k, hk, rfl⟩ := hys9 x (List.mem_of_getElem? ex)
      have hdl := dot_len hk
      have hz10 : 10 ≤ sizeLine := by decide
      refine ⟨rfl, ?_⟩
      refine ⟨_, rfl, _, rfl, dot k, rfl, by omega, rfl, _, rfl, iff' (by rw [dot_cut0]; simp) ?_⟩
      refine ⟨_, rfl, _, rfl, dot k, rfl, by omega, ⟨_, rfl⟩, _, rfl, rfl, trivial, _, rfl, iff' (by rw [dot_digits]; rfl) ?_⟩
      exact ⟨k11, hD11⟩
    refine ⟨by decide, fun q1 nq1 => ⟨D7, q1, [], rfl, rfl, .inl ⟨.of ((Keep.new nq1 (Keep.refl [] H11)).at_ _ _ (by simp) hD11), .of upd_same⟩, _, rfl, iff' rfl ?_⟩⟩
    have k12 := (k010.trans k11).new_ (o := .lst []) nq1
    generalize upd H11 q1 (.lst []) = H12 at k12
    have hba12 := k12.sqT hba
    have hbx12 := hbx.keep k12
    refine ⟨by decide, fun rl nrl => ?_⟩
    have kr := Keep.new (o := .lst []) nrl (Keep.refl [] H12)
    refine ⟨_, rfl, ba, rfl, ⟨bxs, kr.sqT hba12⟩, for_it (walk_tup (xs := bxs)) (fun i σ H' => ∃ (o5 o6 o10 : Option V) (vs : List V) (cs : List Ins), σ = [some (.ref ga), some (.ref ba), none, some (.ref kd), some (.ref hd), o5, o6, some (.ref rl), some (.ref D5), none, o10, none] ∧ Keep [] H12 H' ∧ H' rl = some (.lst vs) ∧ AtL K H' vs (cs.map encI) ∧ cs.length = codeSum (bs.take i))
      ⟨none, none, none, [], [], rfl, kr, upd_same, .nil, rfl⟩ (fun i σ H' _ ⟨_, _, _, _, _, _, k, _⟩ => k.sqT hba12) (fun i x σ H13 H14 hi ⟨o5, o6, o10, vs, cs, e, k13, hrl, hvs, hcl⟩ yy => ?_) (fun σ H13 ⟨o5, o6, o10, vs, cs, e, k13, hrl, hvs, hcl⟩ => ?_)⟩
    · subst e
      obtain ⟨rfl, ex⟩ := yy
      obtain ⟨d', e2, hx⟩ := hbx12.get' ex
      rw [List.getElem?_map] at e2
      obtain ⟨b, eb, rfl⟩ := Option.map_eq_some_iff.mp e2
      obtain ⟨a, x1, x2, x3, rfl, ha, z1, z2, z3⟩ := (hx.keep k13).t3
      obtain rfl := z1.s
      obtain rfl := z2.i
      obtain ⟨ca, cxs, rfl, hca, hcx⟩ := z3.t
      have hcxl := hcx.length
      have hvsl := hvs.length
      rw [List.length_map] at hcxl hvsl
      have hct : codeSum (bs.take i) + b.code.length ≤ codeSum bs := by
        have e : bs = bs.take (i + 1) ++ bs.drop (i + 1) := (List.take_append_drop _ _).symm
        have e2 := congrArg codeSum e
        rw [codeSum_append, take_snoc eb, codeSum_append] at e2
        simp only [codeSum] at e2
        omega
      have hsum := ok.sum
      have hz7 : 10000000 ≤ sizeLine := by decide
      refine ⟨a, _, rfl, ha, rfl, _, _, rfl, _, _, rfl, _, _, rfl, rfl, ?_⟩
      refine ⟨_, rfl, .inl ⟨rfl, _, .of hrl⟩, _, rfl, ca, cxs, rfl, .inr hca, fun p np => ?_⟩
      have kp := Keep.new (o := .lst cxs) np (Keep.refl [] H14)
      have hrl2 := kp.at_ _ _ (by simp) hrl
      refine ⟨rl, p, vs, cxs, rfl, rfl, hrl2, upd_same, by omega, ?_⟩
      have k15 : Keep [rl] (upd H14 p (.lst cxs)) (upd (upd H14 p (.lst cxs)) rl (.lst (vs ++ cxs))) := Keep.lst hrl2 (.inl (by simp)) (Keep.refl _ _)
      refine ⟨_, _, _, vs ++ cxs, cs ++ b.code, rfl, Keep.lst hrl2 (.inr nrl) (k13.trans kp), upd_same, ?_, ?_⟩
      · rw [List.map_append]
        exact ((hvs.append hcx).keep kp).keep k15
      · rw [take_snoc eb, codeSum_append, List.length_append, hcl]
        simp only [codeSum]
        omega
    · subst e
      refine ⟨_, rfl, rl, rfl, ⟨vs, .of hrl⟩, fun D8 nD8 => lc_it (walk_list (xs := vs)) (fun i H' => Keep [] H13 H' ∧ H' D8 = some (.lst [])) ⟨Keep.new nD8 (Keep.refl _ _), upd_same⟩ (fun i H' _ ⟨k, _⟩ => .of (k.at_ _ _ (by simp) hrl)) (fun i x H14 H15 hi ⟨k14, hD14⟩ yy => ?_) (fun H14 ⟨k14, hD14⟩ => ?_)⟩
      · obtain ⟨rfl, ex⟩ := yy
        obtain ⟨d', e2, hx⟩ := hvs.get' ex
        rw [List.getElem?_map] at e2
        obtain ⟨ii, ei, rfl⟩ := Option.map_eq_some_iff.mp e2
        replace hx := hx.keep k14
        obtain ⟨ta, hta⟩ : ∃ ds, encI ii = .tup ds := by
          cases ii with
          | own k m => cases k <;> exact ⟨_, rfl⟩
          | _ => exact ⟨_, rfl⟩
        have hx' := hx
        rw [hta] at hx'
        refine ⟨rfl, ?_⟩
        refine ⟨_, rfl, _, _, .type "tuple", .type "tuple", true, rfl, .ty "tuple", tyx_of hx', kit_ty (a := "tuple") (b := "tuple") (by decide +kernel), _, rfl, iff' rfl ?_⟩
        refine ⟨_, rfl, x, ii, rfl, hx, fun H16 k16 => ⟨_, rfl, iff' rfl ?_⟩⟩
        exact ⟨k14.trans k16, k16.at_ _ _ (by simp) hD14⟩
      · refine ⟨by decide, fun q2 nq2 => ⟨D8, q2, [], rfl, rfl, .inl ⟨.of ((Keep.new nq2 (Keep.refl [] H14)).at_ _ _ (by simp) hD14), .of upd_same⟩, ?_⟩⟩
        exact q _ (((k12.trans k13).trans k14).new_ nq2)
end
end K46
/-! K46L10 -/
set_option maxHeartbeats 4000000
namespace K46
open PySem PySem.Spec PyProof.Rows L2 C8
/-! ### run_made is heard -/
structure Ex2 (K : PySem.W.Frag) : Prop where
  xf : XfC K (CT K)
  ec : ExcC K (CT K)
  exm : PySem.W.exmOne K (.ref (CT K)) (.ref (He.ga K "TooMuch")) = some true
  k1 : PySem.W.kitOne K (.ref (CT K)) (.ref (He.ga K "TongueError")) = some true
  k2 : PySem.W.kitAny K (.ref (CT K)) [.ref (He.ga K "TooGreat"), .ref (He.ga K "Absent")] = some false
  k3 : PySem.W.kitOne K (.ref (CT K)) (.ref (CT K)) = some true
section
variable {X : Cx} {a D : Addr} {oe : Obj} {pn : List (Addr × Obj)} {cls : Value} {d : Option Addr}
def rIsDX (K : PySem.W.Frag) (D a : Addr) (cls : Value) (d : Option Addr) : List V → Hp → VK → Prop := fun xs H Q => cls = .ref D ∧ ∃ dd, d = some dd ∧ rIsD K D a dd xs H Q
def rIsTDX (K : PySem.W.Frag) (D a : Addr) (cls : Value) (d : Option Addr) : List V → Hp → VK → Prop := fun xs H Q => cls = .ref D ∧ ∃ dd, d = some dd ∧ rIsTD K D a dd xs H Q
theorem call_isDX (C : ExcC X.K D) (hz : Zc cls d oe) (hf : ∃ vs, oe.data = .fields vs) : CallR (X.suite a ((a, oe) :: pn)) (.builtin "isinstance") (rIsDX X.K D a cls d) := by
  intro pins s σ H xs us Q I r h
  obtain ⟨rfl, dd, rfl, h⟩ := h
  exact call_isD C hz hf pins s σ H xs us Q I r h
theorem call_isTDX (C : ExcC X.K D) (hz : Zc cls d oe) (hf : ∃ vs, oe.data = .fields vs) : CallR (X.suite a ((a, oe) :: pn)) (.builtin "isinstance") (rIsTDX X.K D a cls d) := by
  intro pins s σ H xs us Q I r h
  obtain ⟨rfl, dd, rfl, h⟩ := h
  exact call_isTD C hz hf pins s σ H xs us Q I r h
end
section
variable {P : Program} {w : World} {K : PySem.W.Frag} {mg : Str → Option Value} {base : Heap}
def limV : Option Nat → V
  | none => .non
  | some k => .int (k : Int)
def sp_heard (K : PySem.W.Frag) : Sp := fun vs H Q _ => ∃ (bl : Addr) (lim : Option Nat) (bs : List Bk) (c : List Ins) (n : Nat) (v : MV), vs = [.ref bl, limV lim] ∧ At K H (.ref bl) (encBs bs) ∧ (bs.map (·.name)).Nodup ∧ bs.length < sizeLine ∧ codeIn bs "." = some c ∧
  TellsS bs n [⟨c, 0, [], []⟩] v ∧ (n ≤ lim.getD 2000 → ∀ H' x, Keep [] H H' → At K H' x (.tup [.str "told", encV v]) → Q x H') ∧ (lim.getD 2000 < n → ∀ H' x, Keep [] H H' → At K H' x (.tup [.str "long", .int ((lim.getD 2000 : Nat) : Int)]) → Q x H')
theorem ok_heard (T : Tx K mg) (Xe : Ex K) (Xd : Ex2 K) : Cal P w K mg base 8 "_law_heard" (sp_heard K) [] := by
  obtain ⟨fd1, Fd1⟩ := T.f_run_made
  have F1 := ok_run_made (P := P) (w := w) (base := base) T Xe Fd1
  obtain ⟨ds, hds, hb1⟩ := run_made_b Fd1
  obtain ⟨mv, hb2⟩ := run_made_k Fd1
  have kp1 := Fd1.kp
  refine cal_mk T.f_heard T.g_heard sc_heard (fun _ _ _ _ _ _ us hl => match us, hl with | [_, _], _ => rfl) (fun vs H Q E h => ?_) (fun cdv A outer s0 H vs Q E hr h => ?_)
  · obtain ⟨bl, lim, bs, c, n, v, rfl, _⟩ := h
    rfl
  · obtain ⟨bl, lim, bs, c, n, v, rfl, hbl, hnd, hz, hc, ht, qt, ql⟩ := h
    refine ⟨_, pss_cons (ps_set (i := 2) sc_heard.nd rfl (Or.inl rfl) (pe_tup (pa_cons pe_str pa_nil)))
      (pss_cons (ps_try_as (i := 3) rfl rfl sc_heard.nd rfl rfl ⟨rfl, by decide, .inl T.g_TooMuch⟩ takes0
        (fun W pn xe tk _ => pss_one (ps_set (i := 2) sc_heard.nd rfl (Or.inl rfl) (pe_tup (pa_cons pe_str (pa_cons (pe_ifExp (pt_cmpR op_isN (pv 1) pe_non (nomark _))
          (pe_callSD F1 (hr.mono (by decide)) rfl T.g_run_made kp1 hb1 hds (fun σ => passAt tk σ) (pa_cons (pv 0) pa_nil))
          (pe_callND F1 (hr.mono (by decide)) rfl T.g_run_made kp1 hb2 (fun σ => passAt tk σ) (pa_cons (pv 0) pa_nil) (pk_cons (pv 1) pk_nil))) pa_nil)))))
        (fun a oe cls d pn hz hf => pss_cons (ps_set (i := 4) sc_heard.nd rfl (Or.inl rfl) (pe_and (pe_callB (call_isDX Xd.ec hz hf) (by rfl) T.z_isinstance (by decide +kernel) (pa_cons (pv 3) (pa_cons (pe_glob (v := .ref _) rfl T.g_TongueError rfl) pa_nil)))
            (pe_one (pe_not (pe_callB (call_isTDX Xd.ec hz hf) (by rfl) T.z_isinstance (by decide +kernel) (pa_cons (pv 3) (pa_cons (pe_tup (pa_cons (pe_glob (v := .ref _) rfl T.g_TooGreat rfl) (pa_cons (pe_glob (v := .ref _) rfl T.g_Absent rfl) pa_nil))) pa_nil)))))))
          (pss_one (ps_set (i := 2) sc_heard.nd rfl (Or.inl rfl) (pe_ifExp (PW.pt (pw_and (pt_val (pe_callB (call_isDX Xd.ec hz hf) (by rfl) T.z_isinstance (by decide +kernel) (pa_cons (pv 3) (pa_cons (pe_glob (v := .ref _) rfl T.g_TooLong rfl) pa_nil)))) (pw_and1 (pt_val (pv 4)))))
            (pe_tup (pa_cons pe_str (pa_cons (pe_xf Xd.xf Xe.nmost hz hf (pv 3)) pa_nil))) (pe_tup (pa_cons pe_str pa_nil)))))))
      (pss_one (ps_ret (pv 2)))), ?_⟩
    have hz1 : 1 ≤ sizeLine := by decide
    have hz2 : 2 ≤ sizeLine := by decide
    refine ⟨hz1, fun p np => ?_⟩
    have k1 := Keep.new (o := .tup [.str "other"]) np (Keep.refl [] H)
    have hbl1 := hbl.keep k1
    generalize upd H p (.tup [.str "other"]) = H1 at k1 hbl1
    cases lim with
    | none =>
      refine ⟨_, rfl, rfl, _, rfl, ift rfl ?_⟩
      refine ⟨_, rfl, bl, bs, c, n, 2000, v, rfl, hbl1, hnd, hz, hc, ht, fun hle H2 x k2 hx => ⟨hz2, fun t nt => ?_⟩, fun hlt H2 d k2 nd hd => ⟨true, Xd.exm, fun _ a na => ?_, fun z => nomatch z⟩⟩
      · have kt := Keep.new (o := .tup [.str "told", x]) nt (Keep.refl [] H2)
        exact ⟨_, rfl, qt hle _ _ (k1.trans (k2.trans kt)) (.tup (.of upd_same) (.cons (.str _) (.cons (hx.keep kt) .nil)))⟩
      · have hlt : (none : Option Nat).getD 2000 < n := hlt
        refine ⟨_, rfl, rfl, d, rfl, _, _, _, _, rfl, .own _, hd, Xd.k1, _, rfl, ift rfl ?_⟩
        refine ⟨_, rfl, hz2, fun tp ntp => ⟨rfl, d, rfl, tp, _, _, _, _, rfl, upd_same, .cons (.own _) (.cons (.own _) .nil), by rw [upd_ne (ne_of_none hd ntp)]; exact hd, Xd.k2, _, rfl, ?_⟩⟩
        have k3 := Keep.new (o := .tup [.ref (He.ga K "TooGreat"), .ref (He.ga K "Absent")]) ntp (Keep.refl [] H2)
        have hd3 : upd H2 tp (.tup [.ref (He.ga K "TooGreat"), .ref (He.ga K "Absent")]) d = some (.xd [("most", .int ((2000 : Nat) : Int))]) := by rw [upd_ne (ne_of_none hd ntp)]; exact hd
        refine ⟨_, rfl, rfl, d, rfl, _, _, _, _, rfl, .own _, hd3, Xd.k3, _, rfl, ift rfl ⟨_, rfl, _, rfl, ift rfl ?_⟩⟩
        refine ⟨_, rfl, rfl, rfl, d, _, _, rfl, hd3, rfl, hz2, fun t nt => ?_⟩
        exact ⟨_, rfl, ql hlt _ _ (k1.trans (k2.trans (k3.new_ nt))) (.tup (.of upd_same) (.cons (.str _) (.cons (.int _) .nil)))⟩
    | some k =>
      refine ⟨_, rfl, rfl, _, rfl, iff' rfl ?_⟩
      refine ⟨_, rfl, _, rfl, rfl, rfl, bl, bs, c, n, k, v, rfl, hbl1, hnd, hz, hc, ht, fun hle H2 x k2 hx => ⟨hz2, fun t nt => ?_⟩, fun hlt H2 d k2 nd hd => ⟨true, Xd.exm, fun _ a na => ?_, fun z => nomatch z⟩⟩
      · have kt := Keep.new (o := .tup [.str "told", x]) nt (Keep.refl [] H2)
        exact ⟨_, rfl, qt hle _ _ (k1.trans (k2.trans kt)) (.tup (.of upd_same) (.cons (.str _) (.cons (hx.keep kt) .nil)))⟩
      · have hlt : (some k).getD 2000 < n := hlt
        refine ⟨_, rfl, rfl, d, rfl, _, _, _, _, rfl, .own _, hd, Xd.k1, _, rfl, ift rfl ?_⟩
        refine ⟨_, rfl, hz2, fun tp ntp => ⟨rfl, d, rfl, tp, _, _, _, _, rfl, upd_same, .cons (.own _) (.cons (.own _) .nil), by rw [upd_ne (ne_of_none hd ntp)]; exact hd, Xd.k2, _, rfl, ?_⟩⟩
        have k3 := Keep.new (o := .tup [.ref (He.ga K "TooGreat"), .ref (He.ga K "Absent")]) ntp (Keep.refl [] H2)
        have hd3 : upd H2 tp (.tup [.ref (He.ga K "TooGreat"), .ref (He.ga K "Absent")]) d = some (.xd [("most", .int (k : Int))]) := by rw [upd_ne (ne_of_none hd ntp)]; exact hd
        refine ⟨_, rfl, rfl, d, rfl, _, _, _, _, rfl, .own _, hd3, Xd.k3, _, rfl, ift rfl ⟨_, rfl, _, rfl, ift rfl ?_⟩⟩
        refine ⟨_, rfl, rfl, rfl, d, _, _, rfl, hd3, rfl, hz2, fun t nt => ?_⟩
        exact ⟨_, rfl, ql hlt _ _ (k1.trans (k2.trans (k3.new_ nt))) (.tup (.of upd_same) (.cons (.str _) (.cons (.int _) .nil)))⟩
end
end K46
/-! K46X1 -/
set_option maxHeartbeats 4000000
namespace K46
open PySem PySem.Spec PyProof.Rows L2 C8
/-! ### what the head must have besides: the exception that counts -/
def oexB (K : PySem.W.Frag) (C : Addr) : Bool := match K.lookup C with
  | some ⟨.type "type", _, .cls cd, sl⟩ => (match cd.mro, sl.toList with
    | .ref C' :: bm, [_, _, _, _, some (.builtin n), _] => C' == C && (n == "ValueError.__new__" && (!cd.hasDel && (cd.hasDict && PySem.HandSPX.refsVE bm)))
    | _, _ => false)
  | _ => false
theorem oexB_ok {K : PySem.W.Frag} {C : Addr} (q : oexB K C = true) : ∃ nm q N bs bm sn sub ab col dd k0 k1 k2 k3 k5, K.lookup C = some (excClassObj nm q C N bs bm true sn sub ab col dd k0 k1 k2 k3 k5 "ValueError.__new__") ∧ PySem.HandSPX.refsVE bm = true := by
  unfold oexB at q
  split at q
  · rename_i dd cd sl ho
    split at q
    · rename_i C' bm k0 k1 k2 k3 n k5 hm hs
      simp only [Bool.and_eq_true, beq_iff_eq, Bool.not_eq_true'] at q
      obtain ⟨rfl, rfl, hdel, hd, hv⟩ := q
      obtain ⟨nm, bs, mro, ns, qn, hd', sn, sub, ab, col, del⟩ := cd
      dsimp only at hm hdel hd
      subst hm hdel hd
      have hsl : sl = #[k0, k1, k2, k3, some (.builtin "ValueError.__new__"), k5] := by
        obtain ⟨l⟩ := sl
        simp only at hs
        rw [hs]
      subst hsl
      exact ⟨nm, qn, ns, bs, bm, sn, sub, ab, col, dd, k0, k1, k2, k3, k5, ho, hv⟩
    · cases q
  · cases q
def fcB (K : PySem.W.Frag) (B : Addr) : Bool := match PySem.W.findCls K (.ref B) (.type "type") "__init__" with
  | some (.val (.builtin n)) => n == "ValueError.__init__"
  | _ => false
theorem fcB_ok {K : PySem.W.Frag} {B : Addr} (h : fcB K B = true) : PySem.W.findCls K (.ref B) (.type "type") "__init__" = some (.val (.builtin "ValueError.__init__")) := by
  unfold fcB at h
  split at h
  · rename_i n e
    rw [e, beq_iff_eq.mp h]
  · cases h
def exB (K : PySem.W.Frag) : Bool :=
  oexB K (CT K) && (He.eqO (PySem.W.findIn K (.ref (CT K)) "__setattr__") (some (some (.builtin "object.__setattr__"))) && (decide (PySem.W.subIn K (.ref (CT K)) (.type "BaseException") = some true) && (decide (PySem.W.typeIn K (.ref (CT K)) = some (.type "type")) && (PySem.W.keepIn K (.ref (CT K)) &&
  (PySem.W.readsIn K (He.ga K "TooMuch") (.type "type") && (He.eqO (PySem.W.specialIn K (.ref (He.ga K "TooMuch")) "__getattribute__") (some (some (.builtin "type.__getattribute__"))) && (fcB K (He.ga K "TooMuch") &&
  (He.eqO (PySem.W.findIn K (.ref (CT K)) "most") (some none) && (He.eqO (PySem.W.findIn K (.ref (CT K)) "__init__") (some (some (.ref (He.fAd K ("TooLong", some "__init__"))))) && (decide (PySem.W.typeIn K (.ref (He.fAd K ("TooLong", some "__init__"))) = some (.type "function")) &&
  (xfB K (CT K) &&
  (He.eqO (PySem.W.findIn K (.ref (CT K)) "__class__") (some (some (.builtin "object.__class__"))) && (He.eqO (PySem.W.specialIn K (.builtin "object.__class__") "__get__") (some (some (.builtin "getset_descriptor.__get__"))) && (decide (PySem.W.takesIn K (.builtin "object.__class__") = some true) && (decide (PySem.W.mroIn K (CT K) (.type "object") = some true) &&
  (decide (PySem.W.exmOne K (.ref (CT K)) (.ref (He.ga K "TooMuch")) = some true) && (decide (PySem.W.kitOne K (.ref (CT K)) (.ref (He.ga K "TongueError")) = some true) && (decide (PySem.W.kitAny K (.ref (CT K)) [.ref (He.ga K "TooGreat"), .ref (He.ga K "Absent")] = some false) && decide (PySem.W.kitOne K (.ref (CT K)) (.ref (CT K)) = some true)))))))))))))))))))
theorem exB_ok {K : PySem.W.Frag} (h : exB K = true) : Ex K ∧ Ex2 K := by
  unfold exB at h
  simp only [Bool.and_eq_true, decide_eq_true_eq] at h
  obtain ⟨a1, a2, a3, a4, a5, b1, b2, b3, c1, c2, c3, d1, e1, e2, e3, e4, f1, f2, f3, f4⟩ := h
  have X := xfB_ok d1
  exact ⟨⟨⟨oexB_ok a1, He.eqO_ok a2, a3, a4, a5⟩, ⟨b1, He.eqO_ok b2, fcB_ok b3⟩, He.eqO_ok c1, He.eqO_ok c2, c3⟩, ⟨X, ⟨X.ga, X.gg, X.exC, X.hdC, He.eqO_ok e1, He.eqO_ok e2, e3, e4⟩, f1, f2, f3, f4⟩⟩
end K46
/-! K46Head -/
set_option maxHeartbeats 0
namespace K46
open PySem PySem.Spec PyProof.Rows L2
def d_TooLong_init : He.DefD := ⟨("TooLong", some "__init__"), "__init__", "TooLong.__init__", defArgs s_TooLong_init, defBody s_TooLong_init, defScope s_TooLong_init, [], []⟩
def d_TooGreat_init : He.DefD := ⟨("TooGreat", some "__init__"), "__init__", "TooGreat.__init__", defArgs s_TooGreat_init, defBody s_TooGreat_init, defScope s_TooGreat_init, [], []⟩
def d_Frame_init : He.DefD := ⟨("Frame", some "__init__"), "__init__", "Frame.__init__", defArgs s_Frame_init, defBody s_Frame_init, defScope s_Frame_init, [], []⟩
def d_Frame_next_row : He.DefD := ⟨("Frame", some "next_row"), "next_row", "Frame.next_row", defArgs s_Frame_next_row, defBody s_Frame_next_row, defScope s_Frame_next_row, [], []⟩
def d_Frame_take_off : He.DefD := ⟨("Frame", some "take_off"), "take_off", "Frame.take_off", defArgs s_Frame_take_off, defBody s_Frame_take_off, defScope s_Frame_take_off, [], []⟩
def d_Frame_ask : He.DefD := ⟨("Frame", some "ask"), "ask", "Frame.ask", defArgs s_Frame_ask, defBody s_Frame_ask, defScope s_Frame_ask, [], []⟩
def d_Machine_init : He.DefD := ⟨("Machine", some "__init__"), "__init__", "Machine.__init__", defArgs s_Machine_init, defBody s_Machine_init, defScope s_Machine_init, [], []⟩
def d_Machine_begin_frame : He.DefD := ⟨("Machine", some "begin_frame"), "begin_frame", "Machine.begin_frame", defArgs s_Machine_begin_frame, defBody s_Machine_begin_frame, defScope s_Machine_begin_frame, [], []⟩
def d_Machine_enter : He.DefD := ⟨("Machine", some "enter"), "enter", "Machine.enter", defArgs s_Machine_enter, defBody s_Machine_enter, defScope s_Machine_enter, [], []⟩
def d_Machine_row_done : He.DefD := ⟨("Machine", some "row_done"), "row_done", "Machine.row_done", defArgs s_Machine_row_done, defBody s_Machine_row_done, defScope s_Machine_row_done, [], []⟩
def d_Machine_end_frame : He.DefD := ⟨("Machine", some "end_frame"), "end_frame", "Machine.end_frame", defArgs s_Machine_end_frame, defBody s_Machine_end_frame, defScope s_Machine_end_frame, [], []⟩
def d_run_made : He.DefD := ⟨("run_made", none), "run_made", "run_made", defArgs s_run_made, defBody s_run_made, defScope s_run_made, [], [("most", .int 2000)]⟩
def d_bare_parts : He.DefD := ⟨("bare_parts", none), "bare_parts", "bare_parts", defArgs s_bare_parts, defBody s_bare_parts, defScope s_bare_parts, [], []⟩
def d_asks_in : He.DefD := ⟨("asks_in", none), "asks_in", "asks_in", defArgs s_asks_in, defBody s_asks_in, defScope s_asks_in, [], []⟩
def d_own_row : He.DefD := ⟨("own_row", none), "own_row", "own_row", defArgs s_own_row, defBody s_own_row, defScope s_own_row, [], []⟩
def d_Maker_init : He.DefD := ⟨("Maker", some "__init__"), "__init__", "Maker.__init__", defArgs s_Maker_init, defBody s_Maker_init, defScope s_Maker_init, [], []⟩
def d_Maker_new_name : He.DefD := ⟨("Maker", some "new_name"), "new_name", "Maker.new_name", defArgs s_Maker_new_name, defBody s_Maker_new_name, defScope s_Maker_new_name, [], []⟩
def d_Maker_add_block : He.DefD := ⟨("Maker", some "add_block"), "add_block", "Maker.add_block", defArgs s_Maker_add_block, defBody s_Maker_add_block, defScope s_Maker_add_block, [], []⟩
def d_Maker_code_of : He.DefD := ⟨("Maker", some "code_of"), "code_of", "Maker.code_of", defArgs s_Maker_code_of, defBody s_Maker_code_of, defScope s_Maker_code_of, [], []⟩
def d_Maker_closed_code : He.DefD := ⟨("Maker", some "closed_code"), "closed_code", "Maker.closed_code", defArgs s_Maker_closed_code, defBody s_Maker_closed_code, defScope s_Maker_closed_code, [], []⟩
def d_Maker_add_due : He.DefD := ⟨("Maker", some "add_due"), "add_due", "Maker.add_due", defArgs s_Maker_add_due, defBody s_Maker_add_due, defScope s_Maker_add_due, [], []⟩
def d_Maker_rows_code : He.DefD := ⟨("Maker", some "rows_code"), "rows_code", "Maker.rows_code", defArgs s_Maker_rows_code, defBody s_Maker_rows_code, defScope s_Maker_rows_code, [], []⟩
def d_Maker_further_code : He.DefD := ⟨("Maker", some "further_code"), "further_code", "Maker.further_code", defArgs s_Maker_further_code, defBody s_Maker_further_code, defScope s_Maker_further_code, [], []⟩
def d_made : He.DefD := ⟨("made", none), "made", "made", defArgs s_made, defBody s_made, defScope s_made, [], []⟩
def d_deck : He.DefD := ⟨("_law_deck", none), "_law_deck", "_law_deck", defArgs s_deck, defBody s_deck, defScope s_deck, [], []⟩
def d_draw : He.DefD := ⟨("_law_draw", none), "_law_draw", "_law_draw", defArgs s_draw, defBody s_draw, defScope s_draw, [], []⟩
def d_pick : He.DefD := ⟨("_law_pick", none), "_law_pick", "_law_pick", defArgs s_pick, defBody s_pick, defScope s_pick, [], []⟩
def d_names : He.DefD := ⟨("_law_names", none), "_law_names", "_law_names", defArgs s_names, defBody s_names, defScope s_names, [], []⟩
def d_pattern : He.DefD := ⟨("_law_pattern", none), "_law_pattern", "_law_pattern", defArgs s_pattern, defBody s_pattern, defScope s_pattern, [], []⟩
def d_takes : He.DefD := ⟨("_law_takes", none), "_law_takes", "_law_takes", defArgs s_takes, defBody s_takes, defScope s_takes, [], []⟩
def d_name_of : He.DefD := ⟨("_law_name_of", none), "_law_name_of", "_law_name_of", defArgs s_name_of, defBody s_name_of, defScope s_name_of, [], []⟩
def d_of : He.DefD := ⟨("_law_of", none), "_law_of", "_law_of", defArgs s_of, defBody s_of, defScope s_of, [], []⟩
def d_own_call : He.DefD := ⟨("_law_own_call", none), "_law_own_call", "_law_own_call", defArgs s_own_call, defBody s_own_call, defScope s_own_call, [], []⟩
def d_data : He.DefD := ⟨("_law_data", none), "_law_data", "_law_data", defArgs s_data, defBody s_data, defScope s_data, [], []⟩
def d_row : He.DefD := ⟨("_law_row", none), "_law_row", "_law_row", defArgs s_row, defBody s_row, defScope s_row, [], []⟩
def d_closed : He.DefD := ⟨("_law_closed", none), "_law_closed", "_law_closed", defArgs s_closed, defBody s_closed, defScope s_closed, [], []⟩
def d_program : He.DefD := ⟨("_law_program", none), "_law_program", "_law_program", defArgs s_program, defBody s_program, defScope s_program, [], []⟩
def d_taken : He.DefD := ⟨("_law_taken", none), "_law_taken", "_law_taken", defArgs s_taken, defBody s_taken, defScope s_taken, [], []⟩
def d_step : He.DefD := ⟨("_law_step", none), "_law_step", "_law_step", defArgs s_step, defBody s_step, defScope s_step, [], []⟩
def d_runs : He.DefD := ⟨("_law_runs", none), "_law_runs", "_law_runs", defArgs s_runs, defBody s_runs, defScope s_runs, [], []⟩
def d_call : He.DefD := ⟨("_law_call", none), "_law_call", "_law_call", defArgs s_call, defBody s_call, defScope s_call, [], []⟩
def d_run : He.DefD := ⟨("_law_run", none), "_law_run", "_law_run", defArgs s_run, defBody s_run, defScope s_run, [], []⟩
def d_is_row : He.DefD := ⟨("_law_is_row", none), "_law_is_row", "_law_is_row", defArgs s_is_row, defBody s_is_row, defScope s_is_row, [], []⟩
def d_are_blocks : He.DefD := ⟨("_law_are_blocks", none), "_law_are_blocks", "_law_are_blocks", defArgs s_are_blocks, defBody s_are_blocks, defScope s_are_blocks, [], []⟩
def d_asked : He.DefD := ⟨("_law_asked", none), "_law_asked", "_law_asked", defArgs s_asked, defBody s_asked, defScope s_asked, [], []⟩
def d_off : He.DefD := ⟨("_law_off", none), "_law_off", "_law_off", defArgs s_off, defBody s_off, defScope s_off, [], []⟩
def d_gone : He.DefD := ⟨("_law_gone", none), "_law_gone", "_law_gone", defArgs s_gone, defBody s_gone, defScope s_gone, [], []⟩
def d_machine : He.DefD := ⟨("_law_machine", none), "_law_machine", "_law_machine", defArgs s_machine, defBody s_machine, defScope s_machine, [], []⟩
def d_heard : He.DefD := ⟨("_law_heard", none), "_law_heard", "_law_heard", defArgs s_heard, defBody s_heard, defScope s_heard, [], []⟩
def d_is_small : He.DefD := ⟨("_law_is_small", none), "_law_is_small", "_law_is_small", defArgs s_is_small, defBody s_is_small, defScope s_is_small, [], []⟩
def d_right : He.DefD := ⟨("_law_right", none), "_law_right", "_law_right", defArgs s_right, defBody s_right, defScope s_right, [], []⟩
def d_counted : He.DefD := ⟨("_law_counted", none), "_law_counted", "_law_counted", defArgs s_counted, defBody s_counted, defScope s_counted, [], []⟩
def d_deep_right : He.DefD := ⟨("_law_deep_right", none), "_law_deep_right", "_law_deep_right", defArgs s_deep_right, defBody s_deep_right, defScope s_deep_right, [], []⟩
def d_law : He.DefD := ⟨("law", none), "law", "law", defArgs s_law, defBody s_law, defScope s_law, [], []⟩
def fn : List He.DefD := [d_TooLong_init, d_TooGreat_init, d_Frame_init, d_Frame_next_row, d_Frame_take_off, d_Frame_ask, d_Machine_init, d_Machine_begin_frame, d_Machine_enter, d_Machine_row_done, d_Machine_end_frame, d_run_made, d_bare_parts, d_asks_in, d_own_row, d_Maker_init, d_Maker_new_name, d_Maker_add_block, d_Maker_code_of, d_Maker_closed_code, d_Maker_add_due, d_Maker_rows_code, d_Maker_further_code, d_made, d_deck, d_draw, d_pick, d_names, d_pattern, d_takes, d_name_of, d_of, d_own_call, d_data, d_row, d_closed, d_program, d_taken, d_step, d_runs, d_call, d_run, d_is_row, d_are_blocks, d_asked, d_off, d_gone, d_machine, d_heard, d_is_small, d_right, d_counted, d_deep_right, d_law]
def fa : List He.Fa := [.glo "run_made", .glo "bare_parts", .glo "asks_in", .glo "own_row", .glo "made", .glo "_law_deck", .glo "_law_draw", .glo "_law_pick", .glo "_law_names", .glo "_law_pattern", .glo "_law_takes", .glo "_law_name_of", .glo "_law_of", .glo "_law_own_call", .glo "_law_data", .glo "_law_row", .glo "_law_closed", .glo "_law_program", .glo "_law_taken", .glo "_law_step", .glo "_law_runs", .glo "_law_call", .glo "_law_run", .glo "_law_is_row", .glo "_law_are_blocks", .glo "_law_asked", .glo "_law_off", .glo "_law_gone", .glo "_law_machine", .glo "_law_heard", .glo "_law_is_small", .glo "_law_right", .glo "_law_counted", .glo "_law_deep_right", .glo "law", .glo "TongueError", .glo "TooMuch", .glo "TooLong", .glo "TooGreat", .glo "Absent", .glo "Frame", .glo "Machine", .glo "Maker", .free "KeyError", .free "ValueError", .free "bool", .free "dict", .free "enumerate", .free "int", .free "isinstance", .free "len", .free "list", .free "range", .free "repr", .free "set", .free "sorted", .free "str", .free "sum", .free "tuple", .free "zip", .int "MOST" 2000, .str "SHAPE_machine" "shape", .str "OWN_machine" ".", .str "AT" "at", .str "FUN" "fun", .str "WAIT" "wait", .str "SHAPE_making" "shape", .str "CALL" "call", .str "TAKE" "take", .glo "DULL", .glo "TELL", .str "OWN_making" ".", .cls "Frame", .mkr "Frame", .noat "Frame" "code_here", .noat "Frame" "line_now", .noat "Frame" "values_here", .noat "Frame" "pile", .meth "Frame" "next_row", .meth "Frame" "take_off", .meth "Frame" "ask", .cls "Machine", .mkr "Machine", .noat "Machine" "codes", .noat "Machine" "frames", .noat "Machine" "told_last", .meth "Machine" "begin_frame", .meth "Machine" "enter", .meth "Machine" "row_done", .meth "Machine" "end_frame", .cls "Maker", .mkr "Maker", .noat "Maker" "blocks_made", .noat "Maker" "blocks_due", .noat "Maker" "many_named", .meth "Maker" "new_name", .meth "Maker" "add_block", .meth "Maker" "code_of", .meth "Maker" "closed_code", .meth "Maker" "add_due", .meth "Maker" "rows_code", .meth "Maker" "further_code"]
def loose : List PySem.Str := (["TongueError", "TooMuch", "TooLong", "TooGreat", "Absent", "MOST", "SHAPE_machine", "OWN_machine", "Frame", "Machine", "run_made", "bare_parts", "AT", "FUN", "WAIT", "SHAPE_making", "CALL", "TAKE", "DULL", "TELL", "OWN_making", "asks_in", "own_row", "Maker", "made", "_law_deck", "_law_draw", "_law_pick", "_law_names", "_law_pattern"] : List PySem.Str) ++ (["_law_takes", "_law_name_of", "_law_of", "_law_own_call", "_law_data", "_law_row", "_law_closed", "_law_program", "_law_taken", "_law_step", "_law_runs", "_law_call", "_law_run", "_law_is_row", "_law_are_blocks", "_law_asked", "_law_off", "_law_gone", "_law_machine", "_law_heard", "_law_is_small", "_law_right", "_law_counted", "_law_deep_right"] : List PySem.Str)
abbrev R : PySem.W.OpenRow := PySem.W.OpenLaw.row PySem.Challenge.rw_kindsbyworth_k46_the_machine_row_by_row
def ex (K : PySem.W.Frag) : Bool := He.tupB K "DULL" [.str "dull"] && (He.tupB K "TELL" [.str "tell"] && exB K)
/-! a Hook that looks at the statics too -/
abbrev AlC : Type := He.AlD × Bool
def frC (g : Addr → Option Obj) : PySem.W.Frag := He.frT g (He.asD g 5 ++ [cStatics])
def obsC (g : Addr → Option Obj) : AlC := (He.obsD fa fn (frC g), ex (frC g))
def hk : PySem.W.Hook where
  α := AlC
  obs := fun s => obsC s.heap.get?
  val := fun _ => (He.valD fn, true)
  says := fun _ h => ∃ K : PySem.W.Frag, K.In h ∧ He.SaysD fa fn K ∧ ex K = true
  of := fun _ _ e => ⟨_, He.frT_in, congrArg (fun z : AlC => z.1) e, congrArg (fun z : AlC => z.2) e⟩
  keeps := fun _ _ _ ⟨K, hK, c⟩ k => ⟨K, PySem.W.Frag.In.keeps hK k, c⟩
def ob (s : PySem.W.SharedT) : AlC := obsC (HandSHeadRun.getT s)
theorem ob_eq (s : PySem.W.SharedT) : ob s = hk.obs s.abs := by
  have e : HandSHeadRun.getT s = s.abs.heap.get? := funext (HandSHeadRun.getT_eq s)
  show obsC (HandSHeadRun.getT s) = obsC s.abs.heap.get?
  rw [e]
theorem run (w : World) : HandSHeadRun.RunEq R (PySem.W.view R.prog [59]) hk ob 4000 loose w := by
  intro os
  kernel_rfl
theorem tx_of {K : PySem.W.Frag} {h : Heap} {mg : Str → Option Value} (X : K.In h) (G : h.Ns mainGlobals mg) (c : He.SaysD fa fn K) (e : ex K = true) : Tx K mg := by
  obtain ⟨e1, e2⟩ := He.ba e
  obtain ⟨e2, _⟩ := He.ba e2
  exact ⟨c.def_ 0 (d := d_TooLong_init) rfl,
    c.def_ 1 (d := d_TooGreat_init) rfl,
    c.def_ 2 (d := d_Frame_init) rfl,
    c.def_ 3 (d := d_Frame_next_row) rfl,
    c.def_ 4 (d := d_Frame_take_off) rfl,
    c.def_ 5 (d := d_Frame_ask) rfl,
    c.def_ 6 (d := d_Machine_init) rfl,
    c.def_ 7 (d := d_Machine_begin_frame) rfl,
    c.def_ 8 (d := d_Machine_enter) rfl,
    c.def_ 9 (d := d_Machine_row_done) rfl,
    c.def_ 10 (d := d_Machine_end_frame) rfl,
    c.def_ 11 (d := d_run_made) rfl,
    c.def_ 12 (d := d_bare_parts) rfl,
    c.def_ 13 (d := d_asks_in) rfl,
    c.def_ 14 (d := d_own_row) rfl,
    c.def_ 15 (d := d_Maker_init) rfl,
    c.def_ 16 (d := d_Maker_new_name) rfl,
    c.def_ 17 (d := d_Maker_add_block) rfl,
    c.def_ 18 (d := d_Maker_code_of) rfl,
    c.def_ 19 (d := d_Maker_closed_code) rfl,
    c.def_ 20 (d := d_Maker_add_due) rfl,
    c.def_ 21 (d := d_Maker_rows_code) rfl,
    c.def_ 22 (d := d_Maker_further_code) rfl,
    c.def_ 23 (d := d_made) rfl,
    c.def_ 24 (d := d_deck) rfl,
    c.def_ 25 (d := d_draw) rfl,
    c.def_ 26 (d := d_pick) rfl,
    c.def_ 27 (d := d_names) rfl,
    c.def_ 28 (d := d_pattern) rfl,
    c.def_ 29 (d := d_takes) rfl,
    c.def_ 30 (d := d_name_of) rfl,
    c.def_ 31 (d := d_of) rfl,
    c.def_ 32 (d := d_own_call) rfl,
    c.def_ 33 (d := d_data) rfl,
    c.def_ 34 (d := d_row) rfl,
    c.def_ 35 (d := d_closed) rfl,
    c.def_ 36 (d := d_program) rfl,
    c.def_ 37 (d := d_taken) rfl,
    c.def_ 38 (d := d_step) rfl,
    c.def_ 39 (d := d_runs) rfl,
    c.def_ 40 (d := d_call) rfl,
    c.def_ 41 (d := d_run) rfl,
    c.def_ 42 (d := d_is_row) rfl,
    c.def_ 43 (d := d_are_blocks) rfl,
    c.def_ 44 (d := d_asked) rfl,
    c.def_ 45 (d := d_off) rfl,
    c.def_ 46 (d := d_gone) rfl,
    c.def_ 47 (d := d_machine) rfl,
    c.def_ 48 (d := d_heard) rfl,
    c.def_ 49 (d := d_is_small) rfl,
    c.def_ 50 (d := d_right) rfl,
    c.def_ 51 (d := d_counted) rfl,
    c.def_ 52 (d := d_deep_right) rfl,
    c.def_ 53 (d := d_law) rfl,
    He.glo_ok X G (c.fact 0 (f := .glo "run_made") rfl),
    He.glo_ok X G (c.fact 1 (f := .glo "bare_parts") rfl),
    He.glo_ok X G (c.fact 2 (f := .glo "asks_in") rfl),
    He.glo_ok X G (c.fact 3 (f := .glo "own_row") rfl),
    He.glo_ok X G (c.fact 4 (f := .glo "made") rfl),
    He.glo_ok X G (c.fact 5 (f := .glo "_law_deck") rfl),
    He.glo_ok X G (c.fact 6 (f := .glo "_law_draw") rfl),
    He.glo_ok X G (c.fact 7 (f := .glo "_law_pick") rfl),
    He.glo_ok X G (c.fact 8 (f := .glo "_law_names") rfl),
    He.glo_ok X G (c.fact 9 (f := .glo "_law_pattern") rfl),
    He.glo_ok X G (c.fact 10 (f := .glo "_law_takes") rfl),
    He.glo_ok X G (c.fact 11 (f := .glo "_law_name_of") rfl),
    He.glo_ok X G (c.fact 12 (f := .glo "_law_of") rfl),
    He.glo_ok X G (c.fact 13 (f := .glo "_law_own_call") rfl),
    He.glo_ok X G (c.fact 14 (f := .glo "_law_data") rfl),
    He.glo_ok X G (c.fact 15 (f := .glo "_law_row") rfl),
    He.glo_ok X G (c.fact 16 (f := .glo "_law_closed") rfl),
    He.glo_ok X G (c.fact 17 (f := .glo "_law_program") rfl),
    He.glo_ok X G (c.fact 18 (f := .glo "_law_taken") rfl),
    He.glo_ok X G (c.fact 19 (f := .glo "_law_step") rfl),
    He.glo_ok X G (c.fact 20 (f := .glo "_law_runs") rfl),
    He.glo_ok X G (c.fact 21 (f := .glo "_law_call") rfl),
    He.glo_ok X G (c.fact 22 (f := .glo "_law_run") rfl),
    He.glo_ok X G (c.fact 23 (f := .glo "_law_is_row") rfl),
    He.glo_ok X G (c.fact 24 (f := .glo "_law_are_blocks") rfl),
    He.glo_ok X G (c.fact 25 (f := .glo "_law_asked") rfl),
    He.glo_ok X G (c.fact 26 (f := .glo "_law_off") rfl),
    He.glo_ok X G (c.fact 27 (f := .glo "_law_gone") rfl),
    He.glo_ok X G (c.fact 28 (f := .glo "_law_machine") rfl),
    He.glo_ok X G (c.fact 29 (f := .glo "_law_heard") rfl),
    He.glo_ok X G (c.fact 30 (f := .glo "_law_is_small") rfl),
    He.glo_ok X G (c.fact 31 (f := .glo "_law_right") rfl),
    He.glo_ok X G (c.fact 32 (f := .glo "_law_counted") rfl),
    He.glo_ok X G (c.fact 33 (f := .glo "_law_deep_right") rfl),
    He.glo_ok X G (c.fact 34 (f := .glo "law") rfl),
    He.glo_ok X G (c.fact 35 (f := .glo "TongueError") rfl),
    He.glo_ok X G (c.fact 36 (f := .glo "TooMuch") rfl),
    He.glo_ok X G (c.fact 37 (f := .glo "TooLong") rfl),
    He.glo_ok X G (c.fact 38 (f := .glo "TooGreat") rfl),
    He.glo_ok X G (c.fact 39 (f := .glo "Absent") rfl),
    He.glo_ok X G (c.fact 40 (f := .glo "Frame") rfl),
    He.glo_ok X G (c.fact 41 (f := .glo "Machine") rfl),
    He.glo_ok X G (c.fact 42 (f := .glo "Maker") rfl),
    He.free_ok X G (c.fact 43 (f := .free "KeyError") rfl),
    He.free_ok X G (c.fact 44 (f := .free "ValueError") rfl),
    He.free_ok X G (c.fact 45 (f := .free "bool") rfl),
    He.free_ok X G (c.fact 46 (f := .free "dict") rfl),
    He.free_ok X G (c.fact 47 (f := .free "enumerate") rfl),
    He.free_ok X G (c.fact 48 (f := .free "int") rfl),
    He.free_ok X G (c.fact 49 (f := .free "isinstance") rfl),
    He.free_ok X G (c.fact 50 (f := .free "len") rfl),
    He.free_ok X G (c.fact 51 (f := .free "list") rfl),
    He.free_ok X G (c.fact 52 (f := .free "range") rfl),
    He.free_ok X G (c.fact 53 (f := .free "repr") rfl),
    He.free_ok X G (c.fact 54 (f := .free "set") rfl),
    He.free_ok X G (c.fact 55 (f := .free "sorted") rfl),
    He.free_ok X G (c.fact 56 (f := .free "str") rfl),
    He.free_ok X G (c.fact 57 (f := .free "sum") rfl),
    He.free_ok X G (c.fact 58 (f := .free "tuple") rfl),
    He.free_ok X G (c.fact 59 (f := .free "zip") rfl),
    He.int_ok X G (c.fact 60 (f := .int "MOST" 2000) rfl),
    He.str_ok X G (c.fact 61 (f := .str "SHAPE_machine" "shape") rfl),
    He.str_ok X G (c.fact 62 (f := .str "OWN_machine" ".") rfl),
    He.str_ok X G (c.fact 63 (f := .str "AT" "at") rfl),
    He.str_ok X G (c.fact 64 (f := .str "FUN" "fun") rfl),
    He.str_ok X G (c.fact 65 (f := .str "WAIT" "wait") rfl),
    He.str_ok X G (c.fact 66 (f := .str "SHAPE_making" "shape") rfl),
    He.str_ok X G (c.fact 67 (f := .str "CALL" "call") rfl),
    He.str_ok X G (c.fact 68 (f := .str "TAKE" "take") rfl),
    He.glo_ok X G (c.fact 69 (f := .glo "DULL") rfl),
    He.glo_ok X G (c.fact 70 (f := .glo "TELL") rfl),
    He.str_ok X G (c.fact 71 (f := .str "OWN_making" ".") rfl),
    He.cls_ok (c.fact 72 (f := .cls "Frame") rfl),
    He.mkr_ok (c.fact 73 (f := .mkr "Frame") rfl),
    He.noat_ok (c.fact 74 (f := .noat "Frame" "code_here") rfl),
    He.noat_ok (c.fact 75 (f := .noat "Frame" "line_now") rfl),
    He.noat_ok (c.fact 76 (f := .noat "Frame" "values_here") rfl),
    He.noat_ok (c.fact 77 (f := .noat "Frame" "pile") rfl),
    He.meth_ok (c.fact 78 (f := .meth "Frame" "next_row") rfl),
    He.meth_ok (c.fact 79 (f := .meth "Frame" "take_off") rfl),
    He.meth_ok (c.fact 80 (f := .meth "Frame" "ask") rfl),
    He.cls_ok (c.fact 81 (f := .cls "Machine") rfl),
    He.mkr_ok (c.fact 82 (f := .mkr "Machine") rfl),
    He.noat_ok (c.fact 83 (f := .noat "Machine" "codes") rfl),
    He.noat_ok (c.fact 84 (f := .noat "Machine" "frames") rfl),
    He.noat_ok (c.fact 85 (f := .noat "Machine" "told_last") rfl),
    He.meth_ok (c.fact 86 (f := .meth "Machine" "begin_frame") rfl),
    He.meth_ok (c.fact 87 (f := .meth "Machine" "enter") rfl),
    He.meth_ok (c.fact 88 (f := .meth "Machine" "row_done") rfl),
    He.meth_ok (c.fact 89 (f := .meth "Machine" "end_frame") rfl),
    He.cls_ok (c.fact 90 (f := .cls "Maker") rfl),
    He.mkr_ok (c.fact 91 (f := .mkr "Maker") rfl),
    He.noat_ok (c.fact 92 (f := .noat "Maker" "blocks_made") rfl),
    He.noat_ok (c.fact 93 (f := .noat "Maker" "blocks_due") rfl),
    He.noat_ok (c.fact 94 (f := .noat "Maker" "many_named") rfl),
    He.meth_ok (c.fact 95 (f := .meth "Maker" "new_name") rfl),
    He.meth_ok (c.fact 96 (f := .meth "Maker" "add_block") rfl),
    He.meth_ok (c.fact 97 (f := .meth "Maker" "code_of") rfl),
    He.meth_ok (c.fact 98 (f := .meth "Maker" "closed_code") rfl),
    He.meth_ok (c.fact 99 (f := .meth "Maker" "add_due") rfl),
    He.meth_ok (c.fact 100 (f := .meth "Maker" "rows_code") rfl),
    He.meth_ok (c.fact 101 (f := .meth "Maker" "further_code") rfl),
    fun H => He.tupB_ok (vs := [.str "dull"]) e1 H,
    fun H => He.tupB_ok (vs := [.str "tell"]) e2 H⟩
end K46
/-! K46M13 -/
set_option maxHeartbeats 4000000
namespace K46
open PySem PySem.Spec PyProof.Rows L2 C8
/-! ### how long all that is made is -/
def costT (t : Tm) (c : Nat) : Nat := nodes t * 41 * c
def dueT : List Due → Nat
  | [] => 0
  | (_, _, b) :: d => costT b (cdeep b + 1) + dueT d
theorem dueT_append : ∀ a b : List Due, dueT (a ++ b) = dueT a + dueT b
  | [], b => by simp [dueT]
  | (_, _, t) :: a, b => by
    have := dueT_append a b
    simp only [List.cons_append, dueT, this]
    omega
def DueN (d : List Due) : Prop := ∀ x ∈ d, x.2.1 + cdeep x.2.2 + 1 ≤ 40
mutual
theorem codeOf_N (Γ : List Nat) : ∀ (t : Tm) (s : DS), Γ.length + cdeep t + 1 ≤ 40 → DueN s.1 → DueN (codeOf Γ t s).2.1
  | .at i, s, _, h => h
  | .clo fn b, s, ht, h => by
    intro x hx
    rcases List.mem_append.mp hx with hx | hx
    · exact h x hx
    · rw [List.mem_singleton.mp hx]
      have : fn.toNat ≤ 1 := by cases fn <;> decide
      have ht : Γ.length + (1 + cdeep b) + 1 ≤ 40 := ht
      show Γ.length + fn.toNat + cdeep b + 1 ≤ 40
      omega
  | .nd k ts, s, ht, h => codesOf_N Γ ts s ht h
theorem codesOf_N (Γ : List Nat) : ∀ (ts : List Tm) (s : DS), Γ.length + cdeepL ts + 1 ≤ 40 → DueN s.1 → DueN (codesOf Γ ts s).2.1
  | [], s, _, h => h
  | t :: ts, s, ht, h => by
    have ht : Γ.length + max (cdeep t) (cdeepL ts) + 1 ≤ 40 := ht
    exact codesOf_N Γ ts _ (by omega) (codeOf_N Γ t s (by omega) h)
end
mutual
theorem codeOf_T (Γ : List Nat) : ∀ (t : Tm) (s : DS), dueT (codeOf Γ t s).2.1 ≤ dueT s.1 + nodes t * 41 * cdeep t
  | .at i, s => Nat.le_add_right _ _
  | .clo fn b, s => by
    show dueT (s.1 ++ [_]) ≤ dueT s.1 + (1 + nodes b) * 41 * (1 + cdeep b)
    rw [dueT_append]
    have : nodes b * 41 * (cdeep b + 1) ≤ (1 + nodes b) * 41 * (1 + cdeep b) := Nat.mul_le_mul (Nat.mul_le_mul_right _ (by omega)) (by omega)
    simp only [dueT, costT]
    omega
  | .nd k ts, s => by
    have h := codesOf_T Γ ts s
    have : nodesL ts * 41 * cdeepL ts ≤ (1 + nodesL ts) * 41 * cdeepL ts := Nat.mul_le_mul (Nat.mul_le_mul_right _ (by omega)) (Nat.le_refl _)
    show dueT (codesOf Γ ts s).2.1 ≤ dueT s.1 + (1 + nodesL ts) * 41 * cdeepL ts
    omega
theorem codesOf_T (Γ : List Nat) : ∀ (ts : List Tm) (s : DS), dueT (codesOf Γ ts s).2.1 ≤ dueT s.1 + nodesL ts * 41 * cdeepL ts
  | [], s => Nat.le_add_right _ _
  | t :: ts, s => by
    have h1 := codeOf_T Γ t s
    have h2 := codesOf_T Γ ts (codeOf Γ t s).2
    show dueT (codesOf Γ ts (codeOf Γ t s).2).2.1 ≤ dueT s.1 + (nodes t + nodesL ts) * 41 * max (cdeep t) (cdeepL ts)
    have h3 : nodes t * 41 * cdeep t ≤ nodes t * 41 * max (cdeep t) (cdeepL ts) := Nat.mul_le_mul_left _ (Nat.le_max_left _ _)
    have h4 : nodesL ts * 41 * cdeepL ts ≤ nodesL ts * 41 * max (cdeep t) (cdeepL ts) := Nat.mul_le_mul_left _ (Nat.le_max_right _ _)
    rw [Nat.add_mul, Nat.add_mul]
    omega
end
theorem codeOf_L (Γ : List Nat) (t : Tm) (s : DS) (h : Γ.length + cdeep t + 1 ≤ 40) : (codeOf Γ t s).1.length + 1 ≤ nodes t * 41 := by
  have h1 := codeOf_len Γ t s
  have h2 : nodes t * (Γ.length + 1) ≤ nodes t * 40 := Nat.mul_le_mul_left _ (by omega)
  have := nodes_pos t
  omega
theorem AddDue.sum {s s' : MS} (h : AddDue s s') : DueN s.2.1 → codeSum s'.1 ≤ codeSum s.1 + dueT s.2.1 := by
  induction h with
  | done m n => intro _; exact Nat.le_add_right _ _
  | @step m d n many nm b s' _ ih =>
    intro h
    have hx : many + cdeep b + 1 ≤ 40 := h (nm, many, b) (by simp)
    have hd : DueN d := fun x z => h x (by simp [z])
    have hx' : (List.range many).length + cdeep b + 1 ≤ 40 := by rw [List.length_range]; exact hx
    have h1 := ih (codeOf_N _ b (d, n) hx' hd)
    have h2 := codeOf_T (List.range many) b (d, n)
    have h3 := codeOf_L (List.range many) b (d, n) hx'
    rw [codeSum_append] at h1
    simp only [codeSum, List.length_append, List.length_singleton] at h1
    show codeSum s'.1 ≤ codeSum m + dueT (d ++ [(nm, many, b)])
    rw [dueT_append]
    simp only [dueT, costT]
    rw [Nat.mul_add, Nat.mul_one]
    simp only at h2
    omega
/-- a row: its names, asks, how great it is -/
def RwN (many : Nat) (r : Rw) : Prop := (asksL r.ps 0 many).2.1.length + cdeep r.body + 1 ≤ 40 ∧ pnodesL r.ps ≤ 60
def rowsT : List Rw → Nat
  | [] => 0
  | r :: rs => nodes r.body * 41 * (cdeep r.body + 1) + 100 + rowsT rs
theorem rowsC_T (many : Nat) (hm : many ≤ 10) : ∀ (rs : List Rw) (s : MS), (∀ r ∈ rs, RwN many r) → DueN s.2.1 →
    DueN (rowsC many rs s).2.2.1 ∧ codeSum (rowsC many rs s).2.1 + dueT (rowsC many rs s).2.2.1 + (rowsC many rs s).1.length ≤ codeSum s.1 + dueT s.2.1 + rowsT rs + 2
  | [], s, _, h => ⟨h, by simp [rowsC, rowsT]⟩
  | r :: rs, s, hr, h => by
    obtain ⟨f1, f2⟩ := hr r (List.mem_cons_self ..)
    have h1 := codeOf_N _ r.body s.2 f1 h
    have h2 := codeOf_L _ r.body s.2 f1
    have h3 := (asksL_len r.ps 0 many).2
    have h4 := codeOf_T (asksL r.ps 0 many).2.1 r.body s.2
    have ih := rowsC_T many hm rs (s.1, ((codeOf (asksL r.ps 0 many).2.1 r.body s.2).2.1, (codeOf (asksL r.ps 0 many).2.1 r.body s.2).2.2 + 1)) (fun r z => hr r (List.mem_cons_of_mem _ z)) h1
    simp only [rowsC, rowsT]
    rw [Nat.mul_add, Nat.mul_one]
    split
    · exact ⟨h1, by simp only [List.length_append, List.length_singleton]; omega⟩
    · refine ⟨ih.1, ?_⟩
      have ih2 := ih.2
      rw [codeSum_append]
      simp only [codeSum, List.length_append, List.length_singleton, List.length_cons, List.length_nil, List.length_map, List.length_range, addAsks_length] at ih2 ⊢
      omega
def progT : List Df → Nat
  | [] => 0
  | d :: g => rowsT d.rows + 2 + progT g
theorem progC_T : ∀ (g : List Df) (s : MS), (∀ d ∈ g, d.many ≤ 10 ∧ ∀ r ∈ d.rows, RwN d.many r) → DueN s.2.1 →
    DueN (progC g s).2.1 ∧ codeSum (progC g s).1 + dueT (progC g s).2.1 ≤ codeSum s.1 + dueT s.2.1 + progT g
  | [], s, _, h => ⟨h, by simp [progC, progT]⟩
  | d :: g, s, hg, h => by
    obtain ⟨a, b⟩ := hg d (List.mem_cons_self ..)
    obtain ⟨r1, r2⟩ := rowsC_T d.many a d.rows s b h
    have ih := progC_T g ((rowsC d.many d.rows s).2.1 ++ [⟨d.name, d.many, (rowsC d.many d.rows s).1⟩], (rowsC d.many d.rows s).2.2) (fun e z => hg e (List.mem_cons_of_mem _ z)) r1
    refine ⟨ih.1, ?_⟩
    have ih2 := ih.2
    rw [codeSum_append] at ih2
    simp only [codeSum] at ih2
    simp only [progC, progT]
    omega
theorem MadeOf.sum {g : List Df} {t : Tm} {bs : List Bk} (h : MadeOf g t bs) (hg : ∀ d ∈ g, d.many ≤ 10 ∧ ∀ r ∈ d.rows, RwN d.many r) (ht : cdeep t + 1 ≤ 40) : codeSum bs ≤ progT g + nodes t * 41 * (cdeep t + 1) := by
  obtain ⟨n, h⟩ := h
  have h1 := progC_T g ([], ([], 0)) hg (fun x z => by cases z)
  have ht' : ([] : List Nat).length + cdeep t + 1 ≤ 40 := by simpa using ht
  have h2 := codeOf_N [] t (progC g ([], ([], 0))).2 ht' h1.1
  have h3 := codeOf_T [] t (progC g ([], ([], 0))).2
  have h4 := codeOf_L [] t (progC g ([], ([], 0))).2 ht'
  have h5 := h.sum h2
  have h6 := h1.2
  rw [codeSum_append] at h5
  simp only [codeSum, List.length_append, List.length_singleton, dueT] at h5 h6
  rw [Nat.mul_add, Nat.mul_one]
  omega
theorem rowsT_le {c : Nat} : ∀ {rs : List Rw}, (∀ r ∈ rs, nodes r.body * 41 * (cdeep r.body + 1) ≤ c) → rowsT rs ≤ rs.length * (c + 100)
  | [], _ => Nat.zero_le _
  | r :: rs, h => by
    have h1 := h r (List.mem_cons_self ..)
    have h2 := rowsT_le (fun x z => h x (List.mem_cons_of_mem r z))
    simp only [rowsT, List.length_cons, Nat.add_mul, Nat.one_mul]
    omega
theorem progT_le {c : Nat} : ∀ {gg : List Df}, (∀ d ∈ gg, rowsT d.rows ≤ c) → progT gg ≤ gg.length * (c + 2)
  | [], _ => Nat.zero_le _
  | d :: gg, h => by
    have h1 := h d (List.mem_cons_self ..)
    have h2 := progT_le (fun x z => h x (List.mem_cons_of_mem d z))
    simp only [progT, List.length_cons, Nat.add_mul, Nat.one_mul]
    omega
end K46
/-! K46Q2 -/
set_option maxHeartbeats 4000000
namespace K46
open PySem PySem.Spec PyProof.Rows L2 C8
/-! ### what is shown of worths -/
theorem name_shown {n : Str} (h : ShN n) : (reprText n).length ≤ 82 := by
  have := StrLaws.reprText_len n fun c hc => Nat.lt_trans (h.2 c hc) (by decide)
  have := h.1
  omega
mutual
theorem mv_shown : ∀ (m : MV), MvOk m → (encV m).py.showable = true ∧ (encV m).py.hasDict = false ∧ (encV m).py.depth ≤ 2 * mnodes m + 1 ∧ (encV m).py.shown.length ≤ 120 * mnodes m
  | .shape n vs, h => by
    obtain ⟨h1, h2, h3, h4⟩ := mvs_shown vs h.2.2
    have hn := name_shown h.2.1
    have hs : (reprText (Str.ofString "shape")).length ≤ 7 := by decide +kernel
    have e : (encV (.shape n vs)).py = .tuple [.str "shape", .str n, .tuple (D.pys (encVs vs))] := rfl
    have hl : (PyData.shownAll (D.pys (encVs vs))).length = vs.length := by
      rw [shownAll_len, pys_len, encVs_map, List.length_map]
    have ht := tupleText_len_le (PyData.shownAll (D.pys (encVs vs)))
    have ht2 := tupleText_len_le [reprText (Str.ofString "shape"), reprText n, tupleText (PyData.shownAll (D.pys (encVs vs)))]
    rw [e]
    have hvl := h.1
    refine ⟨?_, ?_, ?_, ?_⟩
    · simp only [PyData.showable, PyData.showableAll, h1, Bool.and_true]
    · simp only [PyData.hasDict, PyData.hasDictAll, h2, Bool.or_false]
    · simp only [PyData.depth, PyData.depthAll, mnodes]
      omega
    · show (tupleText [reprText (Str.ofString "shape"), reprText n, tupleText (PyData.shownAll (D.pys (encVs vs)))]).length ≤ 120 * (1 + mnodesL vs)
      simp only [List.map_cons, List.map_nil, List.sum_cons, List.sum_nil, List.length_cons, List.length_nil] at ht2
      omega
  | .clo _ _, h => h.elim
  | .dull, h => h.elim
theorem mvs_shown : ∀ (vs : List MV), MvsOk vs → PyData.showableAll (D.pys (encVs vs)) = true ∧ PyData.hasDictAll (D.pys (encVs vs)) = false ∧ PyData.depthAll (D.pys (encVs vs)) ≤ 2 * mnodesL vs + 1 ∧ ((PyData.shownAll (D.pys (encVs vs))).map (·.length)).sum ≤ 120 * mnodesL vs
  | [], _ => ⟨rfl, rfl, by simp [encVs, D.pys, PyData.depthAll], by simp [encVs, D.pys, PyData.shownAll]⟩
  | v :: vs, h => by
    obtain ⟨a1, a2, a3, a4⟩ := mv_shown v h.1
    obtain ⟨b1, b2, b3, b4⟩ := mvs_shown vs h.2
    have e : D.pys (encVs (v :: vs)) = (encV v).py :: D.pys (encVs vs) := rfl
    rw [e]
    refine ⟨?_, ?_, ?_, ?_⟩
    · simp only [PyData.showableAll, a1, b1, Bool.and_self]
    · simp only [PyData.hasDictAll, a2, b2, Bool.or_self]
    · simp only [PyData.depthAll, mnodesL]
      omega
    · simp only [PyData.shownAll, List.map_cons, List.sum_cons, mnodesL]
      omega
theorem shownAll_len : ∀ xs : List PyData, (PyData.shownAll xs).length = xs.length
  | [] => rfl
  | x :: xs => congrArg Nat.succ (shownAll_len xs)
theorem pys_len : ∀ ds : List D, (D.pys ds).length = ds.length
  | [] => rfl
  | d :: ds => congrArg Nat.succ (pys_len ds)
end
end K46
/-! K46Q3 -/
set_option maxHeartbeats 4000000
namespace K46
open PySem PySem.Spec PyProof.Rows L2 C8
/-! ### all that a program and a closed term must be -/
structure RP (F : Tab) (g : List Df) (t : Tm) : Prop where
  pf : ProgFacts F g
  tf : TermFacts F t
  sh : ∀ n, F.S.sh n ≤ 3
  w : progW g ≤ 2500
  n : nodes t ≤ 600
  cd : cdeep t ≤ 39
  gl : g.length ≤ 4
  nd : (g.map (·.name)).Nodup
  nm : ∀ d ∈ g, Nm d.name
  rn : ∀ d ∈ g, ∀ r ∈ d.rows, RwN d.many r
  sum : progT g + nodes t * 41 * (cdeep t + 1) ≤ 10000000
theorem RowOk.rn {F : Tab} {κs : List Kd} {r : Rw} (h : RowOk F κs r) (hl : κs.length ≤ 4) : RwN κs.length r ∧ nodes r.body ≤ 149 ∧ nodes r.body * 41 * (cdeep r.body + 1) ≤ 149 * 41 * 39 := by
  obtain ⟨α, h1, h2, h3, h4, h5⟩ := h
  have ha := PatsK.length _ _ _ h1
  have hs := h2.s
  have hc := h2.c
  have e : (asksL r.ps 0 κs.length).2.1.length = α.length := by rw [asksL_takes, ha]
  exact ⟨⟨by rw [e]; omega, by omega⟩, hs, Nat.mul_le_mul (Nat.mul_le_mul_right _ hs) (by omega)⟩
theorem PF.rp {F : Tab} {g : List Df} {t : Tm} (h : PF F g) (hg : g.length ≤ 4) (nd : (g.map (·.name)).Nodup) (nm : ∀ d ∈ g, Nm d.name) (ht : Tg F [] .data 4 597 2 t) : RP F g t := by
  have hs := ht.s
  have hc := ht.c
  have hc : cdeep t ≤ 2 := by omega
  have hw : progW g ≤ g.length * (1 + 4 * 151) := progW_le fun d hd => by
    obtain ⟨_, e, _, h4, h5⟩ := h.df d hd
    have h6 : rowsW d.rows ≤ d.rows.length * (2 + 149) := rowsW_le fun r hr => ((h5 r hr).rn (h.fl _)).2.1
    have := Nat.mul_le_mul_right (2 + 149) h4
    omega
  have hw2 := Nat.mul_le_mul_right (1 + 4 * 151) hg
  have hT : progT g ≤ g.length * (4 * (149 * 41 * 39 + 100) + 2) := progT_le fun d hd => by
    obtain ⟨_, e, _, h4, h5⟩ := h.df d hd
    have h6 : rowsT d.rows ≤ d.rows.length * (149 * 41 * 39 + 100) := rowsT_le fun r hr => ((h5 r hr).rn (h.fl _)).2.2
    exact Nat.le_trans h6 (Nat.mul_le_mul_right _ h4)
  have hT2 := Nat.mul_le_mul_right (4 * (149 * 41 * 39 + 100) + 2) hg
  have hT3 : nodes t * 41 * (cdeep t + 1) ≤ 597 * 41 * 3 := Nat.mul_le_mul (Nat.mul_le_mul_right _ hs) (by omega)
  exact ⟨h.facts hg, ht.facts, h.sh, by omega, by omega, by omega, hg, nd, nm, fun d hd r hr => by
    obtain ⟨_, e, _, _, h5⟩ := h.df d hd
    rw [e]
    exact ((h5 r hr).rn (h.fl _)).1, by omega⟩
/-- what is made of them runs to the worth -/
structure RF (g : List Df) (bs : List Bk) (n : Nat) (v : MV) : Prop where
  form : FormOk g bs
  few : bs.length < sizeLine
  run : ∃ c, codeIn bs "." = some c ∧ TellsS bs n [⟨c, 0, [], []⟩] v
  le : n ≤ 2000000
  ok : MvOk v
theorem RP.run {F : Tab} {g : List Df} {t : Tm} (h : RP F g t) {bs : List Bk} (hb : MadeOf g t bs) {w : Wo} {s : Nat} (he : EvL g [] [t] [w] s) (hs : s ≤ 40) (hw : WoK F w .data) : ∃ n, RF g bs n (wval w) := by
  have G := hb.good (M := 6400) (by decide) (by decide) h.pf.ok h.tf.ok h.tf.n h.nd h.nm h.pf.ps h.pf.fit h.tf.fit
  obtain ⟨c, c1, c2, c3⟩ := G.own
  obtain ⟨n, v, v1, v2, v3⟩ := sim_all G.good he c2 c1 h.tf.s (by
    have : (241 : Nat) ≤ sizeLine := by decide
    omega)
  have hv := Wv.val hw v1
  subst hv
  have few := G.few
  have hw1 := h.w
  have hn := h.n
  have hgl := h.gl
  have hB : s * Bst 6400 ≤ 40 * Bst 6400 := Nat.mul_le_mul_right _ hs
  have hB2 : 40 * Bst 6400 = 1024000 := by decide
  have hsum := hb.sum (fun d hd => ⟨(h.pf.fit d hd).2.1, h.rn d hd⟩) (by have := h.cd; omega)
  have hlim : (4000 : Nat) < sizeLine := by decide
  refine ⟨n, ⟨⟨G.nd, by omega, Nat.le_trans hsum h.sum, G.defs, G.term, fun b hb => ?_, by omega⟩, by omega, ⟨_, c1, v3⟩, by omega, wval_ok h.sh w hw⟩⟩
  rcases G.only b hb with h | h | ⟨k, h1, h2⟩
  · exact .inl h
  · exact .inr (.inl h)
  · exact .inr (.inr ⟨k, by omega, h2⟩)
end K46
/-! K46R15 -/
set_option maxHeartbeats 4000000
namespace K46
open PySem PySem.Spec PyProof.Rows L2 C8
/-! ### defs that show what they have: calm and room -/
structure CalG (P : Program) (w : World) (K : PySem.W.Frag) (mg : Str → Option Value) (base : Heap) (u k : Nat) (x : Str) (sp : Sp) : Prop where
  ex : ∃ (f : Addr) (fd : FuncData) (ps : List Str), FnG P w K mg base C8.CX0 u k f fd ps sp ∧ mg x = some (.ref f) ∧ PySem.W.keepIn K (.ref f) = true ∧ Binds K fd ps []
section
variable {P : Program} {w : World} {K : PySem.W.Frag} {mg : Str → Option Value} {base : Heap} {u k : Nat} {f : Addr} {ps N : List Str} {sp : Sp} {x : Str} {st : Stmt}
theorem calG_mk (hf : ∃ fd, Fd K x x st [] f fd) (hg : mg x = some (.ref f)) (S : FnScope N ps (defScope st)) (hbd : BindsN x st x ps) (len : ∀ vs H Q E, sp vs H Q E → vs.length = ps.length)
    (hb : ∀ (cdv : Value) (A : Around) (outer : List Env) (s : Shared) (H : Hp) (vs : List V) (Q : VK) (E : XK), Calm (u + 3) (A.deeper (envOfC x (defScope st) s.heap.objs.size f cdv)) → Room k (A.deeper (envOfC x (defScope st) s.heap.objs.size f cdv)) → sp vs H Q E →
      ∃ t, PSs (cxOf C8.CX0 P w K mg base N x (defScope st) f cdv A outer s H E).nox (defBody st) t ∧ t { nx := fun _ H' => Q .non H', rt := Q } (start N vs) H) : CalG P w K mg base u (k + 1) x sp := by
  obtain ⟨fd, F⟩ := hf
  refine ⟨f, fd, ps, FnG_of F S len fun cdv A outer s H vs Q E hc hr h => ?_, hg, F.kp, F.bindsN hbd⟩
  obtain ⟨t, ht, hq⟩ := hb cdv A outer s H vs Q E hc hr h
  exact ⟨t, ht.nox, hq⟩
end
section
variable {X : Cx} {u k j : Nat} {x : Str} {sp : Sp} {p pos : Pos} {e : Expr} {es : List Expr} {t : TA}
theorem pe_cG (c : CalG X.prog X.w X.K X.mg X.base u k x sp) (hc : Calm u X.A) (hr : Room j X.A) (hk : k ≤ j) (hg : Gl X x) (ha : PA X (e :: es) t)
    (hdb : (x == ("__debug__" : Str)) = false := by decide) (he : starEach (e :: es) X.env = (false, eval e X.env) :: starEach es X.env := by rfl) (hpl : (backTo pos (starEach es X.env)).any (·.1) = false := by rfl) :
    PE X (.Call (.Name x p) (e :: es) [] pos) (tCall sp [] C8.E0 t) := by
  obtain ⟨f, fd, ps, F, hm, kp, hb⟩ := c.ex
  exact pe_callC F hc (hr.mono hk) hg hm kp hb (C8.pass0 (E := C8.E0)) ha hdb he hpl
end
theorem Calm.mono {u v : Nat} {A : Around} (c : Calm u A) (h : u ≤ v) : Calm v A := ⟨c.gs, Nat.le_trans c.un h⟩
theorem Calm.roomF {u k m : Nat} {A : Around} (c : Calm u A) (r : Room k A) (h : m + 3 ≤ 3 * k) (h2 : u + 16 * m + 300 < cLine) : RoomF m A := ⟨r.hd, by have := r.dp; omega, by have := c.un; omega⟩
end K46
/-! K46L11 -/
set_option maxHeartbeats 4000000
namespace K46
open PySem PySem.Spec PyProof.Rows L2 C8
/-! ### right -/
def RunIx : Type := {x : Tab × List Df // TabOk x.1 x.2 ∧ x.2.length < sizeLine}
instance : Nonempty RunIx := ⟨⟨(⟨⟨fun _ => 0, fun _ => 0⟩, fun _ => []⟩, []), ⟨fun _ => Nat.zero_le _, fun _ => Nat.zero_le _, fun n h => absurd rfl h⟩, by decide⟩⟩
structure Shn (d : D) : Prop where
  tp : ∃ ds, d = .tup ds
  s : d.py.showable = true
  h : d.py.hasDict = false
  dp : d.py.depth ≤ 6100
  l : d.py.shown.length ≤ 400000
theorem Shn.dpx {K : PySem.W.Frag} {d : D} {H : Hp} {x : V} (h : Shn d) (ha : At K H x d) : ∃ a, x = .ref a ∧ Dp K H (.ref a) d.py := by
  obtain ⟨ds, e⟩ := h.tp
  subst e
  obtain ⟨a, xs, rfl, _⟩ := id ha.t
  exact ⟨a, rfl, At.dp ha⟩
theorem Shn.l' {d : D} (h : Shn d) : d.py.shown.length ≤ sizeLine := Nat.le_trans h.l (by decide)
theorem Shn.u {d : D} (h : Shn d) {u : Nat} (hu : u ≤ 200) : u + (d.py.depth + 1) < cLine := by
  have h1 := h.dp
  show _ < 9900
  omega
theorem mv_shn {m : MV} (ok : MvOk m) (hm : mnodes m ≤ 3000) : Shn (encV m) := by
  obtain ⟨h1, h2, h3, h4⟩ := mv_shown m ok
  refine ⟨?_, h1, h2, by omega, by omega⟩
  cases m with
  | shape n vs => exact ⟨_, rfl⟩
  | clo _ _ => exact ok.elim
  | dull => exact ok.elim
theorem told_shn {m : MV} (ok : MvOk m) (hm : mnodes m ≤ 3000) : Shn (.tup [.str "told", encV m]) := by
  obtain ⟨h1, h2, h3, h4⟩ := mv_shown m ok
  have e : (D.tup [.str "told", encV m]).py = .tuple [.str "told", (encV m).py] := rfl
  have hs : (reprText (Str.ofString "told")).length ≤ 6 := by decide +kernel
  refine ⟨⟨_, rfl⟩, ?_, ?_, ?_, ?_⟩ <;> rw [e]
  · simp only [PyData.showable, PyData.showableAll, h1, Bool.and_true]
  · simp only [PyData.hasDict, PyData.hasDictAll, h2, Bool.or_false]
  · simp only [PyData.depth, PyData.depthAll]
    omega
  · have ht2 := tupleText_len_le [reprText (Str.ofString "told"), (encV m).py.shown]
    show (tupleText [reprText (Str.ofString "told"), (encV m).py.shown]).length ≤ 400000
    simp only [List.map_cons, List.map_nil, List.sum_cons, List.sum_nil, List.length_cons, List.length_nil] at ht2
    omega
theorem long_shn : Shn (.tup [.str "long", .int 2000]) := ⟨⟨_, rfl⟩, by decide +kernel, by decide +kernel, by decide +kernel, by decide +kernel⟩
theorem long_shaped (k : Nat) : SeqAt.shaped (D.tup [.str "long", .int (k : Int)]).py = true := by
  have e : (D.tup [.str "long", .int (k : Int)]).py = .tuple [.str "long", .int (k : Int)] := rfl
  rw [e]
  simp [SeqAt.shaped, PyData.canLay0, PyData.canLayAll0, PyData.depth, PyData.depthAll]
  decide +kernel
section
variable {P : Program} {w : World} {K : PySem.W.Frag} {mg : Str → Option Value} {base : Heap}
def sp_right (K : PySem.W.Frag) : Sp := fun vs H Q _ => ∃ (gv tv : V) (F : Tab) (g : List Df) (t : Tm), vs = [gv, tv] ∧ At K H gv (encG g) ∧ At K H tv (encT t) ∧ RP F g t ∧ ∀ H', Keep [] H H' → Q (.bl true) H'
theorem ok_right (T : Tx K mg) (Xe : Ex K) (Xd : Ex2 K) {u : Nat} (hu : u ≤ 100) : CalG P w K mg base u 104 "_law_right" (sp_right K) := by
  have c_run : ∀ i : RunIx, CalF P w K mg base 304 "_law_run" (sp_run K i.1.1 i.1.2 40 4) := fun i => ok_run_all T i.1.1 i.1.2 i.2.1 i.2.2
  have c_is_small := ok_is_small (P := P) (w := w) (base := base) T
  have c_made := ok_made (P := P) (w := w) (base := base) T
  have c_are_blocks := ok_are_blocks (P := P) (w := w) (base := base) T
  have c_machine := ok_machine (P := P) (w := w) (base := base) T
  have c_heard := ok_heard (P := P) (w := w) (base := base) T Xe Xd
  refine calG_mk T.f_right T.g_right sc_right (fun _ _ _ _ _ _ us hl => match us, hl with | [_, _], _ => rfl) (fun vs H Q E h => ?_) (fun cdv A outer s0 H vs Q E hc hr h => ?_)
  · obtain ⟨gv, tv, F, g, t, rfl, _⟩ := h
    rfl
  · obtain ⟨gv, tv, F, g, t, rfl, hg, ht, rp, q⟩ := h
    have hrF := hc.roomF (m := 304) hr (by decide) (by show u + 3 + 16 * 304 + 300 < 9900; omega)
    refine ⟨_, (pss_cons (ps_set (i := 2) sc_right.nd rfl (Or.inl rfl) (pe_lst (pa_cons pe_int (pa_cons pe_int pa_nil))))
      (pss_cons (ps_set (i := 3) sc_right.nd rfl (Or.inl rfl) (pe_cFX c_run hrF (by omega) rfl (pa_cons (pv 0) (pa_cons (pv 1) (pa_cons (pe_lst pa_nil) (pa_cons (pv 2) pa_nil))))))
      (pss_cons (ps_if (PW.pt (pw_or (pt_cmpR op_isN (pv 3) pe_non (nomark _)) (pw_or1 (pt_not (pt_val (pe_c c_is_small hr (by omega) rfl (pa_cons (pv 3) pa_nil))))))) (pss_one (ps_ret pe_bl)) pss_nil)
      (pss_cons (ps_set (i := 4) sc_right.nd rfl (Or.inl rfl) (pe_c c_made hr (by omega) rfl (pa_cons (pv 0) (pa_cons (pv 1) pa_nil))))
      (pss_cons (ps_if (pt_not (pt_val (pe_c c_are_blocks hr (by omega) rfl (pa_cons (pv 0) (pa_cons (pv 4) pa_nil))))) (pss_one (ps_ret pe_bl)) pss_nil)
      (pss_cons (ps_asg (pe_c c_machine hr (by omega) rfl (pa_cons (pv 4) pa_nil)) (pg_tup rfl (pgs_cons (pg_name (i := 5) sc_right.nd rfl (Or.inl rfl)) (pgs_cons (pg_name (i := 6) sc_right.nd rfl (Or.inr rfl)) pgs_nil))))
      (pss_cons (ps_if (pt_cmpR op_ne (pe_callB (call_repr hc) (by rfl) T.z_repr (by decide +kernel) (pa_cons (pv 5) pa_nil)) (pe_callB (call_repr hc) (by rfl) T.z_repr (by decide +kernel) (pa_cons (pv 3) pa_nil)) (nomark _)) (pss_one (ps_ret pe_bl)) pss_nil)
      (pss_cons (ps_for PassesOwn.never rfl (pi_tup (pe_tup (pa_cons (pv 6) (pa_cons (pe_op op_add (pv 6) pe_int) (pa_cons (pe_op op_pow pe_int pe_int) pa_nil))))) (pg_name (i := 7) sc_right.nd rfl (Or.inl rfl)) (pss_one (ps_if (pt_cmpR op_ne (pe_callB (call_repr hc) (by rfl) T.z_repr (by decide +kernel) (pa_cons (pe_c c_heard hr (by omega) rfl (pa_cons (pv 4) (pa_cons (pv 7) pa_nil))) pa_nil)) (pe_callB (call_repr hc) (by rfl) T.z_repr (by decide +kernel) (pa_cons (pe_tup (pa_cons pe_str (pa_cons (pv 3) pa_nil))) pa_nil)) (nomark _)) (pss_one (ps_ret pe_bl)) pss_nil)))
      (pss_cons (ps_for PassesOwn.never rfl (pi_list (pe_lc (g := (gName 8)) rfl sc_right.nd (pi_tup (pe_tup (pa_cons pe_int (pa_cons (pe_op op_sub (pv 6) pe_int) pa_nil)))) (blkOk_by (own := [("_law_one", 8)]) (N := ["_law_program_here", "_law_term", "_law_count", "_law_due", "_law_blocks", "_law_told", "_law_many", "_law_limit", "_law_one"]) (sc := defScope s_right) (by decide +kernel)) (fun _ _ _ _ _ => (pg_name (i := 8) sc_right.nd rfl (Or.inl rfl))) (fun _ _ _ _ _ => (pts_one (pt_cmpR op_gt (pv 6) pe_int (nomark _)))) (fun _ _ _ _ _ => (pv 8)))) (pg_name (i := 7) sc_right.nd rfl (Or.inl rfl)) (pss_one (ps_if (pt_cmpR (op_neD hr.units) (pe_c c_heard hr (by omega) rfl (pa_cons (pv 4) (pa_cons (pv 7) pa_nil))) (pe_tup (pa_cons pe_str (pa_cons (pv 7) pa_nil))) (nomark _)) (pss_one (ps_ret pe_bl)) pss_nil)))
      (pss_one (ps_ret (pe_cmpR op_eq (pe_callB (call_repr hc) (by rfl) T.z_repr (by decide +kernel) (pa_cons (pe_c c_heard hr (by omega) rfl (pa_cons (pv 4) (pa_cons pe_non pa_nil))) pa_nil)) (pe_callB (call_repr hc) (by rfl) T.z_repr (by decide +kernel) (pa_cons (pe_ifExp (pt_cmpR op_le (pv 6) pe_int (nomark _)) (pe_tup (pa_cons pe_str (pa_cons (pv 3) pa_nil))) (pe_tup (pa_cons pe_str (pa_cons pe_int pa_nil)))) pa_nil)) (nomark _))))))))))))), ?_⟩
    refine ⟨by decide, fun cl ncl => ?_⟩
    have k1 := Keep.new (o := .lst [.int 0, .int 40]) ncl (Keep.refl [] H)
    have hcl : upd H cl (.lst [.int 0, .int 40]) cl = some (.lst [.int 0, .int 40]) := upd_same
    generalize upd H cl (.lst [.int 0, .int 40]) = H1 at k1 hcl
    refine ⟨_, rfl, _, rfl, by decide, fun al nal => ?_⟩
    have k2 := k1.new_ (o := .lst []) nal
    have k12 := Keep.new (o := .lst []) nal (Keep.refl [] H1)
    have hal : upd H1 al (.lst []) al = some (.lst []) := upd_same
    generalize upd H1 al (.lst []) = H2 at k2 k12 hal
    have hcl2 := k12.at_ _ _ (by simp) hcl
    have ne : cl ≠ al := ne_of_none hcl nal
    refine ⟨_, rfl, ⟨(F, g), rp.pf.tab, Nat.lt_of_le_of_lt rp.gl (by decide)⟩, [cl], gv, tv, al, cl, [], [], t, [], .data, 0, rfl, hg.keep k2, ht.keep k2, hal, ⟨by simpa using ne.symm, by simp, fun b z => by rw [List.mem_singleton.mp z, hcl2]; simp⟩, .nil, trivial, rp.tf.k, rp.tf.e, hcl2, ⟨by decide, by decide⟩, by decide, fun H3 k3 => ?_, fun wo s v H3 hE hwo k3 hc3 hv hle => ?_⟩
    · refine ⟨_, rfl, rfl, _, rfl, ift rfl (ift rfl (q _ (k2.call0' k3 ncl)))⟩
    · have k3 := k2.call0' k3 ncl
      have nv : v ≠ .non := by
        intro z
        subst z
        cases hv
      have hv3 := WAt.val hwo hv
      have mok := wval_ok rp.sh wo hwo
      refine ⟨_, rfl, rfl, _, rfl, iff' (decide_eq_false nv) ?_⟩
      refine ⟨_, rfl, v, wval wo, rfl, hv3, mok, fun H4 k4 hm => ?_, fun H4 k4 => ?_⟩
      · refine ⟨_, rfl, iff' rfl ?_⟩
        have k4' := k3.trans k4
        obtain ⟨bs, hbs⟩ := MadeOf.ex g t rp.pf.ok rp.tf.ok rp.tf.n
        obtain ⟨n, rf⟩ := rp.run hbs hE (by omega) hwo
        obtain ⟨c, hc1, hte⟩ := rf.run
        refine ⟨_, rfl, _, rfl, gv, tv, g, t, bs, rfl, hg.keep k4', ht.keep k4', rp.pf.ok, rp.tf.ok, rp.tf.n, rp.pf.w, hbs, fun b H5 k5 hb => ?_⟩
        have k5' := k4'.trans k5
        refine ⟨_, rfl, _, rfl, gv, .ref b, g, bs, rfl, hg.keep k5', hb, rf.form, fun H6 k6 => ?_⟩
        refine ⟨_, rfl, iff' rfl ?_⟩
        refine ⟨_, rfl, .ref b, bs, c, n, _, rfl, hb.keep k6, rf.form.nd, rf.few, hc1, hte, rf.le, fun t1 x1 H7 k7 ht1 hx1 => ?_⟩
        have hv7 := (hv3.keep k4).keep (k5.trans (k6.trans k7))
        have hb7 := hb.keep (k6.trans k7)
        have k7' := k5'.trans (k6.trans k7)
        have hU : ∀ (A : Around), Calm (u + 3) A → A.units ≤ 200 := fun A h => by have := h.un; omega
        have hU := hU _ hc
        have sh1 := mv_shn mok hm
        have sh2 := told_shn mok hm
        refine ⟨t1, _, rfl, ht1, rfl, _, _, rfl, _, _, rfl, rfl, ?_⟩
        obtain ⟨a1, rfl, p1⟩ := sh1.dpx hx1
        obtain ⟨a2, rfl, p2⟩ := sh1.dpx hv7
        refine ⟨_, rfl, a1, _, rfl, p1, sh1.s, sh1.h, sh1.u hU, sh1.l', ?_⟩
        refine ⟨_, rfl, a2, _, rfl, p2, sh1.s, sh1.h, sh1.u hU, sh1.l', ?_⟩
        refine ⟨rfl, _, rfl, iff' (by rw [decide_eq_true rfl]; rfl) ?_⟩
        refine ⟨_, rfl, _, rfl, _, _, rfl, rfl, _, _, rfl, rfl, ⟨by decide, by decide, by decide⟩, ?_⟩
        refine ⟨(by show 3 ≤ sizeLine; decide), fun lp nlp => ?_⟩
        have k8 := k7'.new_ (o := .tup [.int (n : Int), .int ((n : Int) + 1), .int (10 ^ (9 : Int).toNat)]) nlp
        have k8' := Keep.new (o := .tup [.int (n : Int), .int ((n : Int) + 1), .int (10 ^ (9 : Int).toNat)]) nlp (Keep.refl [] H7)
        have hlp : upd H7 lp (.tup [.int (n : Int), .int ((n : Int) + 1), .int (10 ^ (9 : Int).toNat)]) lp = some (.tup [.int (n : Int), .int ((n : Int) + 1), .int (10 ^ (9 : Int).toNat)]) := upd_same
        have hv8 := hv7.keep k8'
        have hb8 := hb7.keep k8'
        generalize upd H7 lp (.tup [.int (n : Int), .int ((n : Int) + 1), .int (10 ^ (9 : Int).toNat)]) = H8 at k8 k8' hlp hv8 hb8
        have hLs : ∀ (i : Nat) (v : V), [V.int (n : Int), V.int ((n : Int) + 1), V.int (10 ^ (9 : Int).toNat)][i]? = some v → ∃ L : Nat, v = V.int (L : Int) ∧ n ≤ L := fun i v e => by
          match i, e with
          | 0, e => exact ⟨n, by simpa using e.symm, Nat.le_refl _⟩
          | 1, e => exact ⟨n + 1, by simpa using e.symm, by omega⟩
          | 2, e => exact ⟨1000000000, by simpa using e.symm, by have := rf.le; omega⟩
        refine ⟨lp, rfl, ⟨_, .of hlp⟩, for_it (walk_tup (xs := [.int (n : Int), .int ((n : Int) + 1), .int (10 ^ (9 : Int).toNat)])) (fun i σ H' => ∃ o7 o8, σ = [some gv, some tv, some (.ref cl), some (.ref a2), some (.ref b), some (.ref a1), some (.int (n : Int)), o7, o8] ∧ Keep [] H8 H')
          ⟨none, none, rfl, Keep.refl _ _⟩ (fun i σ H' _ ⟨_, _, e, k⟩ => k.sqT (.of hlp)) (fun i v σ H9 H10 hi ⟨o7, o8, e, k⟩ yy => ?_) (fun σ H9 ⟨o7, o8, e, k⟩ => ?_)⟩
        · subst e
          obtain ⟨rfl, ev⟩ := yy
          obtain ⟨L, rfl, hL⟩ := hLs i v ev
          refine ⟨_, rfl, _, rfl, b, some L, bs, c, n, wval wo, rfl, hb8.keep k, rf.form.nd, rf.few, hc1, hte, fun _ H10 x k10 hx => ?_, fun z => absurd (show L < n from z) (by omega)⟩
          have k10' := k.trans k10
          have hv10 := hv8.keep k10'
          obtain ⟨a3, rfl, p3⟩ := sh2.dpx hx
          refine ⟨a3, _, rfl, p3, sh2.s, sh2.h, sh2.u hU, sh2.l', ?_⟩
          refine ⟨_, rfl, (by show 2 ≤ sizeLine; decide), fun t2 nt2 => ?_⟩
          have kt := Keep.new (o := .tup [.str "told", .ref a2]) nt2 (Keep.refl [] H10)
          have ht2 : At K (upd H10 t2 (.tup [.str "told", .ref a2])) (.ref t2) (.tup [.str "told", encV (wval wo)]) := .tup (.of upd_same) (.cons (.str _) (.cons (hv10.keep kt) .nil))
          refine ⟨t2, _, rfl, At.dp ht2, sh2.s, sh2.h, sh2.u hU, sh2.l', ?_⟩
          refine ⟨rfl, _, rfl, iff' (by rw [decide_eq_true rfl]; rfl) ?_⟩
          exact ⟨_, _, rfl, k10'.trans kt⟩
        · subst e
          have hv9 := hv8.keep k
          have hb9 := hb8.keep k
          have k9 := k8.trans k
          refine ⟨_, rfl, _, _, rfl, rfl, (by show 2 ≤ sizeLine; decide), fun p np => ?_⟩
          have kp := Keep.new (o := .tup [.int 1, .int ((n : Int) - 1)]) np (Keep.refl [] H9)
          have hp : upd H9 p (.tup [.int 1, .int ((n : Int) - 1)]) p = some (.tup [.int 1, .int ((n : Int) - 1)]) := upd_same
          have hv10 := hv9.keep kp
          have hb10 := hb9.keep kp
          have k10 := k9.trans kp
          generalize upd H9 p (.tup [.int 1, .int ((n : Int) - 1)]) = H10 at kp hp hv10 hb10 k10
          have hJs : ∀ (i : Nat) (v : V), [V.int 1, V.int ((n : Int) - 1)][i]? = some v → 1 < n → ∃ L : Nat, v = V.int (L : Int) ∧ L < n := fun i v e hn => by
            match i, e with
            | 0, e => exact ⟨1, by simpa using e.symm, hn⟩
            | 1, e =>
              refine ⟨n - 1, ?_, by omega⟩
              have : V.int ((n : Int) - 1) = v := by simpa using e
              rw [← this]
              congr 1
              omega
          refine ⟨p, rfl, ⟨_, .of hp⟩, fun D nD => ?_⟩
          refine lc_it (walk_tup (xs := [.int 1, .int ((n : Int) - 1)])) (fun i H' => ∃ js : List Nat, Keep [] H10 H' ∧ H' D = some (.lst (js.map fun (j : Nat) => V.int (j : Int))) ∧ (∀ j ∈ js, j < n) ∧ js.length ≤ i) ⟨[], Keep.new nD (Keep.refl _ _), upd_same, (fun j z => by cases z), Nat.le_refl _⟩ (fun i H' _ ⟨_, k, _⟩ => k.sqT (.of hp)) (fun i v H1 H2 hi ⟨js, k, hD, hj, hjl⟩ yy => ?_) (fun H11 ⟨js, k11, hD, hj, hjl⟩ => ?_)
          · obtain ⟨rfl, ev⟩ := yy
            refine ⟨rfl, _, rfl, _, _, rfl, rfl, _, rfl, ?_⟩
            by_cases hn : 1 < n
            · obtain ⟨L, rfl, hL⟩ := hJs i v ev hn
              have h2 : (2 : Nat) < sizeLine := by decide
              have hi2 : i < 2 := (List.getElem?_eq_some_iff.mp ev).1
              refine ift (decide_eq_true (by show (1 : Int) < (n : Int); omega)) ⟨_, rfl, _, hD, by rw [List.length_map]; omega, js ++ [L], Keep.lst hD (.inr nD) k, by rw [upd_same, List.map_append]; rfl, fun j z => ?_, by simp; omega⟩
              rcases List.mem_append.mp z with z | z
              · exact hj j z
              · rw [List.mem_singleton.mp z]; exact hL
            · exact iff' (decide_eq_false (by show ¬ (1 : Int) < (n : Int); omega)) ⟨js, k, hD, hj, by omega⟩
          · refine ⟨D, rfl, ⟨_, .of hD⟩, ?_⟩
            have hv11 := hv10.keep k11
            have hb11 := hb10.keep k11
            have k12 := k10.trans k11
            refine for_it (walk_list (xs := js.map fun (j : Nat) => V.int (j : Int))) (fun i σ H' => ∃ o7 o8, σ = [some gv, some tv, some (.ref cl), some (.ref a2), some (.ref b), some (.ref a1), some (.int (n : Int)), o7, o8] ∧ Keep [] H11 H')
              ⟨_, _, rfl, Keep.refl _ _⟩ (fun i σ H' _ ⟨_, _, e, k⟩ => .of (k.at_ _ _ (by simp) hD)) (fun i v σ H12 H13 hi ⟨o7, o8, e, k⟩ yy => ?_) (fun σ H12 ⟨o7, o8, e, k⟩ => ?_)
            · subst e
              obtain ⟨rfl, ev⟩ := yy
              rw [List.getElem?_map] at ev
              obtain ⟨L, eL, rfl⟩ := Option.map_eq_some_iff.mp ev
              have hL := hj L (List.mem_of_getElem? eL)
              refine ⟨_, rfl, _, rfl, b, some L, bs, c, n, wval wo, rfl, hb11.keep k, rf.form.nd, rf.few, hc1, hte, fun z => absurd (show n ≤ L from z) (by omega), fun _ H14 x k14 hx => ?_⟩
              refine ⟨_, rfl, (by show 2 ≤ sizeLine; decide), fun t2 nt2 => ?_⟩
              have kt := Keep.new (o := .tup [.str "long", .int (L : Int)]) nt2 (Keep.refl [] H14)
              have ht2 : At K (upd H14 t2 (.tup [.str "long", .int (L : Int)])) (.ref t2) (.tup [.str "long", .int (L : Int)]) := .tup (.of upd_same) (.cons (.str _) (.cons (.int _) .nil))
              refine ⟨_, _, At.dp (hx.keep kt), At.dp ht2, long_shaped L, long_shaped L, _, rfl, iff' ?_ ?_⟩
              · rw [show (K46.D.tup [.str "long", .int (((some L).getD 2000 : Nat) : Int)]) = K46.D.tup [.str "long", .int (L : Int)] from rfl, SeqAt.eqv_refl _ (SeqAt.canLay_of_shaped (long_shaped L))]
                rfl
              · exact ⟨_, _, rfl, (k.trans k14).trans kt⟩
            · subst e
              have k13 := k12.trans k
              refine ⟨_, rfl, b, none, bs, c, n, wval wo, rfl, hb11.keep k, rf.form.nd, rf.few, hc1, hte, fun z H14 x k14 hx => ?_, fun z H14 x k14 hx => ?_⟩
              · obtain ⟨a3, rfl, p3⟩ := sh2.dpx hx
                refine ⟨a3, _, rfl, p3, sh2.s, sh2.h, sh2.u hU, sh2.l', ?_⟩
                refine ⟨_, rfl, _, _, rfl, rfl, _, rfl, ift (decide_eq_true (by have : n ≤ 2000 := z; show (n : Int) ≤ 2000; omega)) ?_⟩
                refine ⟨_, rfl, (by show 2 ≤ sizeLine; decide), fun t2 nt2 => ?_⟩
                have kt := Keep.new (o := .tup [.str "told", .ref a2]) nt2 (Keep.refl [] H14)
                have ht2 : At K (upd H14 t2 (.tup [.str "told", .ref a2])) (.ref t2) (.tup [.str "told", encV (wval wo)]) := .tup (.of upd_same) (.cons (.str _) (.cons (((hv11.keep k).keep k14).keep kt) .nil))
                refine ⟨t2, _, rfl, At.dp ht2, sh2.s, sh2.h, sh2.u hU, sh2.l', ?_⟩
                refine ⟨rfl, ?_⟩
                rw [decide_eq_true rfl]
                exact q _ ((k13.trans k14).trans kt)
              · have hx : At K H14 x (.tup [.str "long", .int 2000]) := hx
                obtain ⟨a3, rfl, p3⟩ := long_shn.dpx hx
                refine ⟨a3, _, rfl, p3, long_shn.s, long_shn.h, long_shn.u hU, long_shn.l', ?_⟩
                refine ⟨_, rfl, _, _, rfl, rfl, _, rfl, iff' (decide_eq_false (by have : 2000 < n := z; show ¬ (n : Int) ≤ 2000; omega)) ?_⟩
                refine ⟨(by show 2 ≤ sizeLine; decide), fun t2 nt2 => ?_⟩
                have kt := Keep.new (o := .tup [.str "long", .int 2000]) nt2 (Keep.refl [] H14)
                have ht2 : At K (upd H14 t2 (.tup [.str "long", .int 2000])) (.ref t2) (.tup [.str "long", .int 2000]) := .tup (.of upd_same) (.cons (.str _) (.cons (.int _) .nil))
                refine ⟨t2, _, rfl, At.dp ht2, long_shn.s, long_shn.h, long_shn.u hU, long_shn.l', ?_⟩
                refine ⟨rfl, ?_⟩
                rw [decide_eq_true rfl]
                exact q _ ((k13.trans k14).trans kt)
      · exact ⟨_, rfl, ift rfl (q _ (k3.trans k4))⟩
end
end K46
/-! K46Q4 -/
set_option maxHeartbeats 4000000
namespace K46
open PySem PySem.Spec PyProof.Rows L2 C8
/-! ### the deep program -/
section
variable (n z m : Str)
def drows : List Rw := [⟨[.shape z [], .take], .at 0⟩, ⟨[.shape m [.take], .take], .nd (.shape m) [.nd (.call n) [.at 1, .at 0]]⟩]
def dg : List Df := [⟨n, 2, drows n z m⟩]
def dch : Nat → Tm
  | 0 => .nd (.shape z) []
  | k + 1 => .nd (.shape m) [dch k]
def dgive : Nat → Tm
  | 0 => dch z m 3
  | k + 1 => .nd .give [.clo true (.nd (.call n) [.at 0, .at 0]), dgive k]
def wch : Nat → Wo
  | 0 => .shape z []
  | k + 1 => .shape m [wch k]
variable {n z m}
theorem dch_ev (env : List Wo) : ∀ k, EvL (dg n z m) env [dch z m k] [wch z m k] 0
  | 0 => .shape (.nil env) (.nil env)
  | k + 1 => .shape (dch_ev env k) (.nil env)
theorem drow_ev (hne : z ≠ m) (j : Nat) : ∀ k, ∃ a b, pick (drows n z m) [wch z m k, wch z m j] = some (a, b) ∧ EvL (dg n z m) a [b] [wch z m (k + j)] k
  | 0 => by
    refine ⟨[wch z m j], .at 0, by simp [drows, pick, takenL, takenP, wch], ?_⟩
    rw [Nat.zero_add]
    exact .at (by simp) rfl (.nil _)
  | k + 1 => by
    obtain ⟨a, b, h1, h2⟩ := drow_ev hne j k
    refine ⟨[wch z m k, wch z m j], .nd (.shape m) [.nd (.call n) [.at 1, .at 0]], by simp [drows, pick, takenL, takenP, wch, hne], ?_⟩
    have e : k + 1 + j = (k + j) + 1 := by omega
    rw [e]
    have h := EvL.call (g := dg n z m) (env := [wch z m k, wch z m j]) (n := n) (as := [.at 1, .at 0]) (.at (by simp) rfl (.at (by simp) rfl (.nil _))) (show rowsOf (dg n z m) n = some (drows n z m) by simp [rowsOf, dg]) h1 h2 (.nil _)
    have := EvL.shape (n := m) h (.nil _)
    have e2 : 0 + 1 + k + 0 + 0 = k + 1 := by omega
    rw [e2] at this
    exact this
theorem dgive_ev (hne : z ≠ m) : ∀ k, ∃ s, EvL (dg n z m) [] [dgive n z m k] [wch z m (3 * 2 ^ k)] s ∧ s = 3 * 2 ^ k - 3 + 2 * k
  | 0 => ⟨0, dch_ev [] 3, rfl⟩
  | k + 1 => by
    obtain ⟨s, h, e⟩ := dgive_ev hne k
    obtain ⟨a, b, h1, h2⟩ := drow_ev (n := n) hne (3 * 2 ^ k) (3 * 2 ^ k)
    have hc := EvL.call (g := dg n z m) (env := [] ++ [wch z m (3 * 2 ^ k)]) (n := n) (as := [.at 0, .at 0]) (.at (by simp) rfl (.at (by simp) rfl (.nil _))) (show rowsOf (dg n z m) n = some (drows n z m) by simp [rowsOf, dg]) h1 h2 (.nil _)
    have hg := EvL.give (.clo (fn := true) (b := .nd (.call n) [.at 0, .at 0]) h) hc (.nil _)
    have e2 : 3 * 2 ^ k + 3 * 2 ^ k = 3 * 2 ^ (k + 1) := by rw [Nat.pow_succ]; omega
    rw [e2] at hg
    refine ⟨_, hg, ?_⟩
    have : 1 ≤ 2 ^ k := Nat.one_le_two_pow
    omega
theorem dwv {bs : List Bk} : ∀ {k : Nat} {v : MV}, Wv bs (wch z m k) v → v = chain z m k
  | 0, _, q => by
    cases q with
    | shape _ q =>
      cases q
      rfl
  | k + 1, _, q => by
    cases q with
    | shape _ q =>
      cases q with
      | cons q1 q2 =>
        cases q2
        rw [dwv q1]
        rfl
end
end K46
/-! K46Q5 -/
set_option maxHeartbeats 4000000
namespace K46
open PySem PySem.Spec PyProof.Rows L2 C8
section
variable {n z m : Str}
theorem dg_ok : ∀ d ∈ dg n z m, DfOk d := fun d hd => by
  rw [List.mem_singleton.mp hd]
  refine ⟨by show 2 ≤ 5; decide, by show 2 ≤ 1000; decide, fun r hr => ?_⟩
  rcases List.mem_cons.mp hr with rfl | hr
  · refine ⟨by show 2 ≤ 2; decide, by simp [asksL, asksIn, TmOk], by simp [pnodesL, pnodes, nodes], by simp [pdeepL, pdeep]⟩
  · rw [List.mem_singleton.mp hr]
    refine ⟨by show 2 ≤ 2; decide, by simp [asksL, asksIn, TmOk, TmsOk], by simp [pnodesL, pnodes, nodes, nodesL], by simp [pdeepL, pdeep]⟩
theorem dt_ok : TmOk 0 (dgive n z m 8) := by simp [dgive, dch, TmOk, TmsOk]
theorem dt_nodes : nodes (dgive n z m 8) = 44 := by simp [dgive, dch, nodes, nodesL]
theorem dg_w : progW (dg n z m) ≤ 100000 := by simp [dg, drows, progW, rowsW, nodes, nodesL]
def dS (n z m : Str) : Shs := ⟨fun x => if x = m then 1 else 0, fun x => if x = n then 2 else 0⟩
theorem dch_S (hne : z ≠ m) : ∀ k, TmS (dS n z m) (dch z m k)
  | 0 => ⟨by simp [dS, hne], trivial⟩
  | k + 1 => ⟨by simp [dS], dch_S hne k, trivial⟩
theorem dgive_S (hne : z ≠ m) : ∀ k, TmS (dS n z m) (dgive n z m k)
  | 0 => dch_S hne 3
  | k + 1 => ⟨⟨by simp [dS], trivial, trivial, trivial⟩, dgive_S hne k, trivial⟩
theorem dg_S (hne : z ≠ m) : ProgS (dS n z m) (dg n z m) := fun d hd => by
  rw [List.mem_singleton.mp hd]
  refine ⟨fun r hr => ?_, by simp [dS], fun r hr => ?_⟩
  · rcases List.mem_cons.mp hr with rfl | hr
    · exact ⟨⟨⟨by simp [dS, hne], trivial⟩, trivial, trivial⟩, trivial⟩
    · rw [List.mem_singleton.mp hr]
      exact ⟨⟨⟨by simp [dS], trivial, trivial⟩, trivial, trivial⟩, by simp [dS], ⟨by simp [dS], trivial, trivial, trivial⟩, trivial⟩
  · rcases List.mem_cons.mp hr with rfl | hr
    · rfl
    · rw [List.mem_singleton.mp hr]
      rfl
theorem deep_facts (hn : Nm n) (hne : z ≠ m) {bs : List Bk} (hb : MadeOf (dg n z m) (dgive n z m 8) bs) : (bs.map (·.name)).Nodup ∧ bs.length < sizeLine ∧ ∃ c N, codeIn bs "." = some c ∧ TellsS bs N [⟨c, 0, [], []⟩] (chain z m 768) ∧ N ≤ 2000000 := by
  have G := hb.good (M := 200) (S := dS n z m) (by decide) (by decide) dg_ok dt_ok (by rw [dt_nodes]; decide) (by simp [dg]) (fun d hd => by rw [List.mem_singleton.mp hd]; exact hn) (dg_S hne) (fun d hd => by
    rw [List.mem_singleton.mp hd]
    refine ⟨by show 2 ≤ 4; decide, by show 2 ≤ 10; decide, fun r hr => ?_⟩
    rcases List.mem_cons.mp hr with rfl | hr
    · exact ⟨by simp [TmFit, nodes, cdeep, asksL, asksIn], by simp [pnodesL, pnodes]⟩
    · rw [List.mem_singleton.mp hr]
      exact ⟨by simp [TmFit, nodes, nodesL, cdeep, cdeepL, asksL, asksIn], by simp [pnodesL, pnodes]⟩) (by simp [TmFit, dgive, dch, nodes, nodesL, cdeep, cdeepL])
  obtain ⟨c, c1, c2, c3⟩ := G.own
  obtain ⟨s, he, es⟩ := dgive_ev (n := n) hne 8
  have es : s = 781 := es
  subst es
  obtain ⟨N, v, v1, v2, v3⟩ := sim_all G.good he c2 c1 (dgive_S hne 8) (by decide)
  have hv : v = chain z m 768 := dwv v1
  subst hv
  have few := G.few
  have hw : progW (dg n z m) ≤ 100000 := dg_w
  rw [dt_nodes] at few
  have hl : (dg n z m).length = 1 := rfl
  have h1 : (100046 : Nat) < sizeLine := by decide
  have hB : 781 * Bst 200 = 624800 := by decide
  exact ⟨G.nd, by omega, _, N, c1, v3, by omega⟩
end
end K46
/-! K46L12 -/
set_option maxHeartbeats 4000000
namespace K46
open PySem PySem.Spec PyProof.Rows L2 C8
/-! ### the deep program is right -/
section
variable {P : Program} {w : World} {K : PySem.W.Frag} {mg : Str → Option Value} {base : Heap}
def sp_deep_right (K : PySem.W.Frag) : Sp := fun vs H Q _ => ∃ (dk cs : Addr), vs = [.ref dk] ∧ DeckOk H dk cs ∧ ∀ H', Keep [dk, cs] H H' → DeckOk H' dk cs → Q (.bl true) H'
theorem ok_deep_right (T : Tx K mg) (Xe : Ex K) : Cal P w K mg base 20 "_law_deep_right" (sp_deep_right K) [] := by
  obtain ⟨fd1, Fd1⟩ := T.f_run_made
  have F1 := ok_run_made (P := P) (w := w) (base := base) T Xe Fd1
  obtain ⟨mv, hb2⟩ := run_made_k Fd1
  have kp1 := Fd1.kp
  have c_names := ok_names (P := P) (w := w) (base := base) T
  have c_made := ok_made (P := P) (w := w) (base := base) T
  have c_machine := ok_machine (P := P) (w := w) (base := base) T
  have c_counted := ok_counted (P := P) (w := w) (base := base) T
  refine cal_mk T.f_deep_right T.g_deep_right sc_deep_right (fun _ _ _ _ _ _ us hl => match us, hl with | [_], _ => rfl) (fun vs H Q E h => ?_) (fun cdv A outer s0 H vs Q E hr h => ?_)
  · obtain ⟨dk, cs, rfl, _⟩ := h
    rfl
  · obtain ⟨dk, cs, rfl, dok, q⟩ := h
    refine ⟨_, (pss_cons (ps_asg (pe_c c_names hr (by omega) rfl (pa_cons (pv 0) (pa_cons pe_int pa_nil))) (pg_unl rfl (pgs_cons (pg_name (i := 1) sc_deep_right.nd rfl (Or.inl rfl)) (pgs_cons (pg_name (i := 2) sc_deep_right.nd rfl (Or.inl rfl)) (pgs_cons (pg_name (i := 3) sc_deep_right.nd rfl (Or.inl rfl)) pgs_nil)))))
      (pss_cons (ps_set (i := 4) sc_deep_right.nd rfl (Or.inl rfl) (pe_tup (pa_cons pe_str (pa_cons (pv 3) (pa_cons (pe_tup (pa_cons (pe_tup (pa_cons pe_str (pa_cons (pv 1) (pa_cons (pe_tup (pa_cons (pe_tup (pa_cons pe_str (pa_cons pe_int pa_nil))) (pa_cons (pe_tup (pa_cons pe_str (pa_cons pe_int pa_nil))) pa_nil))) pa_nil)))) pa_nil)) pa_nil)))))
      (pss_cons (ps_set (i := 5) sc_deep_right.nd rfl (Or.inl rfl) (pe_tup (pa_cons (pe_tup (pa_cons (pe_tup (pa_cons (pe_tup (pa_cons pe_str (pa_cons (pv 2) (pa_cons (pe_tup pa_nil) pa_nil)))) (pa_cons (pe_tup (pa_cons pe_str pa_nil)) pa_nil))) (pa_cons (pe_tup (pa_cons pe_str (pa_cons pe_int pa_nil))) pa_nil))) (pa_cons (pe_tup (pa_cons (pe_tup (pa_cons (pe_tup (pa_cons pe_str (pa_cons (pv 3) (pa_cons (pe_tup (pa_cons (pe_tup (pa_cons pe_str pa_nil)) pa_nil)) pa_nil)))) (pa_cons (pe_tup (pa_cons pe_str pa_nil)) pa_nil))) (pa_cons (pv 4) pa_nil))) pa_nil))))
      (pss_cons (ps_set (i := 6) sc_deep_right.nd rfl (Or.inl rfl) (pe_tup (pa_cons pe_str (pa_cons (pv 2) (pa_cons (pe_tup pa_nil) pa_nil)))))
      (pss_cons (ps_for PassesOwn.never rfl (pi_range1 rfl T.z_range (pa_cons pe_int pa_nil)) (pg_name (i := 7) sc_deep_right.nd rfl (Or.inl rfl)) (pss_one (ps_set (i := 6) sc_deep_right.nd rfl (Or.inl rfl) (pe_tup (pa_cons pe_str (pa_cons (pv 3) (pa_cons (pe_tup (pa_cons (pv 6) pa_nil)) pa_nil)))))))
      (pss_cons (ps_for PassesOwn.never rfl (pi_range1 rfl T.z_range (pa_cons pe_int pa_nil)) (pg_name (i := 7) sc_deep_right.nd rfl (Or.inl rfl)) (pss_one (ps_set (i := 6) sc_deep_right.nd rfl (Or.inl rfl) (pe_tup (pa_cons pe_str (pa_cons (pe_tup (pa_cons pe_str (pa_cons (pe_tup (pa_cons pe_str (pa_cons (pv 1) (pa_cons (pe_tup (pa_cons (pe_tup (pa_cons pe_str (pa_cons pe_int pa_nil))) (pa_cons (pe_tup (pa_cons pe_str (pa_cons pe_int pa_nil))) pa_nil))) pa_nil)))) pa_nil))) (pa_cons (pv 6) pa_nil)))))))
      (pss_cons (ps_set (i := 8) sc_deep_right.nd rfl (Or.inl rfl) (pe_c c_made hr (by omega) rfl (pa_cons (pe_tup (pa_cons (pe_tup (pa_cons (pv 1) (pa_cons pe_int (pa_cons (pv 5) pa_nil)))) pa_nil)) (pa_cons (pv 6) pa_nil))))
      (pss_cons (ps_asg (pe_c c_machine hr (by omega) rfl (pa_cons (pv 8) pa_nil)) (pg_tup rfl (pgs_cons (pg_name (i := 9) sc_deep_right.nd rfl (Or.inl rfl)) (pgs_cons (pg_name (i := 10) sc_deep_right.nd rfl (Or.inl rfl)) pgs_nil))))
      (pss_cons (ps_set (i := 11) sc_deep_right.nd rfl (Or.inl rfl) (pe_callND F1 (hr.mono (by decide)) rfl T.g_run_made kp1 hb2 (fun σ => passAt takes0 σ) (pa_cons (pv 8) pa_nil) (pk_cons (pv 10) pk_nil)))
      (pss_one (ps_ret (pe_and (pe_cmpR op_eq (pe_c c_counted hr (by omega) rfl (pa_cons (pv 9) (pa_cons (pv 3) pa_nil))) pe_int (nomark _)) (pe_one (pe_cmpR op_eq (pe_c c_counted hr (by omega) rfl (pa_cons (pv 11) (pa_cons (pv 3) pa_nil))) pe_int (nomark _))))))))))))))), ?_⟩
    refine ⟨_, rfl, dk, cs, 3, rfl, dok, by decide, fun nl ns H1 kn d1 n0l hnl hlen hnd hnm => ?_⟩
    obtain ⟨n, z, m, rfl⟩ : ∃ n z m, ns = [n, z, m] := by
      match ns, hlen with
      | [n, z, m], _ => exact ⟨n, z, m, rfl⟩
    have hzm : z ≠ m := by
      simp only [List.nodup_cons, List.mem_cons, List.not_mem_nil, not_or, or_false] at hnd
      exact hnd.2.1
    have hn := hnm n (List.mem_cons_self ..)
    refine ⟨nl, _, rfl, .of hnl, rfl, _, _, rfl, _, _, rfl, _, _, rfl, rfl, ?_⟩
    have kk := Keep.refl [] H1
    refine ⟨_, rfl, _, rfl, (by show 2 ≤ sizeLine; decide), fun p1 n1 => ?_⟩
    have k1 := Keep.new (o := .tup [.str "at", .int 1]) n1 (Keep.refl [] H1)
    have g1 : At K (upd H1 p1 (.tup [.str "at", .int 1])) (.ref p1) (.tup [.str "at", .int 1]) := .tup (.of upd_same) (.cons (.str _) (.cons (.int _) .nil))
    have kk := kk.trans k1
    generalize upd H1 p1 (.tup [.str "at", .int 1]) = T1 at kk g1
    refine ⟨(by show 2 ≤ sizeLine; decide), fun p2 n2 => ?_⟩
    have k2 := Keep.new (o := .tup [.str "at", .int 0]) n2 (Keep.refl [] T1)
    have g2 : At K (upd T1 p2 (.tup [.str "at", .int 0])) (.ref p2) (.tup [.str "at", .int 0]) := .tup (.of upd_same) (.cons (.str _) (.cons (.int _) .nil))
    replace g1 := g1.keep k2
    have kk := kk.trans k2
    generalize upd T1 p2 (.tup [.str "at", .int 0]) = T2 at kk g1 g2
    refine ⟨(by show 2 ≤ sizeLine; decide), fun p3 n3 => ?_⟩
    have k3 := Keep.new (o := .tup [.ref p1, .ref p2]) n3 (Keep.refl [] T2)
    have g3 : At K (upd T2 p3 (.tup [.ref p1, .ref p2])) (.ref p3) (.tup [.tup [.str "at", .int 1], .tup [.str "at", .int 0]]) := .tup (.of upd_same) (.cons (g1.keep k3) (.cons (g2.keep k3) .nil))
    replace g1 := g1.keep k3
    replace g2 := g2.keep k3
    have kk := kk.trans k3
    generalize upd T2 p3 (.tup [.ref p1, .ref p2]) = T3 at kk g3
    refine ⟨(by show 3 ≤ sizeLine; decide), fun p4 n4 => ?_⟩
    have k4 := Keep.new (o := .tup [.str "call", .str n, .ref p3]) n4 (Keep.refl [] T3)
    have g4 : At K (upd T3 p4 (.tup [.str "call", .str n, .ref p3])) (.ref p4) (.tup [.str "call", .str n, .tup [.tup [.str "at", .int 1], .tup [.str "at", .int 0]]]) := .tup (.of upd_same) (.cons (.str _) (.cons (.str _) (.cons (g3.keep k4) .nil)))
    replace g3 := g3.keep k4
    have kk := kk.trans k4
    generalize upd T3 p4 (.tup [.str "call", .str n, .ref p3]) = T4 at kk g4
    refine ⟨(by show 1 ≤ sizeLine; decide), fun p5 n5 => ?_⟩
    have k5 := Keep.new (o := .tup [.ref p4]) n5 (Keep.refl [] T4)
    have g5 : At K (upd T4 p5 (.tup [.ref p4])) (.ref p5) (.tup [.tup [.str "call", .str n, .tup [.tup [.str "at", .int 1], .tup [.str "at", .int 0]]]]) := .tup (.of upd_same) (.cons (g4.keep k5) .nil)
    replace g4 := g4.keep k5
    have kk := kk.trans k5
    generalize upd T4 p5 (.tup [.ref p4]) = T5 at kk g5
    refine ⟨(by show 3 ≤ sizeLine; decide), fun p6 n6 => ?_⟩
    have k6 := Keep.new (o := .tup [.str "shape", .str m, .ref p5]) n6 (Keep.refl [] T5)
    have g6 : At K (upd T5 p6 (.tup [.str "shape", .str m, .ref p5])) (.ref p6) (.tup [.str "shape", .str m, .tup [.tup [.str "call", .str n, .tup [.tup [.str "at", .int 1], .tup [.str "at", .int 0]]]]]) := .tup (.of upd_same) (.cons (.str _) (.cons (.str _) (.cons (g5.keep k6) .nil)))
    replace g5 := g5.keep k6
    have kk := kk.trans k6
    generalize upd T5 p6 (.tup [.str "shape", .str m, .ref p5]) = T6 at kk g6
    refine ⟨_, rfl, (by show 0 ≤ sizeLine; decide), fun p7 n7 => ?_⟩
    have k7 := Keep.new (o := .tup []) n7 (Keep.refl [] T6)
    have g7 : At K (upd T6 p7 (.tup [])) (.ref p7) (.tup []) := .tup (.of upd_same) .nil
    replace g6 := g6.keep k7
    have kk := kk.trans k7
    generalize upd T6 p7 (.tup []) = T7 at kk g6 g7
    refine ⟨(by show 3 ≤ sizeLine; decide), fun p8 n8 => ?_⟩
    have k8 := Keep.new (o := .tup [.str "shape", .str z, .ref p7]) n8 (Keep.refl [] T7)
    have g8 : At K (upd T7 p8 (.tup [.str "shape", .str z, .ref p7])) (.ref p8) (.tup [.str "shape", .str z, .tup []]) := .tup (.of upd_same) (.cons (.str _) (.cons (.str _) (.cons (g7.keep k8) .nil)))
    replace g6 := g6.keep k8
    replace g7 := g7.keep k8
    have kk := kk.trans k8
    generalize upd T7 p8 (.tup [.str "shape", .str z, .ref p7]) = T8 at kk g6 g8
    refine ⟨(by show 1 ≤ sizeLine; decide), fun p9 n9 => ?_⟩
    have k9 := Keep.new (o := .tup [.str "take"]) n9 (Keep.refl [] T8)
    have g9 : At K (upd T8 p9 (.tup [.str "take"])) (.ref p9) (.tup [.str "take"]) := .tup (.of upd_same) (.cons (.str _) .nil)
    replace g6 := g6.keep k9
    replace g8 := g8.keep k9
    have kk := kk.trans k9
    generalize upd T8 p9 (.tup [.str "take"]) = T9 at kk g6 g8 g9
    refine ⟨(by show 2 ≤ sizeLine; decide), fun p10 n10 => ?_⟩
    have k10 := Keep.new (o := .tup [.ref p8, .ref p9]) n10 (Keep.refl [] T9)
    have g10 : At K (upd T9 p10 (.tup [.ref p8, .ref p9])) (.ref p10) (.tup [.tup [.str "shape", .str z, .tup []], .tup [.str "take"]]) := .tup (.of upd_same) (.cons (g8.keep k10) (.cons (g9.keep k10) .nil))
    replace g6 := g6.keep k10
    replace g8 := g8.keep k10
    replace g9 := g9.keep k10
    have kk := kk.trans k10
    generalize upd T9 p10 (.tup [.ref p8, .ref p9]) = T10 at kk g6 g10
    refine ⟨(by show 2 ≤ sizeLine; decide), fun p11 n11 => ?_⟩
    have k11 := Keep.new (o := .tup [.str "at", .int 0]) n11 (Keep.refl [] T10)
    have g11 : At K (upd T10 p11 (.tup [.str "at", .int 0])) (.ref p11) (.tup [.str "at", .int 0]) := .tup (.of upd_same) (.cons (.str _) (.cons (.int _) .nil))
    replace g6 := g6.keep k11
    replace g10 := g10.keep k11
    have kk := kk.trans k11
    generalize upd T10 p11 (.tup [.str "at", .int 0]) = T11 at kk g6 g10 g11
    refine ⟨(by show 2 ≤ sizeLine; decide), fun p12 n12 => ?_⟩
    have k12 := Keep.new (o := .tup [.ref p10, .ref p11]) n12 (Keep.refl [] T11)
    have g12 : At K (upd T11 p12 (.tup [.ref p10, .ref p11])) (.ref p12) (.tup [.tup [.tup [.str "shape", .str z, .tup []], .tup [.str "take"]], .tup [.str "at", .int 0]]) := .tup (.of upd_same) (.cons (g10.keep k12) (.cons (g11.keep k12) .nil))
    replace g6 := g6.keep k12
    replace g10 := g10.keep k12
    replace g11 := g11.keep k12
    have kk := kk.trans k12
    generalize upd T11 p12 (.tup [.ref p10, .ref p11]) = T12 at kk g6 g12
    refine ⟨_, rfl, (by show 1 ≤ sizeLine; decide), fun p13 n13 => ?_⟩
    have k13 := Keep.new (o := .tup [.str "take"]) n13 (Keep.refl [] T12)
    have g13 : At K (upd T12 p13 (.tup [.str "take"])) (.ref p13) (.tup [.str "take"]) := .tup (.of upd_same) (.cons (.str _) .nil)
    replace g6 := g6.keep k13
    replace g12 := g12.keep k13
    have kk := kk.trans k13
    generalize upd T12 p13 (.tup [.str "take"]) = T13 at kk g6 g12 g13
    refine ⟨(by show 1 ≤ sizeLine; decide), fun p14 n14 => ?_⟩
    have k14 := Keep.new (o := .tup [.ref p13]) n14 (Keep.refl [] T13)
    have g14 : At K (upd T13 p14 (.tup [.ref p13])) (.ref p14) (.tup [.tup [.str "take"]]) := .tup (.of upd_same) (.cons (g13.keep k14) .nil)
    replace g6 := g6.keep k14
    replace g12 := g12.keep k14
    replace g13 := g13.keep k14
    have kk := kk.trans k14
    generalize upd T13 p14 (.tup [.ref p13]) = T14 at kk g6 g12 g14
    refine ⟨(by show 3 ≤ sizeLine; decide), fun p15 n15 => ?_⟩
    have k15 := Keep.new (o := .tup [.str "shape", .str m, .ref p14]) n15 (Keep.refl [] T14)
    have g15 : At K (upd T14 p15 (.tup [.str "shape", .str m, .ref p14])) (.ref p15) (.tup [.str "shape", .str m, .tup [.tup [.str "take"]]]) := .tup (.of upd_same) (.cons (.str _) (.cons (.str _) (.cons (g14.keep k15) .nil)))
    replace g6 := g6.keep k15
    replace g12 := g12.keep k15
    replace g14 := g14.keep k15
    have kk := kk.trans k15
    generalize upd T14 p15 (.tup [.str "shape", .str m, .ref p14]) = T15 at kk g6 g12 g15
    refine ⟨(by show 1 ≤ sizeLine; decide), fun p16 n16 => ?_⟩
    have k16 := Keep.new (o := .tup [.str "take"]) n16 (Keep.refl [] T15)
    have g16 : At K (upd T15 p16 (.tup [.str "take"])) (.ref p16) (.tup [.str "take"]) := .tup (.of upd_same) (.cons (.str _) .nil)
    replace g6 := g6.keep k16
    replace g12 := g12.keep k16
    replace g15 := g15.keep k16
    have kk := kk.trans k16
    generalize upd T15 p16 (.tup [.str "take"]) = T16 at kk g6 g12 g15 g16
    refine ⟨(by show 2 ≤ sizeLine; decide), fun p17 n17 => ?_⟩
    have k17 := Keep.new (o := .tup [.ref p15, .ref p16]) n17 (Keep.refl [] T16)
    have g17 : At K (upd T16 p17 (.tup [.ref p15, .ref p16])) (.ref p17) (.tup [.tup [.str "shape", .str m, .tup [.tup [.str "take"]]], .tup [.str "take"]]) := .tup (.of upd_same) (.cons (g15.keep k17) (.cons (g16.keep k17) .nil))
    replace g6 := g6.keep k17
    replace g12 := g12.keep k17
    replace g15 := g15.keep k17
    replace g16 := g16.keep k17
    have kk := kk.trans k17
    generalize upd T16 p17 (.tup [.ref p15, .ref p16]) = T17 at kk g6 g12 g17
    refine ⟨_, rfl, (by show 2 ≤ sizeLine; decide), fun p18 n18 => ?_⟩
    have k18 := Keep.new (o := .tup [.ref p17, .ref p6]) n18 (Keep.refl [] T17)
    have g18 : At K (upd T17 p18 (.tup [.ref p17, .ref p6])) (.ref p18) (.tup [.tup [.tup [.str "shape", .str m, .tup [.tup [.str "take"]]], .tup [.str "take"]], .tup [.str "shape", .str m, .tup [.tup [.str "call", .str n, .tup [.tup [.str "at", .int 1], .tup [.str "at", .int 0]]]]]]) := .tup (.of upd_same) (.cons (g17.keep k18) (.cons (g6.keep k18) .nil))
    replace g6 := g6.keep k18
    replace g12 := g12.keep k18
    replace g17 := g17.keep k18
    have kk := kk.trans k18
    generalize upd T17 p18 (.tup [.ref p17, .ref p6]) = T18 at kk g12 g18
    refine ⟨(by show 2 ≤ sizeLine; decide), fun p19 n19 => ?_⟩
    have k19 := Keep.new (o := .tup [.ref p12, .ref p18]) n19 (Keep.refl [] T18)
    have g19 : At K (upd T18 p19 (.tup [.ref p12, .ref p18])) (.ref p19) (.tup [.tup [.tup [.tup [.str "shape", .str z, .tup []], .tup [.str "take"]], .tup [.str "at", .int 0]], .tup [.tup [.tup [.str "shape", .str m, .tup [.tup [.str "take"]]], .tup [.str "take"]], .tup [.str "shape", .str m, .tup [.tup [.str "call", .str n, .tup [.tup [.str "at", .int 1], .tup [.str "at", .int 0]]]]]]]) := .tup (.of upd_same) (.cons (g12.keep k19) (.cons (g18.keep k19) .nil))
    replace g12 := g12.keep k19
    replace g18 := g18.keep k19
    have kk := kk.trans k19
    generalize upd T18 p19 (.tup [.ref p12, .ref p18]) = T19 at kk g19
    refine ⟨_, rfl, (by show 0 ≤ sizeLine; decide), fun p20 n20 => ?_⟩
    have k20 := Keep.new (o := .tup []) n20 (Keep.refl [] T19)
    have g20 : At K (upd T19 p20 (.tup [])) (.ref p20) (.tup []) := .tup (.of upd_same) .nil
    replace g19 := g19.keep k20
    have kk := kk.trans k20
    generalize upd T19 p20 (.tup []) = T20 at kk g19 g20
    refine ⟨(by show 3 ≤ sizeLine; decide), fun p21 n21 => ?_⟩
    have k21 := Keep.new (o := .tup [.str "shape", .str z, .ref p20]) n21 (Keep.refl [] T20)
    have g21 : At K (upd T20 p21 (.tup [.str "shape", .str z, .ref p20])) (.ref p21) (.tup [.str "shape", .str z, .tup []]) := .tup (.of upd_same) (.cons (.str _) (.cons (.str _) (.cons (g20.keep k21) .nil)))
    replace g19 := g19.keep k21
    replace g20 := g20.keep k21
    have kk := kk.trans k21
    generalize upd T20 p21 (.tup [.str "shape", .str z, .ref p20]) = T21 at kk g19 g21
    refine ⟨(3 : Int), rfl, by decide, by decide, for_it (walk_range (n := 3)) (fun i σ H' => ∃ (v : V) (o7 : Option V), σ = [some (.ref dk), some (.str n), some (.str z), some (.str m), some (.ref p6), some (.ref p19), some v, o7, none, none, none, none] ∧ Keep [] T21 H' ∧ At K H' v (encT (dch z m i)))
      ⟨_, none, rfl, Keep.refl _ _, g21⟩ (fun _ _ _ _ _ => trivial) (fun i x σ Ha Hb hi ⟨v, o7, e, kl, hv⟩ yy => ?_) (fun σ Ha ⟨v, o7, e, kl, hv⟩ => ?_)⟩
    · subst e
      obtain ⟨rfl, rfl⟩ := yy
      have kk := kl
      refine ⟨_, rfl, _, rfl, (by show 1 ≤ sizeLine; decide), fun p22 n22 => ?_⟩
      have k22 := Keep.new (o := .tup [v]) n22 (Keep.refl [] Hb)
      have g22 : At K (upd Hb p22 (.tup [v])) (.ref p22) (.tup [encT (dch z m i)]) := .tup (.of upd_same) (.cons (hv.keep k22) .nil)
      replace hv := hv.keep k22
      have kk := kk.trans k22
      generalize upd Hb p22 (.tup [v]) = T22 at kk g22
      refine ⟨(by show 3 ≤ sizeLine; decide), fun p23 n23 => ?_⟩
      have k23 := Keep.new (o := .tup [.str "shape", .str m, .ref p22]) n23 (Keep.refl [] T22)
      have g23 : At K (upd T22 p23 (.tup [.str "shape", .str m, .ref p22])) (.ref p23) (.tup [.str "shape", .str m, .tup [encT (dch z m i)]]) := .tup (.of upd_same) (.cons (.str _) (.cons (.str _) (.cons (g22.keep k23) .nil)))
      replace g22 := g22.keep k23
      have kk := kk.trans k23
      generalize upd T22 p23 (.tup [.str "shape", .str m, .ref p22]) = T23 at kk g23
      exact ⟨_, _, rfl, kk, g23⟩
    subst e
    have hr := g19.keep kl
    have kk := kk.trans kl
    refine ⟨(8 : Int), rfl, by decide, by decide, for_it (walk_range (n := 8)) (fun i σ H' => ∃ (v : V) (o7 : Option V), σ = [some (.ref dk), some (.str n), some (.str z), some (.str m), some (.ref p6), some (.ref p19), some v, o7, none, none, none, none] ∧ Keep [] Ha H' ∧ At K H' v (encT (dgive n z m i)))
      ⟨_, _, rfl, Keep.refl _ _, hv⟩ (fun _ _ _ _ _ => trivial) (fun i x σ Hc Hb hi ⟨v, o7, e, kl, hv⟩ yy => ?_) (fun σ Ht ⟨v, o7, e, kl, hv⟩ => ?_)⟩
    · subst e
      obtain ⟨rfl, rfl⟩ := yy
      have kk := kl
      refine ⟨_, rfl, (by show 2 ≤ sizeLine; decide), fun p24 n24 => ?_⟩
      have k24 := Keep.new (o := .tup [.str "at", .int 0]) n24 (Keep.refl [] Hb)
      have g24 : At K (upd Hb p24 (.tup [.str "at", .int 0])) (.ref p24) (.tup [.str "at", .int 0]) := .tup (.of upd_same) (.cons (.str _) (.cons (.int _) .nil))
      replace hv := hv.keep k24
      have kk := kk.trans k24
      generalize upd Hb p24 (.tup [.str "at", .int 0]) = T24 at kk hv g24
      refine ⟨(by show 2 ≤ sizeLine; decide), fun p25 n25 => ?_⟩
      have k25 := Keep.new (o := .tup [.str "at", .int 0]) n25 (Keep.refl [] T24)
      have g25 : At K (upd T24 p25 (.tup [.str "at", .int 0])) (.ref p25) (.tup [.str "at", .int 0]) := .tup (.of upd_same) (.cons (.str _) (.cons (.int _) .nil))
      replace hv := hv.keep k25
      replace g24 := g24.keep k25
      have kk := kk.trans k25
      generalize upd T24 p25 (.tup [.str "at", .int 0]) = T25 at kk hv g24 g25
      refine ⟨(by show 2 ≤ sizeLine; decide), fun p26 n26 => ?_⟩
      have k26 := Keep.new (o := .tup [.ref p24, .ref p25]) n26 (Keep.refl [] T25)
      have g26 : At K (upd T25 p26 (.tup [.ref p24, .ref p25])) (.ref p26) (.tup [.tup [.str "at", .int 0], .tup [.str "at", .int 0]]) := .tup (.of upd_same) (.cons (g24.keep k26) (.cons (g25.keep k26) .nil))
      replace hv := hv.keep k26
      replace g24 := g24.keep k26
      replace g25 := g25.keep k26
      have kk := kk.trans k26
      generalize upd T25 p26 (.tup [.ref p24, .ref p25]) = T26 at kk hv g26
      refine ⟨(by show 3 ≤ sizeLine; decide), fun p27 n27 => ?_⟩
      have k27 := Keep.new (o := .tup [.str "call", .str n, .ref p26]) n27 (Keep.refl [] T26)
      have g27 : At K (upd T26 p27 (.tup [.str "call", .str n, .ref p26])) (.ref p27) (.tup [.str "call", .str n, .tup [.tup [.str "at", .int 0], .tup [.str "at", .int 0]]]) := .tup (.of upd_same) (.cons (.str _) (.cons (.str _) (.cons (g26.keep k27) .nil)))
      replace hv := hv.keep k27
      replace g26 := g26.keep k27
      have kk := kk.trans k27
      generalize upd T26 p27 (.tup [.str "call", .str n, .ref p26]) = T27 at kk hv g27
      refine ⟨(by show 2 ≤ sizeLine; decide), fun p28 n28 => ?_⟩
      have k28 := Keep.new (o := .tup [.str "fun", .ref p27]) n28 (Keep.refl [] T27)
      have g28 : At K (upd T27 p28 (.tup [.str "fun", .ref p27])) (.ref p28) (.tup [.str "fun", .tup [.str "call", .str n, .tup [.tup [.str "at", .int 0], .tup [.str "at", .int 0]]]]) := .tup (.of upd_same) (.cons (.str _) (.cons (g27.keep k28) .nil))
      replace hv := hv.keep k28
      replace g27 := g27.keep k28
      have kk := kk.trans k28
      generalize upd T27 p28 (.tup [.str "fun", .ref p27]) = T28 at kk hv g28
      refine ⟨_, rfl, (by show 3 ≤ sizeLine; decide), fun p29 n29 => ?_⟩
      have k29 := Keep.new (o := .tup [.str "give", .ref p28, v]) n29 (Keep.refl [] T28)
      have g29 : At K (upd T28 p29 (.tup [.str "give", .ref p28, v])) (.ref p29) (.tup [.str "give", .tup [.str "fun", .tup [.str "call", .str n, .tup [.tup [.str "at", .int 0], .tup [.str "at", .int 0]]]], encT (dgive n z m i)]) := .tup (.of upd_same) (.cons (.str _) (.cons (g28.keep k29) (.cons (hv.keep k29) .nil)))
      replace hv := hv.keep k29
      replace g28 := g28.keep k29
      have kk := kk.trans k29
      generalize upd T28 p29 (.tup [.str "give", .ref p28, v]) = T29 at kk g29
      exact ⟨_, _, rfl, kk, g29⟩
    subst e
    have hr := hr.keep kl
    have kk := kk.trans kl
    refine ⟨_, rfl, _, rfl, (by show 3 ≤ sizeLine; decide), fun p30 n30 => ?_⟩
    have k30 := Keep.new (o := .tup [.str n, .int 2, .ref p19]) n30 (Keep.refl [] Ht)
    have g30 : At K (upd Ht p30 (.tup [.str n, .int 2, .ref p19])) (.ref p30) (.tup [.str n, .int 2, (D.tup ((drows n z m).map encR))]) := .tup (.of upd_same) (.cons (.str _) (.cons (.int _) (.cons (hr.keep k30) .nil)))
    replace hr := hr.keep k30
    replace hv := hv.keep k30
    have kk := kk.trans k30
    generalize upd Ht p30 (.tup [.str n, .int 2, .ref p19]) = T30 at kk hv g30
    refine ⟨(by show 1 ≤ sizeLine; decide), fun p31 n31 => ?_⟩
    have k31 := Keep.new (o := .tup [.ref p30]) n31 (Keep.refl [] T30)
    have g31 : At K (upd T30 p31 (.tup [.ref p30])) (.ref p31) (.tup [.tup [.str n, .int 2, (D.tup ((drows n z m).map encR))]]) := .tup (.of upd_same) (.cons (g30.keep k31) .nil)
    replace hv := hv.keep k31
    replace g30 := g30.keep k31
    have kk := kk.trans k31
    generalize upd T30 p31 (.tup [.ref p30]) = T31 at kk hv g31
    obtain ⟨bs, hbs⟩ := MadeOf.ex (dg n z m) (dgive n z m 8) dg_ok dt_ok (by rw [dt_nodes]; decide)
    obtain ⟨nd, few, c, N, hc, hte, hN⟩ := deep_facts hn hzm hbs
    refine ⟨_, rfl, .ref p31, v, dg n z m, dgive n z m 8, bs, rfl, g31, hv, dg_ok, dt_ok, by rw [dt_nodes]; decide, dg_w, hbs, fun b H5 k5 hb => ?_⟩
    refine ⟨_, rfl, .ref b, bs, c, N, _, rfl, hb, nd, few, hc, hte, hN, fun t1 x1 H7 k7 ht1 hx1 => ?_⟩
    refine ⟨t1, _, rfl, ht1, rfl, _, _, rfl, _, _, rfl, rfl, ?_⟩
    refine ⟨_, rfl, _, rfl, rfl, rfl, b, bs, c, N, N, _, rfl, hb.keep k7, nd, few, hc, hte, fun _ H8 x2 k8 hx2 => ?_, fun z => absurd z (Nat.lt_irrefl _)⟩
    refine ⟨_, rfl, _, rfl, x1, z, m, 768, rfl, hx1.keep k8, fun H9 k9 => ?_⟩
    have k09 := kn.trans ((kk.trans (k5.trans (k7.trans (k8.trans k9)))).mono (S' := [dk, cs]) (by simp))
    have d9 := d1.keep0 (kk.trans (k5.trans (k7.trans (k8.trans k9))))
    refine ⟨rfl, true, congrArg V.bl (decide_eq_true rfl), ift rfl ?_⟩
    refine ⟨_, rfl, _, rfl, x2, z, m, 768, rfl, hx2.keep k9, fun H10 k10 => ⟨rfl, ?_⟩⟩
    rw [show decide (V.int ((768 : Nat) : Int) = V.int 768) = true from decide_eq_true rfl]
    exact q _ (k09.trans (k10.mono (by simp))) (d9.keep0 k10)
end
end K46
/-! K46L13 -/
set_option maxHeartbeats 4000000
namespace K46
open PySem PySem.Spec PyProof.Rows L2 C8
/-! ### the law -/
def F0 : Tab := ⟨⟨fun x => if x = Str.ofString "a" then 1 else 0, fun _ => 0⟩, fun _ => []⟩
def t0 : Tm := .nd (.shape "a") [.nd .give [.clo true (.at 0), .nd .go [.clo false (.nd (.shape "b") [])]]]
theorem rp0 : RP F0 [] t0 := by
  have ha : ShN (Str.ofString "a") := by unfold ShN; decide +kernel
  have hb : ShN (Str.ofString "b") := by unfold ShN; decide +kernel
  have hab : Str.ofString "b" ≠ Str.ofString "a" := by decide +kernel
  have h3 : ∀ n, F0.S.sh n ≤ 3 := fun n => by show (if n = Str.ofString "a" then 1 else 0) ≤ 3; split <;> decide
  have sb : 0 = F0.S.sh (Str.ofString "b") := Eq.symm (show F0.S.sh (Str.ofString "b") = 0 from if_neg (t := 1) hab)
  have sa : 1 = F0.S.sh (Str.ofString "a") := Eq.symm (show F0.S.sh (Str.ofString "a") = 1 from by simp [F0])
  have h1 : HasK F0 ([] ++ [Kd.data]) (.at 0) .data := ⟨by simp, rfl⟩
  have h2 : HasK F0 [] (.clo true (.at 0)) .fn := ⟨rfl, by simp [evh], by simp, h1⟩
  have h4 : HasK F0 [] (.nd (.shape "b") []) .data := ⟨rfl, ⟨sb, hb⟩, trivial⟩
  have h5 : HasK F0 [] (.clo false (.nd (.shape "b") [])) .wait := ⟨rfl, by simp [evh, evhL], by simp, h4⟩
  have h6 : HasK F0 [] (.nd .go [.clo false (.nd (.shape "b") [])]) .data := ⟨rfl, h5, trivial⟩
  have h7 : HasK F0 [] (.nd .give [.clo true (.at 0), .nd .go [.clo false (.nd (.shape "b") [])]]) .data := ⟨rfl, h2, h6, trivial⟩
  have hk : HasK F0 [] t0 .data := ⟨rfl, ⟨sa, ha⟩, h7, trivial⟩
  refine ⟨⟨⟨fun n => Nat.le_trans (h3 n) (by decide), fun n => Nat.zero_le _, fun n z => absurd rfl z⟩, fun d hd => (by cases hd), fun d hd => (by cases hd), by simp [progW], fun d hd => (by cases hd)⟩,
    ⟨HasK.ok _ _ _ hk, by simp [t0, nodes, nodesL], by simp [TmFit, t0, nodes, nodesL, cdeep, cdeepL], HasK.toS _ _ _ hk, hk, by simp [t0, evh, evhL]⟩, h3, by simp [progW], by simp [t0, nodes, nodesL], by simp [t0, cdeep, cdeepL], by simp, by simp, fun d hd => (by cases hd), fun d hd => (by cases hd), by simp [progT, t0, nodes, nodesL, cdeep, cdeepL]⟩
section
variable {P : Program} {w : World} {K : PySem.W.Frag} {mg : Str → Option Value} {base : Heap}
def sp_law (K : PySem.W.Frag) : Sp := fun vs H Q _ => ∃ (a : Addr) (ns : List Int), vs = [.ref a] ∧ SqL K H a (ns.map V.int) ∧ ns.length ≤ 63 ∧ ∀ H', Q (.bl true) H'
theorem ok_law {fd : FuncData} (T : Tx K mg) (Xe : Ex K) (Xd : Ex2 K) (Fl : Fd K "law" "law" s_law [] (He.fAd K ("law", none)) fd) : FnG P w K mg base C8.CX0 4 105 (He.fAd K ("law", none)) fd ["_law_script"] (sp_law K) := by
  have c_deck := ok_deck (P := P) (w := w) (base := base) T
  have c_deep_right := ok_deep_right (P := P) (w := w) (base := base) T Xe
  have c_program := ok_program (P := P) (w := w) (base := base) T
  have c_closed := fun F => ok_closed (P := P) (w := w) (base := base) T F
  have c_right := ok_right (P := P) (w := w) (base := base) T Xe Xd (u := 7) (by decide)
  refine FnG_of Fl sc_law (fun vs H Q E h => ?_) (fun cdv A outer s0 H vs Q E hc hr h => ?_)
  · obtain ⟨a, ns, rfl, _⟩ := h
    rfl
  · obtain ⟨a, ns, rfl, hs, hl, q⟩ := h
    suffices hh : ∃ t, PSs (cxOf C8.CX0 P w K mg base ["_law_script", "_law_deck_here", "_law_kit", "_law_program_here", "_law_turn"] "law" (defScope s_law) (He.fAd K ("law", none)) cdv A outer s0 H E).nox (defBody s_law) t ∧ t { nx := fun _ H' => Q .non H', rt := Q } (start ["_law_script", "_law_deck_here", "_law_kit", "_law_program_here", "_law_turn"] [.ref a]) H by
      obtain ⟨t, ht, hq⟩ := hh
      exact ⟨t, ht.nox, hq⟩
    refine ⟨_, (pss_cons (ps_set (i := 1) sc_law.nd rfl (Or.inl rfl) (pe_c c_deck hr (by omega) rfl (pa_cons (pv 0) pa_nil)))
      (pss_cons (ps_if (pt_not (pt_val (pe_c c_deep_right hr (by omega) rfl (pa_cons (pv 1) pa_nil)))) (pss_one (ps_ret pe_bl)) pss_nil)
      (pss_cons (ps_asg (pe_c c_program hr (by omega) rfl (pa_cons (pv 1) pa_nil)) (pg_tup rfl (pgs_cons (pg_name (i := 2) sc_law.nd rfl (Or.inl rfl)) (pgs_cons (pg_name (i := 3) sc_law.nd rfl (Or.inl rfl)) pgs_nil))))
      (pss_cons (ps_for PassesOwn.never rfl (pi_range1 rfl T.z_range (pa_cons pe_int pa_nil)) (pg_name (i := 4) sc_law.nd rfl (Or.inl rfl)) (pss_one (ps_if (pt_not (pt_val (pe_cG c_right hc hr (by omega) rfl (pa_cons (pv 3) (pa_cons (pe_cX c_closed hr (by omega) rfl (pa_cons (pv 1) (pa_cons (pv 2) pa_nil))) pa_nil))))) (pss_one (ps_ret pe_bl)) pss_nil)))
      (pss_one (ps_ret (pe_cG c_right hc hr (by omega) rfl (pa_cons (pe_tup pa_nil) (pa_cons (pe_tup (pa_cons pe_str (pa_cons pe_str (pa_cons (pe_tup (pa_cons (pe_tup (pa_cons pe_str (pa_cons (pe_tup (pa_cons pe_str (pa_cons (pe_tup (pa_cons pe_str (pa_cons pe_int pa_nil))) pa_nil))) (pa_cons (pe_tup (pa_cons pe_str (pa_cons (pe_tup (pa_cons pe_str (pa_cons (pe_tup (pa_cons pe_str (pa_cons pe_str (pa_cons (pe_tup pa_nil) pa_nil)))) pa_nil))) pa_nil))) pa_nil)))) pa_nil)) pa_nil)))) pa_nil))))))))), ?_⟩
    refine ⟨_, rfl, a, ns, rfl, hs, hl, fun dk cs H1 k1 ndk ncs d1 => ?_⟩
    refine ⟨_, rfl, dk, cs, rfl, d1, fun H2 k2 d2 => ?_⟩
    refine ⟨_, rfl, iff' rfl ?_⟩
    refine ⟨_, rfl, dk, cs, rfl, d2, fun g F gg r v H3 e1 e2 e3 k3 G hr3 hv pf hgl hnd hnm => ?_⟩
    subst e1
    subst e2
    refine ⟨r, _, rfl, .of hr3, rfl, _, _, rfl, _, _, rfl, rfl, ?_⟩
    refine ⟨(4 : Int), rfl, by decide, by decide, for_it (walk_range (n := 4)) (fun i σ H' => ∃ (o4 : Option V) (ll : Addr), σ = [some (.ref a), some (.ref g.dk), some (.ref g.kd), some v, o4] ∧ Keep [g.dk, g.cs, g.kd] H3 H' ∧ GenOk K F H' { g with ll := ll })
      ⟨none, g.ll, rfl, Keep.refl _ _, G⟩ (fun _ _ _ _ _ => trivial) (fun i x σ H4 H5 hi ⟨o4, ll, e, k, G⟩ yy => ?_) (fun σ H4 ⟨o4, ll, e, k, G⟩ => ?_)⟩
    · subst e
      obtain ⟨rfl, rfl⟩ := yy
      refine ⟨_, rfl, _, rfl, _, rfl, F, { g with ll := ll }, rfl, G, e3, fun t tv H6 ll' tg k6 G6 ht => ?_⟩
      refine ⟨v, tv, F, gg, t, rfl, (hv.keep k).keep k6, ht, pf.rp hgl hnd hnm tg, fun H7 k7 => ?_⟩
      refine ⟨_, rfl, iff' rfl ?_⟩
      exact ⟨_, ll', rfl, (k.trans k6).trans (k7.mono (by simp)), G6.keep0 k7⟩
    · subst e
      have kk := Keep.refl [] H4
      refine ⟨(by show 0 ≤ sizeLine; decide), fun p1 n1 => ?_⟩
      have k1 := Keep.new (o := .tup []) n1 (Keep.refl [] H4)
      have g1 : At K (upd H4 p1 (.tup [])) (.ref p1) (.tup []) := .tup (.of upd_same) .nil
      have kk := kk.trans k1
      generalize upd H4 p1 (.tup []) = T1 at kk g1
      refine ⟨(by show 2 ≤ sizeLine; decide), fun p2 n2 => ?_⟩
      have k2 := Keep.new (o := .tup [.str "at", .int 0]) n2 (Keep.refl [] T1)
      have g2 : At K (upd T1 p2 (.tup [.str "at", .int 0])) (.ref p2) (.tup [.str "at", .int 0]) := .tup (.of upd_same) (.cons (.str _) (.cons (.int _) .nil))
      replace g1 := g1.keep k2
      have kk := kk.trans k2
      generalize upd T1 p2 (.tup [.str "at", .int 0]) = T2 at kk g1 g2
      refine ⟨(by show 2 ≤ sizeLine; decide), fun p3 n3 => ?_⟩
      have k3 := Keep.new (o := .tup [.str "fun", .ref p2]) n3 (Keep.refl [] T2)
      have g3 : At K (upd T2 p3 (.tup [.str "fun", .ref p2])) (.ref p3) (.tup [.str "fun", .tup [.str "at", .int 0]]) := .tup (.of upd_same) (.cons (.str _) (.cons (g2.keep k3) .nil))
      replace g1 := g1.keep k3
      replace g2 := g2.keep k3
      have kk := kk.trans k3
      generalize upd T2 p3 (.tup [.str "fun", .ref p2]) = T3 at kk g1 g3
      refine ⟨(by show 0 ≤ sizeLine; decide), fun p4 n4 => ?_⟩
      have k4 := Keep.new (o := .tup []) n4 (Keep.refl [] T3)
      have g4 : At K (upd T3 p4 (.tup [])) (.ref p4) (.tup []) := .tup (.of upd_same) .nil
      replace g1 := g1.keep k4
      replace g3 := g3.keep k4
      have kk := kk.trans k4
      generalize upd T3 p4 (.tup []) = T4 at kk g1 g3 g4
      refine ⟨(by show 3 ≤ sizeLine; decide), fun p5 n5 => ?_⟩
      have k5 := Keep.new (o := .tup [.str "shape", .str "b", .ref p4]) n5 (Keep.refl [] T4)
      have g5 : At K (upd T4 p5 (.tup [.str "shape", .str "b", .ref p4])) (.ref p5) (.tup [.str "shape", .str "b", .tup []]) := .tup (.of upd_same) (.cons (.str _) (.cons (.str _) (.cons (g4.keep k5) .nil)))
      replace g1 := g1.keep k5
      replace g3 := g3.keep k5
      replace g4 := g4.keep k5
      have kk := kk.trans k5
      generalize upd T4 p5 (.tup [.str "shape", .str "b", .ref p4]) = T5 at kk g1 g3 g5
      refine ⟨(by show 2 ≤ sizeLine; decide), fun p6 n6 => ?_⟩
      have k6 := Keep.new (o := .tup [.str "wait", .ref p5]) n6 (Keep.refl [] T5)
      have g6 : At K (upd T5 p6 (.tup [.str "wait", .ref p5])) (.ref p6) (.tup [.str "wait", .tup [.str "shape", .str "b", .tup []]]) := .tup (.of upd_same) (.cons (.str _) (.cons (g5.keep k6) .nil))
      replace g1 := g1.keep k6
      replace g3 := g3.keep k6
      replace g5 := g5.keep k6
      have kk := kk.trans k6
      generalize upd T5 p6 (.tup [.str "wait", .ref p5]) = T6 at kk g1 g3 g6
      refine ⟨(by show 2 ≤ sizeLine; decide), fun p7 n7 => ?_⟩
      have k7 := Keep.new (o := .tup [.str "go", .ref p6]) n7 (Keep.refl [] T6)
      have g7 : At K (upd T6 p7 (.tup [.str "go", .ref p6])) (.ref p7) (.tup [.str "go", .tup [.str "wait", .tup [.str "shape", .str "b", .tup []]]]) := .tup (.of upd_same) (.cons (.str _) (.cons (g6.keep k7) .nil))
      replace g1 := g1.keep k7
      replace g3 := g3.keep k7
      replace g6 := g6.keep k7
      have kk := kk.trans k7
      generalize upd T6 p7 (.tup [.str "go", .ref p6]) = T7 at kk g1 g3 g7
      refine ⟨(by show 3 ≤ sizeLine; decide), fun p8 n8 => ?_⟩
      have k8 := Keep.new (o := .tup [.str "give", .ref p3, .ref p7]) n8 (Keep.refl [] T7)
      have g8 : At K (upd T7 p8 (.tup [.str "give", .ref p3, .ref p7])) (.ref p8) (.tup [.str "give", .tup [.str "fun", .tup [.str "at", .int 0]], .tup [.str "go", .tup [.str "wait", .tup [.str "shape", .str "b", .tup []]]]]) := .tup (.of upd_same) (.cons (.str _) (.cons (g3.keep k8) (.cons (g7.keep k8) .nil)))
      replace g1 := g1.keep k8
      replace g3 := g3.keep k8
      replace g7 := g7.keep k8
      have kk := kk.trans k8
      generalize upd T7 p8 (.tup [.str "give", .ref p3, .ref p7]) = T8 at kk g1 g8
      refine ⟨(by show 1 ≤ sizeLine; decide), fun p9 n9 => ?_⟩
      have k9 := Keep.new (o := .tup [.ref p8]) n9 (Keep.refl [] T8)
      have g9 : At K (upd T8 p9 (.tup [.ref p8])) (.ref p9) (.tup [.tup [.str "give", .tup [.str "fun", .tup [.str "at", .int 0]], .tup [.str "go", .tup [.str "wait", .tup [.str "shape", .str "b", .tup []]]]]]) := .tup (.of upd_same) (.cons (g8.keep k9) .nil)
      replace g1 := g1.keep k9
      replace g8 := g8.keep k9
      have kk := kk.trans k9
      generalize upd T8 p9 (.tup [.ref p8]) = T9 at kk g1 g9
      refine ⟨(by show 3 ≤ sizeLine; decide), fun p10 n10 => ?_⟩
      have k10 := Keep.new (o := .tup [.str "shape", .str "a", .ref p9]) n10 (Keep.refl [] T9)
      have g10 : At K (upd T9 p10 (.tup [.str "shape", .str "a", .ref p9])) (.ref p10) (.tup [.str "shape", .str "a", .tup [.tup [.str "give", .tup [.str "fun", .tup [.str "at", .int 0]], .tup [.str "go", .tup [.str "wait", .tup [.str "shape", .str "b", .tup []]]]]]]) := .tup (.of upd_same) (.cons (.str _) (.cons (.str _) (.cons (g9.keep k10) .nil)))
      replace g1 := g1.keep k10
      replace g9 := g9.keep k10
      have kk := kk.trans k10
      generalize upd T9 p10 (.tup [.str "shape", .str "a", .ref p9]) = T10 at kk g1 g10
      exact ⟨.ref p1, .ref p10, F0, [], t0, rfl, g1, g10, rp0, fun H' _ => q _⟩
end
end K46
/-! K46Z -/
set_option maxHeartbeats 0
namespace K46
open PySem PySem.Spec PyProof.Rows L2
theorem given {P : Program} {w : World} {K : PySem.W.Frag} {h : Heap} {mg : Str → Option Value} {f : Addr} (X : K.In h) (G : h.Ns mainGlobals mg) (hfa : mg ("law" : Str) = some (.ref f)) (c : He.SaysD fa fn K) (e : ex K = true) :
    ∃ fd : FuncData, (∀ (s : Shared) (v : Value), BindsTo s fd ⟨[v], []⟩ [("_law_script", v)]) ∧ ∀ base : Heap, K.In base → base.Ns mainGlobals mg → FnG P w K mg base C8.CX0 4 105 f fd ["_law_script"] (sp_law K) := by
  have T := tx_of X G c e
  obtain ⟨Xe, Xd⟩ := exB_ok (He.ba (He.ba e).2).2
  obtain ⟨fd, F⟩ := c.def_ 53 (d := d_law) rfl
  have hf := hfa.symm.trans T.g_law
  cases hf
  have b := FunD.bindsA (ps := ["_law_script"]) F fun _ _ _ _ _ _ us hl => match us, hl with | [_], _ => rfl
  exact ⟨fd, fun s v => b s [v] rfl, fun base _ _ => ok_law T Xe Xd F⟩
end K46
open PySem PySem.W PySem.Calls PyProof.Rows
theorem PySem.Challenge.cw_kindsbyworth_k46_the_machine_row_by_row_holds : PySem.Challenge.rw_kindsbyworth_k46_the_machine_row_by_row.Holds := by
  w_on; o_law
  refine HandSHeadRun.head_any (r := K46.R) (q := view K46.R.prog [59]) (H := K46.hk) (ob := K46.ob) (M := 4000) (loose := K46.loose) (d := HandSHeadRun.topDef K46.R.prog 59) (kwd := []) K46.ob_eq
    (by kernel_rfl) (fun s => by kernel_rfl) K46.run (by kernel_rfl) (by kernel_rfl) (by kernel_rfl) (by rfl) (by first | assumption | decide +kernel) (by decide +kernel) ⟨rfl, rfl, rfl, rfl, rfl, by decide +kernel⟩ ?hw ?hc
  case hw => w_witness2
  case hc =>
    refine K46.walk_calm (l := PySem.Challenge.rw_kindsbyworth_k46_the_machine_row_by_row) (n := 63) (k := 105) (x := "_law_script") (CX := C8.CX0) rfl (by decide) (by kernel_rfl) ⟨rfl, by decide, by decide⟩ ?F (fun _ _ _ _ z => z)
    intro w mg fa h Y G hmg0
    obtain ⟨K, KX, c, e⟩ := Y
    have hmg : mg ("law" : PySem.Str) = some (.ref fa) := by
      have e : (HandSHeadRun.topDef K46.R.prog 59).name = ("law" : PySem.Str) := by kernel_rfl
      rw [← e]
      exact hmg0
    obtain ⟨fd, hb, hF⟩ := K46.given (P := (PySem.Challenge.rw_kindsbyworth_k46_the_machine_row_by_row).prog) (w := w) KX G hmg c e
    exact ⟨K, fd, K46.sp_law K, KX, hb, fun H a ns hl _ hS => ⟨a, ns, rfl, hS, hl, fun _ => rfl⟩, hF⟩

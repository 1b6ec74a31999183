import PyProof.Rows.All
import Wide.All
import OpenK.AllK
import Wide.FinOn
import KE.KStateDown
import HandS.ForMost
import HandS.ForExc
import HandS.Defaults
import HandS.IsInst
import HandS.Style
import HandS.Flow
import HandS.Deep
import HandS.Conv
import HandS.ExcIs
import HandS.ExcValue
import HandS.SortInts
import HandS.Sort
import KE.IntTextLaws
import KE.GoesRaise
import KE.KDictKeyed
import KE.KDictCopyH
import HandS.SetFor
import HandS.Evl
import HandS.Head0
import HandS.Head1
import HandS.Head2
import HandS.HeadEnd
import HandS.HeadHook1
import HandS.HeadHook2
import PySem.Challenge.RW_hiddensorters_k20_whole_record_texts
set_option Elab.async false
set_option linter.all false
set_option maxRecDepth 100000
set_option maxHeartbeats 0
namespace K20
open PySem PySem.Spec PyProof.Rows L2
def top (i : Nat) : Stmt := PySem.Challenge.pw_hiddensorters_k20_whole_record_texts.main.body.getD i (.Pass ⟨0, 0, 0, 0⟩)
abbrev s_is_int : Stmt := top 9
abbrev N_is_int : List Str := ["value", "low", "high"]
abbrev P_is_int : List Str := ["value", "low", "high"]
theorem sc_is_int : FnScope N_is_int P_is_int (defScope s_is_int) := ⟨rfl, rfl, rfl, by decide +kernel, rfl, by decide +kernel, by decide +kernel⟩
abbrev s_is_row : Stmt := top 12
abbrev N_is_row : List Str := ["value", "one"]
abbrev P_is_row : List Str := ["value"]
theorem sc_is_row : FnScope N_is_row P_is_row (defScope s_is_row) := ⟨rfl, rfl, rfl, by decide +kernel, rfl, by decide +kernel, by decide +kernel⟩
abbrev s_check_row : Stmt := top 13
abbrev N_check_row : List Str := ["value"]
abbrev P_check_row : List Str := ["value"]
theorem sc_check_row : FnScope N_check_row P_check_row (defScope s_check_row) := ⟨rfl, rfl, rfl, by decide +kernel, rfl, by decide +kernel, by decide +kernel⟩
abbrev s_Steps_init : Stmt := inClass (top 15) 0
abbrev N_Steps_init : List Str := ["self", "size", "other", "one"]
abbrev P_Steps_init : List Str := ["self", "size"]
theorem sc_Steps_init : FnScope N_Steps_init P_Steps_init (defScope s_Steps_init) := ⟨rfl, rfl, rfl, by decide +kernel, rfl, by decide +kernel, by decide +kernel⟩
abbrev s_Steps_tells : Stmt := inClass (top 15) 1
abbrev N_Steps_tells : List Str := ["self", "one", "other"]
abbrev P_Steps_tells : List Str := ["self", "one", "other"]
theorem sc_Steps_tells : FnScope N_Steps_tells P_Steps_tells (defScope s_Steps_tells) := ⟨rfl, rfl, rfl, by decide +kernel, rfl, by decide +kernel, by decide +kernel⟩
abbrev s_Steps_add : Stmt := inClass (top 15) 2
abbrev N_Steps_add : List Str := ["self", "one", "other", "answer", "low", "high", "strict", "ahead", "thing", "behind", "first", "last", "own"]
abbrev P_Steps_add : List Str := ["self", "one", "other", "answer"]
theorem sc_Steps_add : FnScope N_Steps_add P_Steps_add (defScope s_Steps_add) := ⟨rfl, rfl, rfl, by decide +kernel, rfl, by decide +kernel, by decide +kernel⟩
abbrev s_steps_of : Stmt := top 16
abbrev N_steps_of : List Str := ["size", "answers", "found", "one", "other", "answer"]
abbrev P_steps_of : List Str := ["size", "answers"]
theorem sc_steps_of : FnScope N_steps_of P_steps_of (defScope s_steps_of) := ⟨rfl, rfl, rfl, by decide +kernel, rfl, by decide +kernel, by decide +kernel⟩
abbrev s_is_answer : Stmt := top 18
abbrev N_is_answer : List Str := ["value", "size"]
abbrev P_is_answer : List Str := ["value", "size"]
theorem sc_is_answer : FnScope N_is_answer P_is_answer (defScope s_is_answer) := ⟨rfl, rfl, rfl, by decide +kernel, rfl, by decide +kernel, by decide +kernel⟩
abbrev s_is_record : Stmt := top 19
abbrev N_is_record : List Str := ["value", "one"]
abbrev P_is_record : List Str := ["value"]
theorem sc_is_record : FnScope N_is_record P_is_record (defScope s_is_record) := ⟨rfl, rfl, rfl, by decide +kernel, rfl, by decide +kernel, by decide +kernel⟩
abbrev s_check_record : Stmt := top 20
abbrev N_check_record : List Str := ["value"]
abbrev P_check_record : List Str := ["value"]
theorem sc_check_record : FnScope N_check_record P_check_record (defScope s_check_record) := ⟨rfl, rfl, rfl, by decide +kernel, rfl, by decide +kernel, by decide +kernel⟩
abbrev s_format_row : Stmt := top 23
abbrev N_format_row : List Str := ["row", "one"]
abbrev P_format_row : List Str := ["row"]
theorem sc_format_row : FnScope N_format_row P_format_row (defScope s_format_row) := ⟨rfl, rfl, rfl, by decide +kernel, rfl, by decide +kernel, by decide +kernel⟩
abbrev s_record_text : Stmt := top 24
abbrev N_record_text : List Str := ["record", "words", "one", "other", "answer"]
abbrev P_record_text : List Str := ["record"]
theorem sc_record_text : FnScope N_record_text P_record_text (defScope s_record_text) := ⟨rfl, rfl, rfl, by decide +kernel, rfl, by decide +kernel, by decide +kernel⟩
abbrev s_format_record : Stmt := top 25
abbrev N_format_record : List Str := ["record"]
abbrev P_format_record : List Str := ["record"]
theorem sc_format_record : FnScope N_format_record P_format_record (defScope s_format_record) := ⟨rfl, rfl, rfl, by decide +kernel, rfl, by decide +kernel, by decide +kernel⟩
abbrev s_check_text : Stmt := top 26
abbrev N_check_text : List Str := ["text"]
abbrev P_check_text : List Str := ["text"]
theorem sc_check_text : FnScope N_check_text P_check_text (defScope s_check_text) := ⟨rfl, rfl, rfl, by decide +kernel, rfl, by decide +kernel, by decide +kernel⟩
abbrev s_number_in : Stmt := top 27
abbrev N_number_in : List Str := ["word", "figures", "sign"]
abbrev P_number_in : List Str := ["word"]
theorem sc_number_in : FnScope N_number_in P_number_in (defScope s_number_in) := ⟨rfl, rfl, rfl, by decide +kernel, rfl, by decide +kernel, by decide +kernel⟩
abbrev s_parse_row : Stmt := top 28
abbrev N_parse_row : List Str := ["text", "found", "word"]
abbrev P_parse_row : List Str := ["text"]
theorem sc_parse_row : FnScope N_parse_row P_parse_row (defScope s_parse_row) := ⟨rfl, rfl, rfl, by decide +kernel, rfl, by decide +kernel, by decide +kernel⟩
abbrev s_answer_in : Stmt := top 29
abbrev N_answer_in : List Str := ["word", "parts"]
abbrev P_answer_in : List Str := ["word"]
theorem sc_answer_in : FnScope N_answer_in P_answer_in (defScope s_answer_in) := ⟨rfl, rfl, rfl, by decide +kernel, rfl, by decide +kernel, by decide +kernel⟩
abbrev s_parse_record : Stmt := top 30
abbrev N_parse_record : List Str := ["text", "words", "ended", "asked", "word", "found"]
abbrev P_parse_record : List Str := ["text"]
theorem sc_parse_record : FnScope N_parse_record P_parse_record (defScope s_parse_record) := ⟨rfl, rfl, rfl, by decide +kernel, rfl, by decide +kernel, by decide +kernel⟩
abbrev s_w_start : Stmt := top 32
abbrev N_w_start : List Str := ["_law_script"]
abbrev P_w_start : List Str := ["_law_script"]
theorem sc_w_start : FnScope N_w_start P_w_start (defScope s_w_start) := ⟨rfl, rfl, rfl, by decide +kernel, rfl, by decide +kernel, by decide +kernel⟩
abbrev s_w_draw : Stmt := top 33
abbrev N_w_draw : List Str := ["_law_draws", "_law_limit", "_law_numbers", "_law_at", "_law_cell", "_law_mixed"]
abbrev P_w_draw : List Str := ["_law_draws", "_law_limit"]
theorem sc_w_draw : FnScope N_w_draw P_w_draw (defScope s_w_draw) := ⟨rfl, rfl, rfl, by decide +kernel, rfl, by decide +kernel, by decide +kernel⟩
abbrev s_w_pick : Stmt := top 34
abbrev N_w_pick : List Str := ["_law_draws", "_law_choices"]
abbrev P_w_pick : List Str := ["_law_draws", "_law_choices"]
theorem sc_w_pick : FnScope N_w_pick P_w_pick (defScope s_w_pick) := ⟨rfl, rfl, rfl, by decide +kernel, rfl, by decide +kernel, by decide +kernel⟩
abbrev s_w_error : Stmt := top 35
abbrev N_w_error : List Str := ["_law_caught", "_law_kinds"]
abbrev P_w_error : List Str := ["_law_caught"]
theorem sc_w_error : FnScope N_w_error P_w_error (defScope s_w_error) := ⟨rfl, rfl, rfl, by decide +kernel, rfl, by decide +kernel, by decide +kernel⟩
abbrev s_w_gaps : Stmt := top 36
abbrev N_w_gaps : List Str := ["_law_draws", "_law_found", "_law_top", "_law_k"]
abbrev P_w_gaps : List Str := ["_law_draws"]
theorem sc_w_gaps : FnScope N_w_gaps P_w_gaps (defScope s_w_gaps) := ⟨rfl, rfl, rfl, by decide +kernel, rfl, by decide +kernel, by decide +kernel⟩
abbrev s_w_simple : Stmt := top 37
abbrev N_w_simple : List Str := ["_law_draws", "_law_kind", "_law_words_here"]
abbrev P_w_simple : List Str := ["_law_draws"]
theorem sc_w_simple : FnScope N_w_simple P_w_simple (defScope s_w_simple) := ⟨rfl, rfl, rfl, by decide +kernel, rfl, by decide +kernel, by decide +kernel⟩
abbrev s_w_way : Stmt := top 38
abbrev N_w_way : List Str := ["_law_draws"]
abbrev P_w_way : List Str := ["_law_draws"]
theorem sc_w_way : FnScope N_w_way P_w_way (defScope s_w_way) := ⟨rfl, rfl, rfl, by decide +kernel, rfl, by decide +kernel, by decide +kernel⟩
abbrev s_w_row : Stmt := top 39
abbrev N_w_row : List Str := ["_law_draws", "_law_most", "_law_size", "_law_wide", "_law_row_here", "_law_k", "_law_shape"]
abbrev P_w_row : List Str := ["_law_draws", "_law_most"]
theorem sc_w_row : FnScope N_w_row P_w_row (defScope s_w_row) := ⟨rfl, rfl, rfl, by decide +kernel, rfl, by decide +kernel, by decide +kernel⟩
abbrev s_w_tells : Stmt := top 40
abbrev N_w_tells : List Str := ["_law_log", "_law_one", "_law_other", "_law_ends", "_law_begin", "_law_goal", "_law_reached", "_law_at", "_law_thing", "_law_strict", "_law_x", "_law_y", "_law_answer", "_law_after"]
abbrev P_w_tells : List Str := ["_law_log", "_law_one", "_law_other"]
theorem sc_w_tells : FnScope N_w_tells P_w_tells (defScope s_w_tells) := ⟨rfl, rfl, rfl, by decide +kernel, rfl, by decide +kernel, by decide +kernel⟩
abbrev s_w_less : Stmt := top 41
abbrev N_w_less : List Str := ["_law_state", "_law_one", "_law_other", "_law_told", "_law_answer"]
abbrev P_w_less : List Str := ["_law_state", "_law_one", "_law_other"]
theorem sc_w_less : FnScope N_w_less P_w_less (defScope s_w_less) := ⟨rfl, rfl, rfl, by decide +kernel, rfl, by decide +kernel, by decide +kernel⟩
abbrev s_w_into : Stmt := top 42
abbrev N_w_into : List Str := ["_law_state", "_law_found", "_law_thing", "_law_word", "_law_low", "_law_high", "_law_at"]
abbrev P_w_into : List Str := ["_law_state", "_law_found", "_law_thing", "_law_word"]
theorem sc_w_into : FnScope N_w_into P_w_into (defScope s_w_into) := ⟨rfl, rfl, rfl, by decide +kernel, rfl, by decide +kernel, by decide +kernel⟩
abbrev s_w_inserted : Stmt := top 43
abbrev N_w_inserted : List Str := ["_law_state", "_law_things", "_law_word", "_law_found", "_law_thing"]
abbrev P_w_inserted : List Str := ["_law_state", "_law_things", "_law_word"]
theorem sc_w_inserted : FnScope N_w_inserted P_w_inserted (defScope s_w_inserted) := ⟨rfl, rfl, rfl, by decide +kernel, rfl, by decide +kernel, by decide +kernel⟩
abbrev s_w_select : Stmt := top 44
abbrev N_w_select : List Str := ["_law_state", "_law_things", "_law_word", "_law_found", "_law_left", "_law_turn", "_law_best", "_law_k"]
abbrev P_w_select : List Str := ["_law_state", "_law_things", "_law_word"]
theorem sc_w_select : FnScope N_w_select P_w_select (defScope s_w_select) := ⟨rfl, rfl, rfl, by decide +kernel, rfl, by decide +kernel, by decide +kernel⟩
abbrev s_w_pass : Stmt := top 45
abbrev N_w_pass : List Str := ["_law_state", "_law_found", "_law_spots", "_law_hits", "_law_k", "_law_low"]
abbrev P_w_pass : List Str := ["_law_state", "_law_found", "_law_spots"]
theorem sc_w_pass : FnScope N_w_pass P_w_pass (defScope s_w_pass) := ⟨rfl, rfl, rfl, by decide +kernel, rfl, by decide +kernel, by decide +kernel⟩
abbrev s_w_bubble : Stmt := top 46
abbrev N_w_bubble : List Str := ["_law_state", "_law_things", "_law_word", "_law_found", "_law_low", "_law_high", "_law_up", "_law_spots", "_law_hits"]
abbrev P_w_bubble : List Str := ["_law_state", "_law_things", "_law_word"]
theorem sc_w_bubble : FnScope N_w_bubble P_w_bubble (defScope s_w_bubble) := ⟨rfl, rfl, rfl, by decide +kernel, rfl, by decide +kernel, by decide +kernel⟩
abbrev s_w_gapped : Stmt := top 47
abbrev N_w_gapped : List Str := ["_law_state", "_law_things", "_law_gaps_here", "_law_found", "_law_gap", "_law_begin", "_law_at", "_law_thing"]
abbrev P_w_gapped : List Str := ["_law_state", "_law_things", "_law_gaps_here"]
theorem sc_w_gapped : FnScope N_w_gapped P_w_gapped (defScope s_w_gapped) := ⟨rfl, rfl, rfl, by decide +kernel, rfl, by decide +kernel, by decide +kernel⟩
abbrev s_w_merged : Stmt := top 48
abbrev N_w_merged : List Str := ["_law_state", "_law_first", "_law_second", "_law_found", "_law_one", "_law_other"]
abbrev P_w_merged : List Str := ["_law_state", "_law_first", "_law_second"]
theorem sc_w_merged : FnScope N_w_merged P_w_merged (defScope s_w_merged) := ⟨rfl, rfl, rfl, by decide +kernel, rfl, by decide +kernel, by decide +kernel⟩
abbrev s_w_merge : Stmt := top 49
abbrev N_w_merge : List Str := ["_law_state", "_law_things", "_law_word", "_law_half", "_law_first", "_law_lists", "_law_k", "_law_fresh"]
abbrev P_w_merge : List Str := ["_law_state", "_law_things", "_law_word"]
theorem sc_w_merge : FnScope N_w_merge P_w_merge (defScope s_w_merge) := ⟨rfl, rfl, rfl, by decide +kernel, rfl, by decide +kernel, by decide +kernel⟩
abbrev s_w_pivot : Stmt := top 50
abbrev N_w_pivot : List Str := ["_law_state", "_law_things", "_law_word"]
abbrev P_w_pivot : List Str := ["_law_state", "_law_things", "_law_word"]
theorem sc_w_pivot : FnScope N_w_pivot P_w_pivot (defScope s_w_pivot) := ⟨rfl, rfl, rfl, by decide +kernel, rfl, by decide +kernel, by decide +kernel⟩
abbrev s_w_part : Stmt := top 51
abbrev N_w_part : List Str := ["_law_state", "_law_things", "_law_word", "_law_small", "_law_pivot_here", "_law_sides", "_law_thing", "_law_first"]
abbrev P_w_part : List Str := ["_law_state", "_law_things", "_law_word", "_law_small"]
theorem sc_w_part : FnScope N_w_part P_w_part (defScope s_w_part) := ⟨rfl, rfl, rfl, by decide +kernel, rfl, by decide +kernel, by decide +kernel⟩
abbrev s_w_swapped : Stmt := top 52
abbrev N_w_swapped : List Str := ["_law_state", "_law_things", "_law_word", "_law_found", "_law_at", "_law_pivot_here", "_law_low", "_law_k", "_law_thing", "_law_first"]
abbrev P_w_swapped : List Str := ["_law_state", "_law_things", "_law_word"]
theorem sc_w_swapped : FnScope N_w_swapped P_w_swapped (defScope s_w_swapped) := ⟨rfl, rfl, rfl, by decide +kernel, rfl, by decide +kernel, by decide +kernel⟩
abbrev s_w_sunk : Stmt := top 53
abbrev N_w_sunk : List Str := ["_law_state", "_law_found", "_law_root", "_law_many", "_law_child", "_law_thing"]
abbrev P_w_sunk : List Str := ["_law_state", "_law_found", "_law_root", "_law_many"]
theorem sc_w_sunk : FnScope N_w_sunk P_w_sunk (defScope s_w_sunk) := ⟨rfl, rfl, rfl, by decide +kernel, rfl, by decide +kernel, by decide +kernel⟩
abbrev s_w_heap : Stmt := top 54
abbrev N_w_heap : List Str := ["_law_state", "_law_things", "_law_found", "_law_top", "_law_k"]
abbrev P_w_heap : List Str := ["_law_state", "_law_things"]
theorem sc_w_heap : FnScope N_w_heap P_w_heap (defScope s_w_heap) := ⟨rfl, rfl, rfl, by decide +kernel, rfl, by decide +kernel, by decide +kernel⟩
abbrev s_w_tree : Stmt := top 55
abbrev N_w_tree : List Str := ["_law_state", "_law_things", "_law_found", "_law_kids", "_law_thing", "_law_here", "_law_side", "_law_after", "_law_at"]
abbrev P_w_tree : List Str := ["_law_state", "_law_things"]
theorem sc_w_tree : FnScope N_w_tree P_w_tree (defScope s_w_tree) := ⟨rfl, rfl, rfl, by decide +kernel, rfl, by decide +kernel, by decide +kernel⟩
abbrev s_w_ranks : Stmt := top 56
abbrev N_w_ranks : List Str := ["_law_state", "_law_things", "_law_ahead", "_law_one", "_law_other", "_law_late", "_law_place", "_law_thing"]
abbrev P_w_ranks : List Str := ["_law_state", "_law_things"]
theorem sc_w_ranks : FnScope N_w_ranks P_w_ranks (defScope s_w_ranks) := ⟨rfl, rfl, rfl, by decide +kernel, rfl, by decide +kernel, by decide +kernel⟩
abbrev s_w_sort : Stmt := top 57
abbrev N_w_sort : List Str := ["_law_way_here", "_law_row_here", "_law_state", "_law_things", "_law_own", "_law_order"]
abbrev P_w_sort : List Str := ["_law_way_here", "_law_row_here"]
theorem sc_w_sort : FnScope N_w_sort P_w_sort (defScope s_w_sort) := ⟨rfl, rfl, rfl, by decide +kernel, rfl, by decide +kernel, by decide +kernel⟩
abbrev s_w_words : Stmt := top 58
abbrev N_w_words : List Str := ["_law_record", "_law_size", "_law_log", "_law_ended", "_law_parts", "_law_x", "_law_y", "_law_answer"]
abbrev P_w_words : List Str := ["_law_record"]
theorem sc_w_words : FnScope N_w_words P_w_words (defScope s_w_words) := ⟨rfl, rfl, rfl, by decide +kernel, rfl, by decide +kernel, by decide +kernel⟩
abbrev s_w_signs : Stmt := top 59
abbrev N_w_signs : List Str := ["_law_row_here", "_law_one"]
abbrev P_w_signs : List Str := ["_law_row_here"]
theorem sc_w_signs : FnScope N_w_signs P_w_signs (defScope s_w_signs) := ⟨rfl, rfl, rfl, by decide +kernel, rfl, by decide +kernel, by decide +kernel⟩
abbrev s_w_parsed : Stmt := top 60
abbrev N_w_parsed : List Str := ["_law_kind", "_law_text", "_law_found", "_law_caught", "e"]
abbrev P_w_parsed : List Str := ["_law_kind", "_law_text"]
theorem sc_w_parsed : FnScope N_w_parsed P_w_parsed (defScope s_w_parsed) := ⟨rfl, rfl, rfl, by decide +kernel, rfl, by decide +kernel, by decide +kernel⟩
abbrev s_w_rejected : Stmt := top 61
abbrev N_w_rejected : List Str := ["_law_odd", "_law_bad", "_law_lone"]
abbrev P_w_rejected : List Str := []
theorem sc_w_rejected : FnScope N_w_rejected P_w_rejected (defScope s_w_rejected) := ⟨rfl, rfl, rfl, by decide +kernel, rfl, by decide +kernel, by decide +kernel⟩
abbrev s_law : Stmt := top 62
abbrev N_law : List Str := ["_law_script", "_law_draws", "_law_row_here", "_law_log", "_law_record", "_law_texts", "_law_k", "_law_turn", "_law_kind", "_law_text", "_law_at", "_law_mark", "_law_other", "_law_found"]
abbrev P_law : List Str := ["_law_script"]
theorem sc_law : FnScope N_law P_law (defScope s_law) := ⟨rfl, rfl, rfl, by decide +kernel, rfl, by decide +kernel, by decide +kernel⟩
/-- a def of the module, as it stands behind the top -/
def DefAt (K : PySem.W.Frag) (mg : Str → Option Value) (x : Str) (st : Stmt) : Prop := ∃ f fd, mg x = some (.ref f) ∧ FunD K x x (defArgs st) (defBody st) (defScope st) [] [] f fd
/-- a method of the class at C -/
def MethAt (K : PySem.W.Frag) (C : Addr) (x q : Str) (st : Stmt) : Prop := ∃ f fd, Meth K C x f ∧ FunD K x q (defArgs st) (defBody st) (defScope st) [] [] f fd
/-- an own exception class without own __init__ -/
structure ExcAt (K : PySem.W.Frag) (mg : Str → Option Value) (x : Str) (C : Addr) : Prop where
  g : mg x = some (.ref C)
  x : PySem.W.excIn K C [.type "ValueError", .type "Exception", .type "BaseException", .type "object"] "ValueError.__new__" = true
  k : PySem.W.keepIn K (.ref C) = true
  b : PySem.W.subIn K (.ref C) (.type "BaseException") = some true
  t : PySem.W.typeIn K (.ref C) = some (.type "type")
/-- what the top has left -/
structure Txt (K : PySem.W.Frag) (mg : Str → Option Value) (CS CE CT : Addr) : Prop where
  d_is_int : DefAt K mg "is_int" s_is_int
  d_is_row : DefAt K mg "is_row" s_is_row
  d_check_row : DefAt K mg "check_row" s_check_row
  d_Steps_tells : MethAt K CS "tells" "Steps.tells" s_Steps_tells
  d_Steps_add : MethAt K CS "add" "Steps.add" s_Steps_add
  d_steps_of : DefAt K mg "steps_of" s_steps_of
  d_is_answer : DefAt K mg "is_answer" s_is_answer
  d_is_record : DefAt K mg "is_record" s_is_record
  d_check_record : DefAt K mg "check_record" s_check_record
  d_format_row : DefAt K mg "format_row" s_format_row
  d_record_text : DefAt K mg "record_text" s_record_text
  d_format_record : DefAt K mg "format_record" s_format_record
  d_check_text : DefAt K mg "check_text" s_check_text
  d_number_in : DefAt K mg "number_in" s_number_in
  d_parse_row : DefAt K mg "parse_row" s_parse_row
  d_answer_in : DefAt K mg "answer_in" s_answer_in
  d_parse_record : DefAt K mg "parse_record" s_parse_record
  d_w_start : DefAt K mg "_law_start" s_w_start
  d_w_draw : DefAt K mg "_law_draw" s_w_draw
  d_w_pick : DefAt K mg "_law_pick" s_w_pick
  d_w_error : DefAt K mg "_law_error" s_w_error
  d_w_gaps : DefAt K mg "_law_gaps" s_w_gaps
  d_w_simple : DefAt K mg "_law_simple" s_w_simple
  d_w_way : DefAt K mg "_law_way" s_w_way
  d_w_row : DefAt K mg "_law_row" s_w_row
  d_w_tells : DefAt K mg "_law_tells" s_w_tells
  d_w_less : DefAt K mg "_law_less" s_w_less
  d_w_into : DefAt K mg "_law_into" s_w_into
  d_w_inserted : DefAt K mg "_law_inserted" s_w_inserted
  d_w_select : DefAt K mg "_law_select" s_w_select
  d_w_pass : DefAt K mg "_law_pass" s_w_pass
  d_w_bubble : DefAt K mg "_law_bubble" s_w_bubble
  d_w_gapped : DefAt K mg "_law_gapped" s_w_gapped
  d_w_merged : DefAt K mg "_law_merged" s_w_merged
  d_w_merge : DefAt K mg "_law_merge" s_w_merge
  d_w_pivot : DefAt K mg "_law_pivot" s_w_pivot
  d_w_part : DefAt K mg "_law_part" s_w_part
  d_w_swapped : DefAt K mg "_law_swapped" s_w_swapped
  d_w_sunk : DefAt K mg "_law_sunk" s_w_sunk
  d_w_heap : DefAt K mg "_law_heap" s_w_heap
  d_w_tree : DefAt K mg "_law_tree" s_w_tree
  d_w_ranks : DefAt K mg "_law_ranks" s_w_ranks
  d_w_sort : DefAt K mg "_law_sort" s_w_sort
  d_w_words : DefAt K mg "_law_words" s_w_words
  d_w_signs : DefAt K mg "_law_signs" s_w_signs
  d_w_parsed : DefAt K mg "_law_parsed" s_w_parsed
  d_w_rejected : DefAt K mg "_law_rejected" s_w_rejected
  d_law : DefAt K mg "law" s_law
  d_Steps_init : ∃ f fd, Mk K CS f ∧ FunD K "__init__" "Steps.__init__" (defArgs s_Steps_init) (defBody s_Steps_init) (defScope s_Steps_init) [] [] f fd
  f_isinstance : mg "isinstance" = none
  f_len : mg "len" = none
  f_all : mg "all" = none
  f_str : mg "str" = none
  f_int : mg "int" = none
  f_bool : mg "bool" = none
  f_list : mg "list" = none
  f_tuple : mg "tuple" = none
  f_max : mg "max" = none
  f_range : mg "range" = none
  f_sorted : mg "sorted" = none
  f_ValueError : mg "ValueError" = none
  g_MOST : ∃ t, mg "MOST_THINGS" = some (.int 30 t)
  g_DIGITS : ∃ t, mg "DIGITS" = some (.str "0123456789" t)
  c_Steps : mg "Steps" = some (.ref CS)
  cl : Cls K CS
  n_size : NoAttr K CS "size"
  n_rows : NoAttr K CS "rows"
  e_sort : mg "SortError" = some (.ref CE)
  e_text : ExcAt K mg "BadText" CT
  e_row : ∃ C, ExcAt K mg "BadRow" C
  e_rec : ∃ C, ExcAt K mg "BadRecord" C
  exc : ExcC K CT
  exm : PySem.W.exmOne K (.ref CT) (.ref CE) = some true
  k_text : PySem.W.kitOne K (.ref CT) (.ref CT) = some true
  k_sort : PySem.W.kitOne K (.ref CT) (.ref CE) = some true
  k_ve : PySem.W.kitOne K (.ref CT) (.type "ValueError") = some true
  k_BadWay : ∃ C, mg "BadWay" = some (.ref C) ∧ PySem.W.kitOne K (.ref CT) (.ref C) = some false
  k_BadRow : ∃ C, mg "BadRow" = some (.ref C) ∧ PySem.W.kitOne K (.ref CT) (.ref C) = some false
  k_BadRecord : ∃ C, mg "BadRecord" = some (.ref C) ∧ PySem.W.kitOne K (.ref CT) (.ref C) = some false
  k_BadAnswer : ∃ C, mg "BadAnswer" = some (.ref C) ∧ PySem.W.kitOne K (.ref CT) (.ref C) = some false
  k_BadNumber : ∃ C, mg "BadNumber" = some (.ref C) ∧ PySem.W.kitOne K (.ref CT) (.ref C) = some false
  k_NotFound : ∃ C, mg "NotFound" = some (.ref C) ∧ PySem.W.kitOne K (.ref CT) (.ref C) = some false
/-- a def of the module that keeps a promise -/
def Ok (P : Program) (w : World) (K : PySem.W.Frag) (mg : Str → Option Value) (base : Heap) (CX : CXT) (k : Nat) (x : Str) (ps : List Str) (sp : Sp) : Prop :=
  ∃ f fd, FnOk P w K mg base CX k f fd ps sp ∧ mg x = some (.ref f) ∧ PySem.W.keepIn K (.ref f) = true ∧ Binds K fd ps []
theorem Ok.mono {P : Program} {w : World} {K : PySem.W.Frag} {mg : Str → Option Value} {base : Heap} {CX : CXT} {j k : Nat} {x : Str} {ps : List Str} {sp : Sp} (h : Ok P w K mg base CX j x ps sp) (l : j ≤ k) : Ok P w K mg base CX k x ps sp :=
  let ⟨f, fd, a, b, c, d⟩ := h
  ⟨f, fd, a.mono l, b, c, d⟩
section
variable {P : Program} {w : World} {K : PySem.W.Frag} {mg : Str → Option Value} {base : Heap}
theorem DefAt.ok {CX : CXT} {x : Str} {st : Stmt} {N ps : List Str} {k : Nat} {sp : Sp} (F : DefAt K mg x st) (S : FnScope N ps (defScope st))
    (hb : ∀ (kV doc pm : Value) (an : Option Addr) (cdv ct : Value) (us : List Value), us.length = ps.length → bindArgs (PySem.W.fnOf x x (defArgs st) (defBody st) (defScope st) .none kV doc pm an cdv ct) ⟨us, []⟩ = pure (ps.zip us))
    (len : ∀ vs H Q E, sp vs H Q E → vs.length = ps.length)
    (hbody : ∀ (f : Addr) (cdv : Value) (A : Around) (outer : List Env) (s : Shared) (H : Hp) (vs : List V) (Q : VK) (E : XK), Room k (A.deeper (envOfC x (defScope st) s.heap.objs.size f cdv)) → sp vs H Q E →
      ∃ t, PSs (cxOf CX P w K mg base N x (defScope st) f cdv A outer s H E) (defBody st) t ∧ t { nx := fun _ H' => Q .non H', rt := Q } (start N vs) H) : Ok P w K mg base CX (k + 1) x ps sp := by
  obtain ⟨f, fd, g, F⟩ := F
  exact ⟨f, fd, F.ok S len (hbody f), g, F.kp, F.bindsN hb⟩
/-- no exception leaves it -/
theorem DefAt.ok0 {x : Str} {st : Stmt} {N ps : List Str} {k : Nat} {sp : Sp} (F : DefAt K mg x st) (S : FnScope N ps (defScope st))
    (hb : ∀ (kV doc pm : Value) (an : Option Addr) (cdv ct : Value) (us : List Value), us.length = ps.length → bindArgs (PySem.W.fnOf x x (defArgs st) (defBody st) (defScope st) .none kV doc pm an cdv ct) ⟨us, []⟩ = pure (ps.zip us))
    (len : ∀ vs H Q E, sp vs H Q E → vs.length = ps.length)
    (hbody : ∀ (f : Addr) (cdv : Value) (A : Around) (outer : List Env) (s : Shared) (H : Hp) (vs : List V) (Q : VK) (E : XK), Room k (A.deeper (envOfC x (defScope st) s.heap.objs.size f cdv)) → sp vs H Q E →
      ∃ t, PSs (cxOf CX0 P w K mg base N x (defScope st) f cdv A outer s H E).nox (defBody st) t ∧ t { nx := fun _ H' => Q .non H', rt := Q } (start N vs) H) : Ok P w K mg base CX0 (k + 1) x ps sp :=
  F.ok S hb len fun f cdv A outer s H vs Q E hr h => let ⟨t, a, b⟩ := hbody f cdv A outer s H vs Q E hr h; ⟨t, a.nox, b⟩
end
/-- f(e, ..) -/
def tCallO (sp : Sp) (E : XK) (t : TA) : TE := fun σ H Q => t σ H fun vs H1 => sp vs H1 Q E
section
variable {X : Cx} {CX : CXT} {k : Nat} {ps : List Str} {sp : Sp} {E : XK} {x : Str} {p pos : Pos} {e : Expr} {es : List Expr} {t : TA}
theorem pe_callO (O : Ok X.prog X.w X.K X.mg X.base CX k x ps sp) (hr : Room k X.A) (hx : Passes CX X E) (ha : PA X (e :: es) t) (hg : Gl X x := by rfl)
    (hdb : (x == ("__debug__" : Str)) = false := by decide) (he : starEach (e :: es) X.env = (false, eval e X.env) :: starEach es X.env := by rfl) (hpl : (backTo pos (starEach es X.env)).any (·.1) = false := by rfl) :
    PE X (.Call (.Name x p) (e :: es) [] pos) (tCallO sp E t) := by
  obtain ⟨f, fd, F, hm, hk, hb⟩ := O
  refine ⟨fun pins s σ H Q I h => ?_⟩
  have h' : tCall sp [] E t σ H Q := by
    show t σ H fun vs H1 => sp (vs ++ []) H1 Q E
    have e0 : (fun (vs : List V) (H1 : Hp) => sp (vs ++ []) H1 Q E) = fun vs H1 => sp vs H1 Q E := by
      funext vs H1
      rw [List.append_nil]
    rw [e0]
    exact h
  exact (pe_call F hr hg hm hk hb .nil hx ha hdb he hpl).run pins s σ H Q I h'
theorem pe_callO0 (O : Ok X.prog X.w X.K X.mg X.base CX k x ps sp) (hr : Room k X.A) (hx : Passes CX X E) (hg : Gl X x := by rfl)
    (hdb : (x == ("__debug__" : Str)) = false := by decide) :
    PE X (.Call (.Name x p) [] [] pos) (tCallO sp E tNil) := by
  obtain ⟨f, fd, F, hm, hk, hb⟩ := O
  exact pe_call0 F hr hg hm hk hb .nil hx hdb
/-- the same within a try: what it raises is wished for at the slots as they stand -/
theorem pe_callSO {E : L2.St → XK} (O : Ok X.prog X.w X.K X.mg X.base CX k x ps sp) (hr : Room k X.A) (hx : ∀ σ, PassesAt CX X σ (E σ)) (ha : PA X (e :: es) t) (hg : Gl X x := by rfl)
    (hdb : (x == ("__debug__" : Str)) = false := by decide) (he : starEach (e :: es) X.env = (false, eval e X.env) :: starEach es X.env := by rfl) (hpl : (backTo pos (starEach es X.env)).any (·.1) = false := by rfl) :
    PE X (.Call (.Name x p) (e :: es) [] pos) (tCallS sp E t) := by
  obtain ⟨f, fd, F, hm, hk, hb⟩ := O
  exact pe_callS F hr hg hm hk hb hx ha hdb he hpl
end
/-- the objects that stood still stand, but those at the addresses of l -/
def But (l : List Addr) (H H' : Hp) : Prop := ∀ b o, H b = some o → b ∉ l → H' b = some o
end K20
/-! K20M: the mathematics of the texts and of the records' steps, over lists of signs and of ints. No Python here. -/
namespace K20
open PySem
open L2 (cutS)
/-! ### small things -/
abbrev tl (x : Str) : List Nat := x.cps.toList
abbrev mkS (l : List Nat) : Str := ⟨l.toArray⟩
theorem mkS_tl (x : Str) : mkS (tl x) = x := TL.mk_tl x
/-- the signs of an int -/
def showI (i : Int) : List Nat := if i < 0 then 45 :: TL.numL i.natAbs else TL.numL i.natAbs
theorem tl_int (i : Int) : tl (Str.ofString (toString i)) = showI i := by
  cases i with
  | ofNat n =>
    have h := TL.tl_num n
    show tl (Str.ofString (toString ((n : Nat) : Int))) = _
    unfold showI
    rw [if_neg (by exact Int.not_lt.mpr (Int.natCast_nonneg n))]
    exact h
  | negSucc n =>
    unfold showI
    rw [if_pos (Int.negSucc_lt_zero n)]
    have e : (toString (Int.negSucc n) : String) = "-" ++ toString (((n + 1 : Nat)) : Int) := rfl
    rw [e]
    have h : tl (Str.ofString (toString (((n + 1 : Nat)) : Int))) = TL.numL (n + 1) := TL.tl_num (n + 1)
    have g : ∀ s : String, tl (Str.ofString s) = s.toList.map Char.toNat := TL.tl_ofString
    rw [g] at h ⊢
    rw [String.toList_append, List.map_append, h]
    rfl
theorem showI_nat {i : Int} (h : 0 ≤ i) : showI i = TL.numL i.natAbs := by
  unfold showI
  rw [if_neg (by omega)]
theorem showI_ne (i : Int) : showI i ≠ [] := by
  unfold showI
  split
  · exact List.cons_ne_nil _ _
  · exact TL.numL_ne _
theorem showI_free {i : Int} {s : Nat} (h : s < 45 ∨ 57 < s) : s ∉ showI i := by
  unfold showI
  split
  · intro hm
    rcases List.mem_cons.mp hm with e | hm
    · omega
    · exact TL.numL_free (by omega) hm
  · exact TL.numL_free (by omega)
/-! ### a word's number -/
def isDig (c : Nat) : Bool := decide (c ∈ [48, 49, 50, 51, 52, 53, 54, 55, 56, 57])
def figs (w : List Nat) : List Nat := if w.take 1 = [45] then w.drop 1 else w
def valW (w : List Nat) : Int := if w.take 1 = [45] then -((NumText.digitsVal (w.drop 1) : Nat) : Int) else ((NumText.digitsVal w : Nat) : Int)
def numW (w : List Nat) : Option Int :=
  if (decide (1 ≤ (figs w).length ∧ (figs w).length ≤ 2) && (figs w).all isDig) = true then (if showI (valW w) = w then some (valW w) else none) else none
theorem isDig_iff {c : Nat} (h : isDig c = true) : 48 ≤ c ∧ c ≤ 57 := by
  have h2 : c ∈ [48, 49, 50, 51, 52, 53, 54, 55, 56, 57] := of_decide_eq_true h
  simp only [List.mem_cons, List.mem_nil_iff, or_false] at h2
  omega
theorem take1 {w : List Nat} (h : w.take 1 = [45]) : w = 45 :: w.drop 1 := by
  cases w with
  | nil => cases h
  | cons a r =>
    have e : a = 45 := by
      have h' : [a] = [45] := h
      injection h'
    rw [e]
    rfl
theorem int_word {w : List Nat} (h1 : 1 ≤ (figs w).length) (h2 : (figs w).length ≤ 2) (h : (figs w).all isDig = true) : intText? (mkS w) = some (valW w) ∧ w.length ≤ 3 := by
  have hd : ∀ c ∈ figs w, 48 ≤ c ∧ c ≤ 57 := fun c hc => isDig_iff (List.all_eq_true.mp h c hc)
  have hne : figs w ≠ [] := fun e => by
    rw [e] at h1
    exact absurd h1 (by decide)
  unfold figs at h1 h2 hd hne
  unfold valW
  by_cases c : w.take 1 = [45]
  · rw [if_pos c] at h1 h2 hd hne ⊢
    have ew := take1 c
    have hl : w.length ≤ 3 := by
      rw [ew, List.length_cons]
      omega
    refine ⟨?_, hl⟩
    refine intText_neg (x := mkS w) (cs := w.drop 1) (by exact ew) hd hne ?_
    show w.toArray.size ≤ 4300
    rw [List.size_toArray]
    omega
  · rw [if_neg c] at h1 h2 hd hne ⊢
    refine ⟨?_, by omega⟩
    refine intText_digits (x := mkS w) hd hne ?_
    show w.toArray.size ≤ 4300
    rw [List.size_toArray]
    omega
theorem valW_bound {w : List Nat} (h : (figs w).length ≤ 2) (hd : (figs w).all isDig = true) : -99 ≤ valW w ∧ valW w ≤ 99 := by
  have key : ∀ l : List Nat, l.length ≤ 2 → l.all isDig = true → NumText.digitsVal l ≤ 99 := by
    intro l hl hd
    match l, hl with
    | [], _ => decide
    | [a], _ =>
      have ha := isDig_iff (List.all_eq_true.mp hd a (by simp))
      show 0 * 10 + (a - 48) ≤ 99
      omega
    | [a, b], _ =>
      have ha := isDig_iff (List.all_eq_true.mp hd a (by simp))
      have hb := isDig_iff (List.all_eq_true.mp hd b (by simp))
      show (0 * 10 + (a - 48)) * 10 + (b - 48) ≤ 99
      omega
  have z := key (figs w) h hd
  unfold figs at z
  unfold valW
  split at z
  · rename_i c
    rw [if_pos c]
    omega
  · rename_i c
    rw [if_neg c]
    omega
theorem numW_show {w : List Nat} {n : Int} (h : numW w = some n) : showI n = w ∧ (-99 ≤ n ∧ n ≤ 99) ∧ w.length ≤ 3 := by
  unfold numW at h
  split at h
  · rename_i c
    rw [Bool.and_eq_true] at c
    obtain ⟨c1, c2⟩ := c
    obtain ⟨c3, c4⟩ := of_decide_eq_true c1
    split at h
    · rename_i e
      cases h
      exact ⟨e, valW_bound c4 c2, (int_word c3 c4 c2).2⟩
    · cases h
  · cases h
theorem numW_of {n : Int} (h1 : -99 ≤ n) (h2 : n ≤ 99) : numW (showI n) = some n := by
  have key : ∀ k : Fin 199, numW (showI ((k.val : Int) - 99)) = some ((k.val : Int) - 99) := by decide +kernel
  have z := key ⟨(n + 99).toNat, by omega⟩
  have e : (((n + 99).toNat : Nat) : Int) - 99 = n := by omega
  rw [show ((⟨(n + 99).toNat, by omega⟩ : Fin 199).val : Int) - 99 = n from e] at z
  exact z
/-! ### rows -/
def rowOkL (ns : List Int) : Bool := decide (ns.length ≤ 30) && ns.all fun n => decide (-99 ≤ n ∧ n ≤ 99)
def splitL (s : Nat) (l : List Nat) : List (List Nat) := TL.spl [s] 0 [] l
def rowL (ns : List Int) : List Nat := TL.joinL [32] (ns.map showI)
def parseRowL (t : List Nat) : Option (List Int) := match (if t = [] then some [] else (splitL 32 t).mapM numW) with
  | some ns => if rowOkL ns = true then some ns else none
  | none => none
theorem joinL_cons {S p : List Nat} {r : List (List Nat)} (h : r ≠ []) : TL.joinL S (p :: r) = p ++ (S ++ TL.joinL S r) := by
  cases r with
  | nil => exact absurd rfl h
  | cons q r => rfl
theorem spl_ne {s : Nat} : ∀ (l acc : List Nat), TL.spl [s] 0 acc l ≠ []
  | [], acc => by
    rw [TL.spl_nil]
    exact List.cons_ne_nil _ _
  | c :: r, acc => by
    cases h : TL.pre [s] (c :: r) with
    | true =>
      rw [TL.spl_hit h]
      exact List.cons_ne_nil _ _
    | false =>
      rw [TL.spl_miss h]
      exact spl_ne r _
theorem join_spl {s : Nat} : ∀ (l acc : List Nat), TL.joinL [s] (TL.spl [s] 0 acc l) = acc ++ l
  | [], acc => by
    rw [TL.spl_nil, List.append_nil]
    rfl
  | c :: r, acc => by
    cases h : TL.pre [s] (c :: r) with
    | true =>
      have e : c = s := by
        have h1 : ((c :: r).take 1 == [s]) = true := h
        have h2 : [c] = [s] := eq_of_beq h1
        injection h2
      rw [TL.spl_hit h]
      show TL.joinL [s] (acc :: TL.spl [s] 0 [] r) = _
      rw [joinL_cons (spl_ne r []), join_spl r [], e]
      rfl
    | false =>
      rw [TL.spl_miss h, join_spl r (acc ++ [c]), List.append_assoc]
      rfl
theorem join_split (s : Nat) (l : List Nat) : TL.joinL [s] (splitL s l) = l := by
  unfold splitL
  rw [join_spl, List.nil_append]
theorem split_join {s : Nat} {ps : List (List Nat)} (h : ps ≠ []) (hp : ∀ p ∈ ps, s ∉ p) : splitL s (TL.joinL [s] ps) = ps := TL.spl_join h hp
theorem mapM_map {ws : List (List Nat)} {ns : List Int} (h : ws.mapM numW = some ns) : ns.map showI = ws := by
  induction ws generalizing ns with
  | nil =>
    have e : ns = [] := (Option.some.inj h).symm
    rw [e]
    rfl
  | cons w r ih =>
    rw [List.mapM_cons] at h
    cases h1 : numW w with
    | none =>
      rw [h1] at h
      cases h
    | some n =>
      cases h2 : r.mapM numW with
      | none =>
        rw [h1, h2] at h
        cases h
      | some ms =>
        rw [h1, h2] at h
        have e : n :: ms = ns := Option.some.inj h
        rw [← e, List.map_cons, ih h2, (numW_show h1).1]
theorem parseRow_show {t : List Nat} {ns : List Int} (h : parseRowL t = some ns) : rowL ns = t ∧ rowOkL ns = true := by
  unfold parseRowL at h
  by_cases c : t = []
  · rw [if_pos c] at h
    have h' : (if rowOkL [] = true then some ([] : List Int) else none) = some ns := h
    rw [if_pos (by decide)] at h'
    have e : ns = [] := (Option.some.inj h').symm
    rw [e, c]
    exact ⟨rfl, by decide⟩
  · rw [if_neg c] at h
    cases h1 : (splitL 32 t).mapM numW with
    | none =>
      rw [h1] at h
      cases h
    | some ms =>
      rw [h1] at h
      have h' : (if rowOkL ms = true then some ms else none) = some ns := h
      split at h'
      · rename_i ok
        have e : ms = ns := Option.some.inj h'
        subst e
        refine ⟨?_, ok⟩
        unfold rowL
        rw [mapM_map h1, join_split]
      · cases h'
theorem mapM_of {ns : List Int} (h : ∀ n ∈ ns, -99 ≤ n ∧ n ≤ 99) : (ns.map showI).mapM numW = some ns := by
  induction ns with
  | nil => rfl
  | cons n r ih =>
    rw [List.map_cons, List.mapM_cons, numW_of (h n List.mem_cons_self).1 (h n List.mem_cons_self).2, ih fun m hm => h m (List.mem_cons_of_mem _ hm)]
    rfl
theorem rowOk_all {ns : List Int} (h : rowOkL ns = true) : ns.length ≤ 30 ∧ ∀ n ∈ ns, -99 ≤ n ∧ n ≤ 99 := by
  unfold rowOkL at h
  rw [Bool.and_eq_true] at h
  exact ⟨of_decide_eq_true h.1, fun n hn => of_decide_eq_true (List.all_eq_true.mp h.2 n hn)⟩
theorem joinL_ne {p : List Nat} {r : List (List Nat)} (h : p ≠ []) : TL.joinL [32] (p :: r) ≠ [] := by
  cases r with
  | nil => exact h
  | cons q r =>
    intro e
    have e' : p ++ ([32] ++ TL.joinL [32] (q :: r)) = [] := e
    exact h (List.append_eq_nil_iff.mp e').1
theorem parseRow_of {ns : List Int} (h : rowOkL ns = true) : parseRowL (rowL ns) = some ns := by
  unfold parseRowL
  cases ns with
  | nil => rfl
  | cons n r =>
    have hne : rowL (n :: r) ≠ [] := joinL_ne (showI_ne n)
    rw [if_neg hne]
    have e : splitL 32 (rowL (n :: r)) = (n :: r).map showI := split_join (by simp) fun p hp => by
      obtain ⟨m, _, rfl⟩ := List.mem_map.mp hp
      exact showI_free (by omega)
    rw [e, mapM_of (rowOk_all h).2]
    show (if rowOkL (n :: r) = true then some (n :: r) else none) = _
    rw [if_pos h]
/-! ### what answers show -/
abbrev Mat := List (List Int)
def at2 (R : Mat) (i j : Nat) : Int := (R.getD i []).getD j 0
def set2 (R : Mat) (i j : Nat) (v : Int) : Mat := R.set i ((R.getD i []).set j v)
def newMat (n : Nat) : Mat := (List.range n).map fun i => (List.range n).map fun j => if i = j then 0 else -1
def tellsM (R : Mat) (x y : Nat) : Option Bool := if at2 R x y = 1 then some true else if 0 ≤ at2 R y x then some false else none
def stepM (low high : Nat) (strict : Int) (R : Mat) (p : Nat × Nat) : Mat :=
  set2 R p.1 p.2 (max (at2 R p.1 p.2) (max (max (at2 R p.1 low) strict) (at2 R high p.2)))
def pairs (a b : List Nat) : List (Nat × Nat) := a.flatMap fun i => b.map fun j => (i, j)
def joinM (n : Nat) (R : Mat) (low high : Nat) (strict : Int) : Mat :=
  (pairs ((List.range n).filter fun t => decide (0 ≤ at2 R t low)) ((List.range n).filter fun t => decide (0 ≤ at2 R high t))).foldl (stepM low high strict) R
/-- behind one answer: the steps, or none if no row has it -/
def addM (n : Nat) (R : Mat) (x y : Nat) (b : Bool) : Option Mat := match tellsM R x y with
  | some a => if a = b then some R else none
  | none => some (if b then joinM n R x y 1 else joinM n R y x 0)
abbrev Qu := Int × Int × Bool
def goM (n : Nat) : List Qu → Mat → Option Mat
  | [], R => some R
  | q :: r, R => match addM n R q.1.toNat q.2.1.toNat q.2.2 with
    | some R' => goM n r R'
    | none => none
def stepsM (n : Nat) (log : List Qu) : Option Mat := goM n log (newMat n)
/-! ### a row with all answers -/
structure Sized (n : Nat) (R : Mat) : Prop where
  len : R.length = n
  row : ∀ r ∈ R, r.length = n
structure Holds (n : Nat) (val : Nat → Int) (R : Mat) : Prop where
  sz : Sized n R
  ok : ∀ i j, i < n → j < n → at2 R i j = -1 ∨ (at2 R i j = 0 ∧ val i ≤ val j) ∨ (at2 R i j = 1 ∧ val i < val j)
theorem at2_set2 {n : Nat} {R : Mat} (s : Sized n R) {a b i j : Nat} {v : Int} (ha : a < n) (hb : b < n) : at2 (set2 R a b v) i j = if i = a ∧ j = b then v else at2 R i j := by
  unfold at2 set2
  by_cases h : i = a
  · subst h
    have hl : i < R.length := by rw [s.len]; exact ha
    have e1 : (R.set i ((R.getD i []).set b v)).getD i [] = (R.getD i []).set b v := by
      rw [List.getD_eq_getElem?_getD, List.getElem?_set_self hl]
      rfl
    rw [e1]
    have hr : (R.getD i []).length = n := by
      rw [List.getD_eq_getElem?_getD, List.getElem?_eq_getElem hl]
      exact s.row _ (List.getElem_mem hl)
    by_cases h2 : j = b
    · subst h2
      rw [if_pos ⟨rfl, rfl⟩, List.getD_eq_getElem?_getD, List.getElem?_set_self (by rw [hr]; exact hb)]
      rfl
    · rw [if_neg (fun z => h2 z.2), List.getD_eq_getElem?_getD, List.getElem?_set_ne (fun z => h2 z.symm), ← List.getD_eq_getElem?_getD]
  · rw [if_neg (fun z => h z.1)]
    have e1 : (R.set a ((R.getD a []).set b v)).getD i [] = R.getD i [] := by
      rw [List.getD_eq_getElem?_getD, List.getElem?_set_ne (fun z => h z.symm), ← List.getD_eq_getElem?_getD]
    rw [e1]
theorem Sized.set2 {n : Nat} {R : Mat} (s : Sized n R) {a b : Nat} {v : Int} (ha : a < n) : Sized n (set2 R a b v) := by
  have hl : a < R.length := by rw [s.len]; exact ha
  refine ⟨?_, fun r hr => ?_⟩
  · unfold K20.set2
    rw [List.length_set, s.len]
  · unfold K20.set2 at hr
    rcases List.mem_or_eq_of_mem_set hr with h | h
    · exact s.row r h
    · rw [h, List.length_set, List.getD_eq_getElem?_getD, List.getElem?_eq_getElem hl]
      exact s.row _ (List.getElem_mem hl)
theorem newMat_at {n i j : Nat} (hi : i < n) (hj : j < n) : at2 (newMat n) i j = if i = j then 0 else -1 := by
  unfold at2 newMat
  have e1 : ((List.range n).map fun i => (List.range n).map fun j => if i = j then (0 : Int) else -1).getD i [] = (List.range n).map fun j => if i = j then (0 : Int) else -1 := by
    rw [List.getD_eq_getElem?_getD, List.getElem?_map, List.getElem?_range hi]
    rfl
  rw [e1]
  rw [List.getD_eq_getElem?_getD, List.getElem?_map, List.getElem?_range hj]
  rfl
theorem newMat_sized (n : Nat) : Sized n (newMat n) := by
  refine ⟨by simp [newMat], fun r hr => ?_⟩
  unfold newMat at hr
  obtain ⟨i, _, rfl⟩ := List.mem_map.mp hr
  simp
theorem newMat_holds (n : Nat) (val : Nat → Int) : Holds n val (newMat n) := by
  refine ⟨newMat_sized n, fun i j hi hj => ?_⟩
  rw [newMat_at hi hj]
  by_cases h : i = j
  · subst h
    rw [if_pos rfl]
    exact .inr (.inl ⟨rfl, Int.le_refl _⟩)
  · rw [if_neg h]
    exact .inl rfl
/-- what a loop over all pairs keeps -/
structure Keeps (n : Nat) (val : Nat → Int) (low high : Nat) (A B : List Nat) (R : Mat) : Prop where
  h : Holds n val R
  a : ∀ i ∈ A, 0 ≤ at2 R i low
  b : ∀ j ∈ B, 0 ≤ at2 R high j
theorem step_keeps {n : Nat} {val : Nat → Int} {low high : Nat} {strict : Int} {A B : List Nat} {R : Mat} (hl : low < n) (hh : high < n) (hA : ∀ i ∈ A, i < n) (hB : ∀ j ∈ B, j < n) (hs : (strict = 0 ∧ val low ≤ val high) ∨ (strict = 1 ∧ val low < val high))
    (k : Keeps n val low high A B R) {p : Nat × Nat} (h1 : p.1 ∈ A) (h2 : p.2 ∈ B) : Keeps n val low high A B (stepM low high strict R p) := by
  obtain ⟨i, j⟩ := p
  have hi := hA i h1
  have hj := hB j h2
  have ki := k.h.ok i low hi hl
  have kj := k.h.ok high j hh hj
  have kij := k.h.ok i j hi hj
  have a1 := k.a i h1
  have b1 := k.b j h2
  have e : ∀ x y, at2 (stepM low high strict R (i, j)) x y = if x = i ∧ y = j then max (at2 R i j) (max (max (at2 R i low) strict) (at2 R high j)) else at2 R x y := fun x y => at2_set2 k.h.sz hi hj
  refine ⟨⟨k.h.sz.set2 hi, fun x y hx hy => ?_⟩, fun x hx => ?_, fun y hy => ?_⟩
  · rw [e]
    by_cases c : x = i ∧ y = j
    · rw [if_pos c, c.1, c.2]
      omega
    · rw [if_neg c]
      exact k.h.ok x y hx hy
  · rw [e]
    have ax := k.a x hx
    by_cases c : x = i ∧ low = j
    · rw [if_pos c]
      rw [c.1, c.2] at ax
      omega
    · rw [if_neg c]
      exact ax
  · rw [e]
    have by' := k.b y hy
    by_cases c : high = i ∧ y = j
    · rw [if_pos c]
      rw [c.1, c.2] at by'
      omega
    · rw [if_neg c]
      exact by'
theorem fold_keeps {n : Nat} {val : Nat → Int} {low high : Nat} {strict : Int} {A B : List Nat} (hl : low < n) (hh : high < n) (hA : ∀ i ∈ A, i < n) (hB : ∀ j ∈ B, j < n) (hs : (strict = 0 ∧ val low ≤ val high) ∨ (strict = 1 ∧ val low < val high)) :
    ∀ (ps : List (Nat × Nat)) (R : Mat), (∀ p ∈ ps, p.1 ∈ A ∧ p.2 ∈ B) → Keeps n val low high A B R → Keeps n val low high A B (ps.foldl (stepM low high strict) R)
  | [], R, _, k => k
  | p :: r, R, h, k => fold_keeps hl hh hA hB hs r _ (fun q hq => h q (List.mem_cons_of_mem _ hq)) (step_keeps hl hh hA hB hs k (h p List.mem_cons_self).1 (h p List.mem_cons_self).2)
theorem mem_pairs {a b : List Nat} {p : Nat × Nat} (h : p ∈ pairs a b) : p.1 ∈ a ∧ p.2 ∈ b := by
  unfold pairs at h
  obtain ⟨i, hi, h⟩ := List.mem_flatMap.mp h
  obtain ⟨j, hj, rfl⟩ := List.mem_map.mp h
  exact ⟨hi, hj⟩
theorem join_holds {n : Nat} {val : Nat → Int} {R : Mat} {low high : Nat} {strict : Int} (H : Holds n val R) (hl : low < n) (hh : high < n) (hs : (strict = 0 ∧ val low ≤ val high) ∨ (strict = 1 ∧ val low < val high)) : Holds n val (joinM n R low high strict) := by
  refine (fold_keeps (A := (List.range n).filter fun t => decide (0 ≤ at2 R t low)) (B := (List.range n).filter fun t => decide (0 ≤ at2 R high t)) hl hh (fun i hi => ?_) (fun j hj => ?_) hs _ R (fun p hp => mem_pairs hp) ⟨H, fun i hi => ?_, fun j hj => ?_⟩).h
  · exact List.mem_range.mp (List.mem_filter.mp hi).1
  · exact List.mem_range.mp (List.mem_filter.mp hj).1
  · exact of_decide_eq_true (List.mem_filter.mp hi).2
  · exact of_decide_eq_true (List.mem_filter.mp hj).2
theorem add_holds {n : Nat} {val : Nat → Int} {R : Mat} {x y : Nat} (H : Holds n val R) (hx : x < n) (hy : y < n) : ∃ R', addM n R x y (decide (val x < val y)) = some R' ∧ Holds n val R' := by
  have h1 := H.ok x y hx hy
  have h2 := H.ok y x hy hx
  unfold addM tellsM
  by_cases c1 : at2 R x y = 1
  · rw [if_pos c1]
    refine ⟨R, ?_, H⟩
    have e : decide (val x < val y) = true := decide_eq_true (by omega)
    rw [e]
    rfl
  · rw [if_neg c1]
    by_cases c2 : 0 ≤ at2 R y x
    · rw [if_pos c2]
      refine ⟨R, ?_, H⟩
      have e : decide (val x < val y) = false := decide_eq_false (by omega)
      rw [e]
      rfl
    · rw [if_neg c2]
      by_cases c3 : val x < val y
      · rw [decide_eq_true c3]
        exact ⟨_, rfl, join_holds H hx hy (.inr ⟨rfl, c3⟩)⟩
      · rw [decide_eq_false c3]
        exact ⟨_, rfl, join_holds H hy hx (.inl ⟨rfl, by omega⟩)⟩
/-- an answer of a row -/
def Good (row : List Int) (q : Qu) : Prop := 0 ≤ q.1 ∧ q.1 < row.length ∧ 0 ≤ q.2.1 ∧ q.2.1 < row.length ∧ q.1 ≠ q.2.1 ∧ q.2.2 = decide (row.getD q.1.toNat 0 < row.getD q.2.1.toNat 0)
theorem go_some {row : List Int} : ∀ (log : List Qu) (R : Mat), (∀ q ∈ log, Good row q) → Holds row.length (fun i => row.getD i 0) R → (goM row.length log R).isSome = true
  | [], _, _, _ => rfl
  | q :: r, R, h, H => by
    obtain ⟨g1, g2, g3, g4, _, g6⟩ := h q List.mem_cons_self
    obtain ⟨R', e, H'⟩ := add_holds (x := q.1.toNat) (y := q.2.1.toNat) H (by omega) (by omega)
    have ih := go_some r R' (fun p hp => h p (List.mem_cons_of_mem _ hp)) H'
    show (match addM row.length R q.1.toNat q.2.1.toNat q.2.2 with | some R' => goM row.length r R' | none => none).isSome = true
    rw [g6, e]
    exact ih
theorem steps_some {row : List Int} {log : List Qu} (h : ∀ q ∈ log, Good row q) : (stepsM row.length log).isSome = true := go_some log _ h (newMat_holds _ _)
/-! ### records -/
abbrev Rec := Int × List Qu × Bool
def ansOk (n : Int) (q : Qu) : Bool := decide (0 ≤ q.1 ∧ q.1 ≤ n - 1) && (decide (0 ≤ q.2.1 ∧ q.2.1 ≤ n - 1) && !decide (q.1 = q.2.1))
def recOk (r : Rec) : Bool := decide (1 ≤ r.1 ∧ r.1 ≤ 30) && (decide (r.2.1.length ≤ 900) && (r.2.1.all (ansOk r.1) && (stepsM r.1.toNat r.2.1).isSome))
def quL (q : Qu) : List Nat := showI q.1 ++ [60] ++ showI q.2.1 ++ [if q.2.2 then 43 else 45]
def endW : List Nat := [101, 110, 100]
def recWords (r : Rec) : List (List Nat) := [showI r.1 ++ [58]] ++ r.2.1.map quL ++ (if r.2.2 then [endW] else [])
def recL (r : Rec) : List Nat := TL.joinL [32] (recWords r)
def quW (w : List Nat) : Option Qu := match splitL 60 w.dropLast with
  | [a, b] => if (w.drop (w.length - 1) = [43] ∨ w.drop (w.length - 1) = [45]) then (match numW a with
      | some x => (match numW b with
        | some y => some (x, y, decide (w.drop (w.length - 1) = [43]))
        | none => none)
      | none => none) else none
  | _ => none
def endedW (ws : List (List Nat)) : Bool := decide (1 < ws.length) && decide (ws.getLast? = some endW)
def midW (ws : List (List Nat)) : List (List Nat) := if endedW ws = true then (ws.drop 1).dropLast else ws.drop 1
def parseRecL (t : List Nat) : Option Rec := match (midW (splitL 32 t)).mapM quW with
  | none => none
  | some log => (match numW ((splitL 32 t).headD []).dropLast with
    | none => none
    | some n => if (recOk (n, log, endedW (splitL 32 t)) && decide (recL (n, log, endedW (splitL 32 t)) = t)) = true then some (n, log, endedW (splitL 32 t)) else none)
theorem parseRec_show {t : List Nat} {r : Rec} (h : parseRecL t = some r) : recL r = t ∧ recOk r = true := by
  unfold parseRecL at h
  split at h
  · cases h
  · split at h
    · cases h
    · split at h
      · rename_i c
        rw [Bool.and_eq_true] at c
        cases h
        exact ⟨of_decide_eq_true c.2, c.1⟩
      · cases h
theorem getLast_snoc {α : Type} (l : List α) (x : α) : (l ++ [x]).getLast? = some x := by simp
theorem quW_of {q : Qu} (h1 : -99 ≤ q.1 ∧ q.1 ≤ 99) (h2 : -99 ≤ q.2.1 ∧ q.2.1 ≤ 99) : quW (quL q) = some q := by
  obtain ⟨x, y, b⟩ := q
  have e1 : (quL (x, y, b)).dropLast = showI x ++ [60] ++ showI y := by
    unfold quL
    rw [List.dropLast_concat]
  have e2 : (quL (x, y, b)).drop ((quL (x, y, b)).length - 1) = [if b then 43 else 45] := by
    unfold quL
    rw [List.length_append, List.length_singleton, Nat.add_sub_cancel, List.drop_left]
  have e3 : splitL 60 (showI x ++ [60] ++ showI y) = [showI x, showI y] := by
    have z : showI x ++ [60] ++ showI y = TL.joinL [60] [showI x, showI y] := by
      show _ = showI x ++ ([60] ++ showI y)
      rw [List.append_assoc]
    rw [z]
    refine split_join (by simp) fun p hp => ?_
    rcases List.mem_cons.mp hp with e | hp
    · rw [e]
      exact showI_free (by omega)
    · rw [List.mem_singleton.mp hp]
      exact showI_free (by omega)
  unfold quW
  rw [e1, e3, e2]
  show (if ([if b then 43 else 45] = [43] ∨ [if b then 43 else 45] = [45]) then (match numW (showI x) with
      | some x => (match numW (showI y) with
        | some y => some (x, y, decide ([if b then 43 else 45] = [43]))
        | none => none)
      | none => none) else none) = some (x, y, b)
  rw [numW_of h1.1 h1.2, numW_of h2.1 h2.2]
  cases b <;> rfl
theorem quL_free {q : Qu} {s : Nat} (h : s < 43 ∨ 60 < s) : s ∉ quL q := by
  unfold quL
  intro hm
  rcases List.mem_append.mp hm with hm | hm
  · rcases List.mem_append.mp hm with hm | hm
    · rcases List.mem_append.mp hm with hm | hm
      · exact showI_free (by omega) hm
      · have := List.mem_singleton.mp hm
        omega
    · exact showI_free (by omega) hm
  · have e := List.mem_singleton.mp hm
    split at e <;> omega
theorem quL_ne_end (q : Qu) : quL q ≠ endW := fun e => by
  have h : (60 : Nat) ∈ quL q := by
    unfold quL
    simp
  rw [e] at h
  exact absurd h (by decide)
theorem mapM_qu {log : List Qu} (h : ∀ q ∈ log, (-99 ≤ q.1 ∧ q.1 ≤ 99) ∧ (-99 ≤ q.2.1 ∧ q.2.1 ≤ 99)) : (log.map quL).mapM quW = some log := by
  induction log with
  | nil => rfl
  | cons q r ih =>
    rw [List.map_cons, List.mapM_cons, quW_of (h q List.mem_cons_self).1 (h q List.mem_cons_self).2, ih fun m hm => h m (List.mem_cons_of_mem _ hm)]
    rfl
theorem recOk_parts {r : Rec} (h : recOk r = true) : (1 ≤ r.1 ∧ r.1 ≤ 30) ∧ r.2.1.length ≤ 900 ∧ (∀ q ∈ r.2.1, (0 ≤ q.1 ∧ q.1 ≤ r.1 - 1) ∧ (0 ≤ q.2.1 ∧ q.2.1 ≤ r.1 - 1) ∧ q.1 ≠ q.2.1) ∧ (stepsM r.1.toNat r.2.1).isSome = true := by
  unfold recOk at h
  rw [Bool.and_eq_true, Bool.and_eq_true, Bool.and_eq_true] at h
  obtain ⟨h1, h2, h3, h4⟩ := h
  refine ⟨of_decide_eq_true h1, of_decide_eq_true h2, fun q hq => ?_, h4⟩
  have z := List.all_eq_true.mp h3 q hq
  unfold ansOk at z
  rw [Bool.and_eq_true, Bool.and_eq_true] at z
  refine ⟨of_decide_eq_true z.1, of_decide_eq_true z.2.1, fun e => ?_⟩
  have z2 := z.2.2
  rw [decide_eq_true e] at z2
  cases z2
theorem parseRec_of {r : Rec} (h : recOk r = true) : parseRecL (recL r) = some r := by
  obtain ⟨n, log, e⟩ := r
  obtain ⟨h1, h2, h3, h4⟩ := recOk_parts h
  have hw : splitL 32 (recL (n, log, e)) = recWords (n, log, e) := by
    refine split_join (by simp [recWords]) fun p hp => ?_
    unfold recWords at hp
    rcases List.mem_append.mp hp with hp | hp
    · rcases List.mem_append.mp hp with hp | hp
      · rw [List.mem_singleton.mp hp]
        intro hm
        rcases List.mem_append.mp hm with hm | hm
        · exact showI_free (by omega) hm
        · have := List.mem_singleton.mp hm
          omega
      · obtain ⟨q, _, rfl⟩ := List.mem_map.mp hp
        exact quL_free (by omega)
    · split at hp
      · rw [List.mem_singleton.mp hp]
        decide
      · cases hp
  have hm : (log.map quL).mapM quW = some log := mapM_qu fun q hq => by
    obtain ⟨a, b, _⟩ := h3 q hq
    have a' : 0 ≤ q.1 ∧ q.1 ≤ n - 1 := a
    have b' : 0 ≤ q.2.1 ∧ q.2.1 ≤ n - 1 := b
    have h1' : 1 ≤ n ∧ n ≤ 30 := h1
    omega
  have he : endedW (recWords (n, log, e)) = e := by
    unfold endedW recWords
    cases e with
    | true =>
      show (decide (1 < (([showI n ++ [58]] ++ log.map quL) ++ [endW]).length) && decide ((([showI n ++ [58]] ++ log.map quL) ++ [endW]).getLast? = some endW)) = true
      rw [getLast_snoc, decide_eq_true rfl, Bool.and_true]
      refine decide_eq_true ?_
      rw [List.length_append, List.length_append, List.length_singleton, List.length_singleton]
      omega
    | false =>
      show (decide (1 < (([showI n ++ [58]] ++ log.map quL) ++ []).length) && decide ((([showI n ++ [58]] ++ log.map quL) ++ []).getLast? = some endW)) = false
      rw [List.append_nil]
      cases log with
      | nil => rfl
      | cons q r =>
        have z : decide (([showI n ++ [58]] ++ (q :: r).map quL).getLast? = some endW) = false := by
          refine decide_eq_false fun z => ?_
          have hmem : endW ∈ (q :: r).map quL := by
            have z2 : ((q :: r).map quL).getLast? = some endW := by
              rw [List.getLast?_append] at z
              rw [List.map_cons] at z ⊢
              cases hh : (quL q :: List.map quL r).getLast? with
              | none => simp at hh
              | some w =>
                rw [hh] at z
                exact z
            exact List.mem_of_getLast? z2
          obtain ⟨q', _, e'⟩ := List.mem_map.mp hmem
          exact quL_ne_end q' e'
        rw [z, Bool.and_false]
  have hmid : midW (recWords (n, log, e)) = log.map quL := by
    unfold midW
    rw [he]
    cases e with
    | true =>
      rw [if_pos rfl]
      show (log.map quL ++ [endW]).dropLast = _
      rw [List.dropLast_concat]
    | false =>
      rw [if_neg Bool.false_ne_true]
      show log.map quL ++ [] = _
      rw [List.append_nil]
  have hhd : ((recWords (n, log, e)).headD []).dropLast = showI n := by
    show (showI n ++ [58]).dropLast = _
    rw [List.dropLast_concat]
  have h1' : 1 ≤ n ∧ n ≤ 30 := h1
  unfold parseRecL
  rw [hw, hmid, hm, hhd, numW_of (by omega) (by omega), he]
  show (if (recOk (n, log, e) && decide (recL (n, log, e) = recL (n, log, e))) = true then some (n, log, e) else none) = _
  rw [h, decide_eq_true rfl]
  rfl
/-- a record of a run -/
theorem recOk_run {row : List Int} {log : List Qu} {m : Int} {e : Bool} (hr : row.length ≤ 30) (hm : m = max 1 (row.length : Int)) (hl : log.length ≤ 900) (h : ∀ q ∈ log, Good row q) : recOk (m, log, e) = true := by
  unfold recOk
  have e1 : decide (1 ≤ m ∧ m ≤ 30) = true := decide_eq_true (by omega)
  have e2 : log.all (ansOk m) = true := by
    refine List.all_eq_true.mpr fun q hq => ?_
    obtain ⟨g1, g2, g3, g4, g5, _⟩ := h q hq
    unfold ansOk
    rw [decide_eq_true (show 0 ≤ q.1 ∧ q.1 ≤ m - 1 by omega), decide_eq_true (show 0 ≤ q.2.1 ∧ q.2.1 ≤ m - 1 by omega), decide_eq_false g5]
    rfl
  have e3 : (stepsM m.toNat log).isSome = true := by
    cases row with
    | nil =>
      cases log with
      | nil => rfl
      | cons q r =>
        obtain ⟨g1, g2, _⟩ := h q List.mem_cons_self
        have g2' : q.1 < (0 : Nat) := g2
        omega
    | cons a r =>
      have en : m.toNat = (a :: r).length := by
        rw [List.length_cons] at hm ⊢
        omega
      rw [en]
      exact steps_some h
  show (decide (1 ≤ m ∧ m ≤ 30) && (decide (log.length ≤ 900) && (log.all (ansOk m) && (stepsM m.toNat log).isSome))) = true
  rw [e1, decide_eq_true hl, e2, e3]
  rfl
end K20
namespace K20
open PySem PySem.Spec PyProof.Rows L2
theorem hu65 {A : Around} {k : Nat} (hr : Room k A) : A.units + 65 < cLine := by
  have := hr.un
  omega
/-- the objects that stood stand -/
theorem same_upd {H : Hp} {p : Addr} {o : HO} (h : H p = none) : Same H (upd H p o) := fun b x e => by
  rw [upd_ne (ne_of_none e h)]
  exact e
/-- what stood stands, though a new thing at D is changed -/
theorem same_mut {H H' : Hp} {p : Addr} {o : HO} (e : Same H H') (h : H p = none) : Same H (upd H' p o) := fun b x q => by
  rw [upd_ne (ne_of_none q h)]
  exact e b x q
theorem Same.sqt {K : PySem.W.Frag} {H H' : Hp} {a : Addr} {xs : List V} (e : Same H H') (h : SqT K H a xs) : SqT K H' a xs := by
  rcases h with (h | ⟨o, h⟩) | h
  · exact .inl (.inl (e _ _ h))
  · exact .inl (.inr ⟨o, e _ _ h⟩)
  · exact .inr h
theorem sz {n : Nat} (h : n ≤ 16777216) : n ≤ sizeLine := by
  rw [sizeLine_eq]
  exact h
theorem sz' {n : Nat} (h : n < 16777216) : n < sizeLine := by
  rw [sizeLine_eq]
  exact h
theorem map_get {α β : Type} {f : α → β} {l : List α} {i : Nat} {y : β} (h : (l.map f)[i]? = some y) : ∃ x, l[i]? = some x ∧ y = f x := by
  rw [List.getElem?_map] at h
  cases e : l[i]? with
  | none =>
    rw [e] at h
    cases h
  | some x =>
    rw [e] at h
    exact ⟨x, rfl, (Option.some.inj h).symm⟩
theorem get_map {α β : Type} {f : α → β} {l : List α} {i : Nat} {x : α} (h : l[i]? = some x) : (l.map f)[i]? = some (f x) := by
  rw [List.getElem?_map, h]
  rfl
theorem get_lt {α : Type} {l : List α} {i : Nat} {x : α} (h : l[i]? = some x) : i < l.length := (List.getElem?_eq_some_iff.mp h).1
theorem get_at {α : Type} {l : List α} {i : Nat} (h : i < l.length) : ∃ x, l[i]? = some x := ⟨l[i], List.getElem?_eq_getElem h⟩
theorem take_more {α : Type} : ∀ {l : List α} {i : Nat} {x : α}, l[i]? = some x → l.take (i + 1) = l.take i ++ [x] := fun {l i x} h => by
  rw [List.take_add_one, h]
  rfl
/-! ### comprehensions whose elements are plain values -/
section
variable {K : PySem.W.Frag} {a : Addr} {xs : List V} {g : TG} {te : TE} {vs : List Nat} {σ : L2.St} {H1 : Hp} {D : Addr} {Qd : Hp → Prop}
theorem lc_mapL (ys : List V) (hl : ys.length = xs.length) (hz : xs.length ≤ 1000000) (hD : H1 D = none) (hx : SqL K H1 a xs)
    (hs : ∀ (i : Nat) (x y : V) (H' : Hp), xs[i]? = some x → ys[i]? = some y → Same H1 H' → ∀ Qe : VK, (∀ H4, Same H' H4 → Qe y H4) → g x (wipe σ vs) H' fun σ2 H2 => wipe σ2 vs = wipe σ vs ∧ te σ2 H2 Qe)
    (hd : ∀ H', Same H1 H' → H' D = some (.lst ys) → Qd H') :
    ∃ W : Nat → Nat → Hp → Prop, (∃ m, W 0 m (upd H1 D (.lst []))) ∧ ∀ i m H, W i m H →
      ((Itl K a).stop i H ∧ Qd H) ∨ ((Itl K a).go i H ∧ ∃ Nx : Hp → Prop, (∀ H', Nx H' → ∃ m', m' < m ∧ W (i + 1) m' H') ∧ ∀ x H', (Itl K a).yld i H x H' → g x (wipe σ vs) H' fun σ2 H2 => wipe σ2 vs = wipe σ vs ∧ tYes σ2 H2 fun b H3 =>
        if b = true then te σ2 H3 fun y H4 => ∃ acc, H4 D = some (.lst acc) ∧ acc.length < sizeLine ∧ Nx (upd H4 D (.lst (acc ++ [y]))) else Nx H3) := by
  refine lc_list (xs := xs) (fun i H => Same H1 H ∧ H D = some (.lst (ys.take i))) ⟨same_mut (Same.refl _) hD, upd_same⟩ (fun i H _ p => p.1.seq hx) (fun i x H hi p => ?_) (fun H p => ?_)
  · obtain ⟨y, hy⟩ := get_at (l := ys) (i := i) (by have := get_lt hi; omega)
    refine hs i x y H hi hy p.1 (fun y H4 => ∃ acc, H4 D = some (.lst acc) ∧ acc.length < sizeLine ∧ (Same H1 (upd H4 D (.lst (acc ++ [y]))) ∧ (upd H4 D (.lst (acc ++ [y]))) D = some (.lst (ys.take (i + 1))))) (fun H4 e4 => ?_)
    refine ⟨ys.take i, e4 _ _ p.2, ?_, ?_, ?_⟩
    · refine sz' ?_
      rw [List.length_take]
      omega
    · exact same_mut (p.1.trans e4) hD
    · rw [upd_same, take_more hy]
  · refine hd H p.1 ?_
    rw [p.2, ← hl, List.take_length]
end
section
variable {g : TG} {te : TE} {vs : List Nat} {σ : L2.St} {H1 : Hp} {D : Addr} {Qd : Hp → Prop} {lo : Int} {n : Nat}
theorem lc_mapR (ys : List V) (hl : ys.length = n) (hz : n ≤ 1000000) (hD : H1 D = none)
    (hs : ∀ (i : Nat) (y : V) (H' : Hp), i < n → ys[i]? = some y → Same H1 H' → ∀ Qe : VK, (∀ H4, Same H' H4 → Qe y H4) → g (.int (lo + i)) (wipe σ vs) H' fun σ2 H2 => wipe σ2 vs = wipe σ vs ∧ te σ2 H2 Qe)
    (hd : ∀ H', Same H1 H' → H' D = some (.lst ys) → Qd H') :
    ∃ W : Nat → Nat → Hp → Prop, (∃ m, W 0 m (upd H1 D (.lst []))) ∧ ∀ i m H, W i m H →
      ((Itr lo n).stop i H ∧ Qd H) ∨ ((Itr lo n).go i H ∧ ∃ Nx : Hp → Prop, (∀ H', Nx H' → ∃ m', m' < m ∧ W (i + 1) m' H') ∧ ∀ x H', (Itr lo n).yld i H x H' → g x (wipe σ vs) H' fun σ2 H2 => wipe σ2 vs = wipe σ vs ∧ tYes σ2 H2 fun b H3 =>
        if b = true then te σ2 H3 fun y H4 => ∃ acc, H4 D = some (.lst acc) ∧ acc.length < sizeLine ∧ Nx (upd H4 D (.lst (acc ++ [y]))) else Nx H3) := by
  refine lc_range (fun i H => Same H1 H ∧ H D = some (.lst (ys.take i))) ⟨same_mut (Same.refl _) hD, upd_same⟩ (fun i H hi p => ?_) (fun H p => ?_)
  · obtain ⟨y, hy⟩ := get_at (l := ys) (i := i) (by omega)
    refine hs i y H hi hy p.1 (fun y H4 => ∃ acc, H4 D = some (.lst acc) ∧ acc.length < sizeLine ∧ (Same H1 (upd H4 D (.lst (acc ++ [y]))) ∧ (upd H4 D (.lst (acc ++ [y]))) D = some (.lst (ys.take (i + 1))))) (fun H4 e4 => ?_)
    refine ⟨ys.take i, e4 _ _ p.2, ?_, ?_, ?_⟩
    · refine sz' ?_
      rw [List.length_take]
      omega
    · exact same_mut (p.1.trans e4) hD
    · rw [upd_same, take_more hy]
  · refine hd H p.1 ?_
    rw [p.2, ← hl, List.take_length]
end
section
variable {P : Program} {w : World} {K : PySem.W.Frag} {mg : Str → Option Value} {base : Heap} {CS CE CT : Addr}
/-! ### is_int -/
def spIsInt : Sp := fun vs H Q _ => ∃ v lo hi : Int, vs = [.int v, .int lo, .int hi] ∧ Q (.bl (decide (lo ≤ v ∧ v ≤ hi))) H
theorem ok_is_int (T : Txt K mg CS CE CT) : Ok P w K mg base CX0 1 "is_int" P_is_int spIsInt := by
  refine T.d_is_int.ok0 sc_is_int (fun _ _ _ _ _ _ us hl => match us, hl with | [_, _, _], _ => rfl) (fun vs H Q E h => ?_) (fun f cdv A outer s H vs Q E hr h => ?_)
  · obtain ⟨_, _, _, rfl, _⟩ := h
    rfl
  · obtain ⟨v, lo, hi, rfl, q⟩ := h
    refine ⟨_, (pss_one (ps_ret (pe_and (pe_callB call_isi (by rfl) T.f_isinstance (by decide +kernel) (pa_cons (pv 0) (pa_cons (pe_bltn (v := .ty "int") (by rfl) T.f_int (by decide +kernel) rfl) pa_nil))) (pe_and (pe_not (pe_callB call_isi (by rfl) T.f_isinstance (by decide +kernel) (pa_cons (pv 0) (pa_cons (pe_bltn (v := .ty "bool") (by rfl) T.f_bool (by decide +kernel) rfl) pa_nil)))) (pe_one (pe_chain op_le op_le (pv 1) (pv 0) (pv 2))))))), ?_⟩
    refine ⟨_, rfl, _, .ty "int", .type "int", .type "int", true, rfl, .ty _, .base (.int v), kit_ty (by decide +kernel), true, rfl, iteT ?_⟩
    refine ⟨_, rfl, _, .ty "bool", .type "int", .type "bool", false, rfl, .ty _, .base (.int v), kit_ty (by decide +kernel), false, rfl, true, rfl, iteT ?_⟩
    refine ⟨_, rfl, _, rfl, _, _, rfl, rfl, _, rfl, ?_⟩
    by_cases c : lo ≤ v
    · rw [decide_eq_true c]
      refine iteT ⟨_, rfl, _, _, rfl, rfl, ?_⟩
      show Q (.bl (decide (v ≤ hi))) H
      have e : decide (v ≤ hi) = decide (lo ≤ v ∧ v ≤ hi) := by simp [c]
      rw [e]
      exact q
    · rw [decide_eq_false c]
      refine iteF ?_
      show Q (.bl false) H
      have e : false = decide (lo ≤ v ∧ v ≤ hi) := by simp [c]
      rw [e]
      exact q
/-! ### is_row -/
def spIsRow (K : PySem.W.Frag) : Sp := fun vs H Q _ => ∃ (a : Addr) (ns : List Int), vs = [.ref a] ∧ H a = some (.lst (ns.map V.int)) ∧ ns.length ≤ 1000000 ∧ ∀ H', Same H H' → Q (.bl (rowOkL ns)) H'
theorem ok_is_row (T : Txt K mg CS CE CT) : Ok P w K mg base CX0 2 "is_row" P_is_row (spIsRow K) := by
  refine T.d_is_row.ok0 sc_is_row (fun _ _ _ _ _ _ us hl => match us, hl with | [_], _ => rfl) (fun vs H Q E h => ?_) (fun f cdv A outer s H vs Q E hr h => ?_)
  · obtain ⟨_, _, rfl, _⟩ := h
    rfl
  · obtain ⟨a, ns, rfl, ha, hz, q⟩ := h
    obtain ⟨tM, gMOST⟩ := T.g_MOST
    refine ⟨_, (pss_one (ps_ret (pe_and (pe_callB call_isi (by rfl) T.f_isinstance (by decide +kernel) (pa_cons (pv 0) (pa_cons (pe_bltn (v := .ty "list") (by rfl) T.f_list (by decide +kernel) rfl) pa_nil))) (pe_and (pe_cmpR op_le (pe_callB call_len (by rfl) T.f_len (by decide +kernel) (pa_cons (pv 0) pa_nil)) (pe_glob (v := .int 30) (by rfl) gMOST ⟨_, rfl⟩) (nomark _)) (pe_one (pe_callB (cr_all rfl) (by rfl) T.f_all (by decide +kernel) (pa_cons (pe_lc (own := [("one", 1)]) rfl sc_is_row.nd (pi_list (pv 0)) (blkOk_by (N := N_is_row) (sc := defScope s_is_row) (by decide +kernel)) (fun _ _ _ _ _ => (pg_name (i := 1) sc_is_row.nd rfl (Or.inl rfl))) (fun _ _ _ _ _ => pts_nil) (fun _ _ _ _ _ => (pe_callO (ok_is_int T) (hr.mono (by decide)) pass0 (pa_cons (pv 1) (pa_cons (pe_un un_neg pe_int) (pa_cons pe_int pa_nil)))))) pa_nil))))))), ?_⟩
    refine ⟨_, rfl, _, .ty "list", .type "list", .type "list", true, rfl, .ty _, .base (.lst ha), kit_ty (by decide +kernel), true, rfl, iteT ?_⟩
    refine ⟨_, rfl, _, _, rfl, .inl ⟨_, .inl (.inl ha), rfl⟩, _, _, rfl, rfl, _, rfl, ?_⟩
    rw [List.length_map]
    by_cases c : ns.length ≤ 30
    · rw [decide_eq_true (show ((ns.length : Nat) : Int) ≤ 30 by omega)]
      refine iteT ⟨_, rfl, a, rfl, ⟨_, .inl (.inl ha)⟩, fun D hD => ?_⟩
      refine lc_mapL (ns.map fun n => V.bl (decide (-99 ≤ n ∧ n ≤ 99))) (by rw [List.length_map, List.length_map]) (by rw [List.length_map]; omega) hD (.inl (.inl ha)) (fun i x y H' hi hy e' Qe qe => ?_) (fun H' e' hd => ?_)
      · obtain ⟨n, hn, rfl⟩ := map_get hi
        obtain ⟨n', hn', rfl⟩ := map_get hy
        rw [hn] at hn'
        cases hn'
        refine ⟨rfl, ?_⟩
        refine ⟨_, rfl, _, rfl, n, -99, 99, rfl, ?_⟩
        exact qe H' (Same.refl _)
      · refine ⟨D, ns.map fun n => decide (-99 ≤ n ∧ n ≤ 99), rfl, ?_, ?_⟩
        · rw [List.map_map]
          exact .inl (.inl hd)
        · show Q (.bl ((ns.map fun n => decide (-99 ≤ n ∧ n ≤ 99)).all id)) H'
          have e : (ns.map fun n => decide (-99 ≤ n ∧ n ≤ 99)).all id = rowOkL ns := by
            unfold rowOkL
            rw [decide_eq_true c, Bool.true_and, List.all_map]
            rfl
          rw [e]
          exact q H' e'
    · rw [decide_eq_false (show ¬ ((ns.length : Nat) : Int) ≤ 30 by omega)]
      refine iteF ?_
      show Q (.bl false) H
      have e : false = rowOkL ns := by
        unfold rowOkL
        rw [decide_eq_false c, Bool.false_and]
      rw [e]
      exact q H (Same.refl _)
end
end K20
/-! K20R1: an exception of a call leaves a list comprehension: the comprehension's block is let go, the exception goes on in the def's own frame. -/
namespace K20
open PySem PySem.Spec PyProof.Rows L2
section
variable {X : Cx} {pins : List (Addr × Obj)} {σ : L2.St} {H : Hp} {s s' : Shared} {E : XK} {C : Addr} {ce : Env} {u : Value}
theorem held_but {B h h' : Heap} {l : List Env} {a L C : Addr} {Z : Obj → Prop} {m m' : Str → Option Value} (hC : B.get? C = none) (hn : h.Ns C m) (hn' : h'.Ns C m') (sb : Heap.SameBut C h h') (x : HandSPX.HeldZ B l a Z L h) : HandSPX.HeldZ B l a Z L h' := by
  obtain ⟨b1, b0, f1, oe, vs, T, oT, ts, he, hz, hd, h1, hnT, hTe, hT, hdT, h3⟩ := x
  obtain ⟨oC, es, ep, hoC, hdC, _⟩ := id hn
  have nf : ∀ {b : Addr} {o : Obj} {fv : Array Value}, h.get? b = some o → o.data = .fields fv → b ≠ C := fun {b o fv} e d z => by
    rw [z, hoC] at e
    cases e
    rw [hdC] at d
    cases d
  refine ⟨fun b o e => (sb.2 b fun z => by rw [z, hC] at e; cases e).trans (b1 b o e), b0, Heap.FunFrames.sameBut sb hn' f1, oe, vs, T, oT, ts, (sb.2 a (nf he hd)).trans he, hz, hd, h1, hnT, hTe, (sb.2 T (nf hT hdT)).trans hT, hdT, h3⟩
theorem blk_fails (hs : X.stack = X.env :: X.outer) (hf : X.env.frame = some X.env.locals) (tk : Takes X (fun cls d _ H => E cls d H)) (I : Inv X pins σ H s) (fC : FpOk X pins H C) (hC : ∃ m, s.heap.Ns C m) (hcf : ce.frame = X.env.frame) (hcl : ce.locals = C)
    (c : L2.CX X.prog X.w X.stack H s E u s') : notedBy (model X.prog X.w) X.A ce (CompFails (model X.prog X.w) X.A X.xe ce) u s' := by
  obtain ⟨a, B, H', cls, d, rfl, fl, hok, ub, na, os, ag, hE⟩ := c
  obtain ⟨mC, hnC⟩ := hC
  obtain ⟨oC, esC, epC, hoC, hdC, hrC⟩ := id hnC
  have nCf : C ∉ frs X.stack := fun hm => by
    rcases List.mem_cons.mp (I.stkSub C hm) with z | z
    · exact fC.2.1 z
    · exact fC.2.2.1 z
  have hBC : B.get? C = some oC := ub.keep C oC hoC fC.1 nCf
  have stB : B.StaysIn s'.heap := fl.1
  have hC' : s'.heap.get? C = some oC := stB C oC hBC
  have hnC' : s'.heap.Ns C mC := ⟨oC, esC, epC, hC', hdC, hrC⟩
  have naC : a ≠ C := fun z => by
    have q := fl.2.1
    rw [z, hBC] at q
    cases q
  have nHC : H' C = none := ub.free C oC hoC fC.1
  -- the ground without the block's names
  obtain ⟨B2, b1, b2⟩ := restrict B fun b => decide (b ≠ C)
  have gB2 : ∀ b, b ≠ C → B2.get? b = B.get? b := fun b hb => b1 b (decide_eq_true hb)
  have cB2 : B2.get? C = none := b2 C (by simp)
  have sub2 : ∀ b o, B2.get? b = some o → B.get? b = some o := fun b o e => by
    by_cases hb : b = C
    · rw [hb, cB2] at e
      cases e
    · rw [← gB2 b hb]
      exact e
  have none2 : ∀ b, B.get? b = none → B2.get? b = none := fun b e => by
    cases q : B2.get? b with
    | none => rfl
    | some o =>
      rw [sub2 b o q] at e
      cases e
  have fl2 : HandSPX.FlyingZ B2 X.stack a (Zc cls d) s'.heap := by
    obtain ⟨k1, k2, k3, oe, vs, T, oT, ts, he, hz, hd, h1, hnT, r⟩ := fl
    exact ⟨fun b o e => k1 b o (sub2 b o e), none2 a k2, funFrames_none k3 fun L hL => by
      obtain ⟨e1, _⟩ := k3.mem hL
      exact none2 L e1, oe, vs, T, oT, ts, he, hz, hd, h1, none2 T hnT, r⟩
  have hok2 : HOk X.prog X.w H' B2 := fun b o q => (hok b o q).stay (fun c v hc r => by
    rw [gB2 c (fun z => ?_)]
    · exact r
    · rcases hc with hc | hc
      · rw [← hc, z, nHC] at q
        cases q
      · rw [z, nHC] at hc
        cases hc) (fun _ r => r) fun _ _ r => r
  -- the state without the exception and without the block's names
  obtain ⟨G, g1, g2⟩ := restrict s'.heap fun b => (B2.get? b).isSome || decide (b ∈ frs X.stack)
  have st2 : B2.StaysIn s'.heap := fl2.1
  have gB : ∀ b o, B2.get? b = some o → G.get? b = some o := fun b o e => by
    rw [g1 b (by simp [e])]
    exact st2 b o e
  have gF : ∀ b, b ∈ frs X.stack → G.get? b = s'.heap.get? b := fun b hb => g1 b (by simp [hb])
  have og : ∀ b o, G.get? b = some o → s'.heap.get? b = some o ∧ ((B2.get? b).isSome = true ∨ b ∈ frs X.stack) := fun b o e => by
    cases q : ((B2.get? b).isSome || decide (b ∈ frs X.stack)) with
    | false =>
      rw [g2 b q] at e
      cases e
    | true =>
      rw [g1 b q] at e
      exact ⟨e, by simpa [Bool.or_eq_true] using q⟩
  have nGC : G.get? C = none := g2 C (by simp [cB2, nCf])
  have J : Inv X pins σ H' { s with heap := G, gens := s'.gens, drawn := s'.drawn, toks := s'.toks } := by
    refine I.call (ch := [C]) ⟨fun b o e n hb hx => ?_, fun b o e n hb hx => ?_, fun b o e n _ => ub.free b o e n, fun b o e hx => ?_, ub.tups, ub.frzs, ub.tbls⟩ (hok2.kept gB) ag (fun b hb => ?_)
    · have hb' : b ≠ C := by simpa using hx
      refine gB b o ?_
      rw [gB2 b hb']
      exact ub.keep b o e n hb
    · obtain ⟨sl, q⟩ := ub.slot b o e hb
      exact ⟨sl, by rw [gF b hb]; exact q⟩
    · have hb' : b ≠ C := by simpa using hx
      by_cases hb : b ∈ frs X.stack
      · obtain ⟨sl, q⟩ := ub.slot b o e hb
        exact ⟨_, by rw [gF b hb]; exact q⟩
      · obtain ⟨o', q⟩ := ub.there b o e hb
        refine ⟨o', gB b o' ?_⟩
        rw [gB2 b hb']
        exact q
    · have e : b = C := by simpa using hb
      subst e
      exact ⟨fC.2.2.2.1, fC.2.1, fC.2.2.2.2.1, fC.2.2.2.2.2⟩
  have nb : ∀ b o, G.get? b = some o → b ∉ frs X.stack → B2.get? b = some o := fun b o e hb => by
    obtain ⟨e', h⟩ := og b o e
    rcases h with h | h
    · obtain ⟨o', q⟩ := Option.isSome_iff_exists.mp h
      have z := st2 b o' q
      rw [e'] at z
      cases z
      exact q
    · exact absurd h hb
  have hfr : X.A.frames = some (X.env :: X.outer) := by rw [I.ok.frames, hs]
  rw [hs] at fl2
  show wpAny (model X.prog X.w) X.A (noteFrame (.ref a) ce) _ _ s'
  rw [noteFrame_env _ hcf]
  refine HandSPX.looks_onZ Zc.steady hfr hf fl2 fun h1 hd1 up1 => ?_
  have hn1 : h1.Ns C mC := hnC'.upToSlots up1
  refine ⟨mC, by rw [hcl]; exact hn1, fun h2 m2 hn2 sb2 => ?_⟩
  rw [hcl] at hn2 sb2
  have hd2 := held_but cB2 hn1 hn2 sb2 hd1
  obtain ⟨k1, k2, k3, oe, vs, T, oT, ts, he, hz, hd, h1', r⟩ := id hd2
  unfold PySem.passOn
  refine wpAny_bind (wpAny_field he hd h1' ?_)
  rw [if_neg (show ¬ ((Value.ref T == Value.none) = true) from by simp)]
  have fin : wpAny (model X.prog X.w) X.A (setFlight (.ref a) ce.frame) (fun _ s4 => wpAny (model X.prog X.w) X.A (throw (.ref a) : Sem Value) (fun _ _ => False) X.xe s4) X.xe { s' with heap := h2 } := by
    rw [hcf, hf]
    refine HandSPX.setFlight_onZ hd2 fun h4 hh4 up4 => wpAny_throw (tk _ _ ?_)
    refine ⟨a, B2, _, pins, σ, H', cls, d, rfl, J, nb, fun b o e hnf => ?_, .inr (.inr (by rw [hs]; exact hh4)), na, os, ag, hE⟩
    have hbC : b ≠ C := fun z => by
      have e' : G.get? b = some o := e
      rw [z, nGC] at e'
      cases e'
    obtain ⟨sl1, q1⟩ := up1 b o (og b o e).1 hnf
    obtain ⟨sl4, q4⟩ := up4 b _ ((sb2.2 b hbC).trans q1) hnf
    exact ⟨sl4, q4⟩
  first
    | exact wpAny_bind (wpAny_pure (wpAny_bind fin))
    | exact wpAny_bind fin
end
section
variable {X : Cx}
theorem lcX_core {pins : List (Addr × Obj)} {s : Shared} {σ : L2.St} {H : Hp} {Q : VK} {E : XK} {elt tg iter : Expr} {ifs : List Expr} {scope : Scope} {own : List (Str × Nat)} {pos pos' : Pos} {wi : TI} {g : TG} {tt : TT} {te : TE} {use : Option (Value → Sem Unit)} {Qf : Value → Shared → Prop}
    (hs' : X.stack = X.env :: X.outer) (hf : X.env.frame = some X.env.locals) (tk : Takes X (fun cls d _ H => E cls d H))
    (hc : X.calm = true) (hN : X.N.Nodup) (I : Inv X pins σ H s) (hi : PI X tg iter wi) (ok : BlkOk X.N X.env.scope scope own)
    (hg : ∀ (s : Shared) (H : Hp) (C : Addr) (cl : List (Str × Addr)) (fp : List Addr) (xe : Value → Shared → Prop), PG ((X.blk s H scope (compEnvC scope cl C X.env) fp).wish xe) tg g) (ht : ∀ (s : Shared) (H : Hp) (C : Addr) (cl : List (Str × Addr)) (fp : List Addr) (xe : Value → Shared → Prop), PTs ((X.blk s H scope (compEnvC scope cl C X.env) fp).wish xe) ifs tt)
    (he : ∀ (s : Shared) (H : Hp) (C : Addr) (cl : List (Str × Addr)) (fp : List Addr) (xe : Value → Shared → Prop), Passes (L2.CX X.prog X.w) ((X.blk s H scope (compEnvC scope cl C X.env) fp).wish xe) E → PE ((X.blk s H scope (compEnvC scope cl C X.env) fp).wish xe) elt te) (hs : ∀ x, foldedSetIterable iter X.env x = pure x)
    (h : tLc wi g tt te (own.map (·.2)) σ H Q)
    (hRR : ∀ D (ce : Env) s' m H', Inv X pins σ H' s' → Q (.ref D) H' → s'.heap.Ns ce.locals m → FpOk X pins H' ce.locals → compEnds (model X.prog X.w) X.A X.xe use Qf (.ref D) ce (.ok .next) s') :
    wpAny (model X.prog X.w) X.A (comprehension (.ListComp elt [⟨tg, iter, ifs, 0⟩] scope pos) scope X.env pos' (newList []) false (eval iter X.env) use) Qf X.xe s := by
  have hfree : ∀ y ∈ scope.names, y.2 = .free → ∃ c, X.env.cells.lookup y.1 = some c := fun y hy e => by
    rcases ok.free y hy e with k | k
    · exact I.ok.has _ (.inl k)
    · exact I.ok.has _ (.inr k)
  refine comprehension_at (use := use) rfl hs (closure_ok hfree) ok.kind (fun y hy e => by rw [ok.uniq y hy, e])
    (thn (hi.run pins s σ H _ I h) fun xv s1 hx => thn hx fun itv s2 h2 => ?_)
  obtain ⟨it, fp, tn, J, H2, e, I2, T, st2, f2, q⟩ := h2
  subst e
  refine wpAny_newObj_type (newEnv_comp ?_) (by show 0 ≤ sizeLine; decide)
  generalize hD : s2.heap.objs.size = D
  have hDn : H2 D = none := I2.hok.fresh (Nat.le_of_eq hD)
  obtain ⟨W, ⟨m0, w0⟩, turn⟩ := q D hDn
  generalize hs3 : ({ s2 with heap := s2.heap.push { cls := .type "list", data := .seq ([] : List Value).toArray } } : Shared) = s3
  have I3 : Inv X pins σ (upd H2 D (.lst [])) s3 := by
    rw [← hs3]
    refine I2.laid (t' := s2.toks) (fun b o e => Heap.get?_push_of_some _ e) (Nat.le_of_eq hD) ⟨Nat.zero_le _, [], 0, .nil, ?_⟩
    rw [← hD]
    exact Heap.get?_push_size _ rfl
  have h3 : s3.heap = s2.heap.push { cls := .type "list", data := .seq ([] : List Value).toArray } := by rw [← hs3]
  have sz : ∀ b ∈ fp, b < s2.heap.objs.size := fun b hb => by
    obtain ⟨o, e, _⟩ := T.obj _ _ st2 b hb
    exact Heap.lt_size e
  have f3 : ∀ b ∈ fp, FpOk X pins (upd H2 D (.lst [])) b ∧ b < s3.heap.objs.size := fun b hb => by
    have hlt := sz b hb
    refine ⟨⟨?_, (f2 b hb).2⟩, by rw [h3, Heap.size_push]; exact Nat.lt_succ_of_lt hlt⟩
    rw [upd_ne (by rw [← hD]; exact Nat.ne_of_lt hlt)]
    exact (f2 b hb).1
  have st3 : tn 0 s3.heap := T.keep _ _ _ st2 fun b _ o e => by rw [h3]; exact Heap.get?_push_of_some _ e
  have I4 := block_start I3 ok hN f3
  have pg := hg s3 (upd H2 D (.lst [])) s3.heap.objs.size (cellsFrom (s3.heap.objs.size + 1) scope.names (cloFrom X.env.cells scope.names [])) fp
  have pt := ht s3 (upd H2 D (.lst [])) s3.heap.objs.size (cellsFrom (s3.heap.objs.size + 1) scope.names (cloFrom X.env.cells scope.names [])) fp
  have pe := he s3 (upd H2 D (.lst [])) s3.heap.objs.size (cellsFrom (s3.heap.objs.size + 1) scope.names (cloFrom X.env.cells scope.names [])) fp
  show codeAny _ _ (.compStart (.ListComp elt [⟨tg, iter, ifs, 0⟩] scope pos) 0 (.ref it) (.ref D) (compEnvC scope (cellsFrom (s3.heap.objs.size + 1) scope.names (cloFrom X.env.cells scope.names [])) s3.heap.objs.size X.env)) (compEnds (model X.prog X.w) X.A X.xe use Qf (.ref D) (compEnvC scope (cellsFrom (s3.heap.objs.size + 1) scope.names (cloFrom X.env.cells scope.names [])) s3.heap.objs.size X.env)) { s3 with heap := pushCells (s3.heap.push { cls := .type "dict", data := .dict #[] }) scope.names }
  have nfp : ∀ b ∈ fp, (upd H2 D (.lst [])) b = none := fun b hb => (f3 b hb).1.1
  have ceF : (compEnvC scope (cellsFrom (s3.heap.objs.size + 1) scope.names (cloFrom X.env.cells scope.names [])) s3.heap.objs.size X.env).frame = X.env.frame := rfl
  generalize hce : compEnvC scope (cellsFrom (s3.heap.objs.size + 1) scope.names (cloFrom X.env.cells scope.names [])) s3.heap.objs.size X.env = ce at I4 pg pt pe ceF ⊢
  have cL : ce.locals = s3.heap.objs.size := by subst hce; rfl
  generalize hH3 : upd H2 D (.lst []) = H3 at I3 I4 pg pt pe w0 nfp f3
  generalize hs4 : ({ s3 with heap := pushCells (s3.heap.push { cls := .type "dict", data := .dict #[] }) scope.names } : Shared) = s4 at I4 ⊢
  have st4 : tn 0 s4.heap := T.keep _ _ _ st3 fun b _ o e => by rw [← hs4]; exact pushCells_keeps _ _ _ _ (Heap.get?_push_of_some _ e)
  -- the wish of the block
  generalize hxe : notedBy (model X.prog X.w) X.A ce (CompFails (model X.prog X.w) X.A X.xe ce) = xe
  have back : ∀ {σ' : L2.St} {H' : Hp} {s' : Shared} {pins' : List (Addr × Obj)}, Inv (X.blk s3 H3 scope ce fp) pins' σ' H' s' → Inv X pins σ H' s' ∧ FpOk X pins H' ce.locals ∧ ∃ m, s'.heap.Ns ce.locals m := fun {σ' H' s' pins'} I6 => by
    have nC : H' ce.locals = none := I6.free
    obtain ⟨m, hn, _⟩ := I6.loc
    refine ⟨I3.call' (ch := fp) I6.os I6.base I6.hok I6.bare fun b hb => ⟨(f3 b hb).1.2.2.2.1, (f3 b hb).1.2.1, (f3 b hb).1.2.2.2.2.1, (f3 b hb).1.2.2.2.2.2⟩, ?_, m, hn⟩
    rw [cL] at nC ⊢
    exact I3.fpOk (Nat.le_refl _) nC
  have passes : Passes (L2.CX X.prog X.w) ((X.blk s3 H3 scope ce fp).wish xe) E := fun pins' σ' H' s' e s'' I' c => by
    obtain ⟨i1, i2, i3⟩ := back I'.unwish
    show xe e s''
    rw [← hxe]
    exact blk_fails hs' hf tk i1 i2 i3 ceF rfl c
  have pg := pg xe
  have pt := pt xe
  have pe := pe xe passes
  have stat : ∀ {σ' : L2.St} {H' : Hp} {s' : Shared}, Inv (X.blk s3 H3 scope ce fp) [] σ' H' s' → (∀ b ∈ fp, H' b = none) → ∀ b ∈ fp, FpOk (X.blk s3 H3 scope ce fp) [] H' b := fun {σ' H' s'} I' hn b hb =>
    ⟨hn b hb, (I'.ok.exf b hb).1, I'.ok.exfs b hb, .inl hb, fun x c e => (I'.ok.exf b hb).2 x c e, fun p hp => absurd (show p ∈ ([] : List (Addr × Obj)) ++ [] from hp) (by simp)⟩
  have loop : codeAny (model X.prog X.w) X.A (.compLoop (.ListComp elt [⟨tg, iter, ifs, 0⟩] scope pos) 0 (.ref it) (.ref D) ce) (compEnds (model X.prog X.w) X.A X.xe use Qf (.ref D) ce) s4 := by
    have exe : (notedBy (model X.prog X.w) X.A ce fun e s' => compEnds (model X.prog X.w) X.A X.xe use Qf (.ref D) ce (.error e) s') = xe := by
      rw [← hxe]
      cases use <;> rfl
    refine compLoop_any (fun n s' => ∃ i H', Inv (X.blk s3 H3 scope ce fp) [] (wipe σ (own.map (·.2))) H' s' ∧ tn i s'.heap ∧ (∀ b ∈ fp, H' b = none) ∧ W i n H') ?_ m0 ⟨0, H3, I4, st4, nfp, w0⟩
    rw [exe]
    rintro n s5 ⟨i, H5, I5, st5, n5, w5⟩
    rcases turn i n H5 w5 with ⟨stop, qq⟩ | ⟨go, Nx, hNx, step⟩
    · have td := T.done (X.blk s3 H3 scope ce fp) rfl rfl rfl hc i [] s5 _ H5 (fun _ _ => False) I5 (stat I5 n5) st5 stop
      refine thnF td fun r s6 ⟨hr, I6⟩ => ?_
      subst hr
      obtain ⟨i1, i2, m, i3⟩ := back I6
      exact hRR D ce s6 m H5 i1 qq i3 i2
    · have ti := T.item (X.blk s3 H3 scope ce fp) rfl rfl rfl hc i [] s5 _ H5 (fun _ _ => False) I5 (stat I5 n5) st5 go
      refine thnF ti fun r s6 ⟨u, hr, h6⟩ => ?_
      subst hr
      refine thnF h6 fun _ s7 ⟨x, H7, I7, r7, y7, st7, n7⟩ => ?_
      have I7' := I7.pinned (stat I7 n7) (T.obj _ _ st7)
      refine thn (pg.run _ s7 _ H7 x u _ (I7'.wish xe) r7 (step x H7 y7)) fun _ s8 ⟨σ8, H8, I8, hw8, q8⟩ => ?_
      refine thn (pt.run _ s8 σ8 H8 _ I8 q8) fun b s9 ⟨H9, I9, q9⟩ => ?_
      have fin : ∀ {s' : Shared} {H' : Hp}, Inv (X.blk s3 H3 scope ce fp) ([] ++ pinsAt fp s7.heap) σ8 H' s' → Nx H' → ∃ m, m < n ∧ ∃ i H', Inv (X.blk s3 H3 scope ce fp) [] (wipe σ (own.map (·.2))) H' s' ∧ tn i s'.heap ∧ (∀ b ∈ fp, H' b = none) ∧ W i m H' := fun {s' H'} I' nx => by
        obtain ⟨m', hm, w'⟩ := hNx H' nx
        have pin' : ∀ b ∈ fp, ∀ o, s7.heap.get? b = some o → s'.heap.get? b = some o ∧ H' b = none := fun b hb o e =>
          let z := I'.pin (b, o) (List.mem_append_right _ (List.mem_append_right _ (mem_pinsAt hb e)))
          ⟨z.1, z.2.1⟩
        have hl : (wipe σ (own.map (·.2))).length = σ8.length := by rw [← hw8, wipe_length]
        refine ⟨m', hm, i + 1, H', (I'.unpinned (pins := [])).weak hl (fun j v e => ?_), T.keep _ _ _ st7 fun b hb o e => (pin' b hb o e).1, fun b hb => ?_, w'⟩
        · rw [← hw8] at e
          exact (wipe_some e).1
        · obtain ⟨o, e, _⟩ := T.obj _ _ st7 b hb
          exact (pin' b hb o e).2
      cases b with
      | false =>
        simp only [Bool.false_eq_true, if_false] at q9 ⊢
        exact fin I9.unwish q9
      | true =>
        simp only [if_true] at q9 ⊢
        refine thn (pe.run _ s9 σ8 H9 _ I9 q9) fun z s10 ⟨yv, H10, I10, r10, acc, hD10, hz10, nx⟩ => ?_
        exact app_ok (X := X.blk s3 H3 scope ce fp) I10.unwish hD10 hz10 r10 fun s11 I11 => fin I11 nx
  exact codeAny_compStart_list loop (T.self X.A 0 _ _ _ st4 loop)
/-- as a value -/
theorem pe_lcX {E : XK} {elt tg iter : Expr} {ifs : List Expr} {scope : Scope} {own : List (Str × Nat)} {pos : Pos} {wi : TI} {g : TG} {tt : TT} {te : TE} (hs' : X.stack = X.env :: X.outer) (hf : X.env.frame = some X.env.locals) (tk : Takes X (fun cls d _ H => E cls d H)) (hc : X.calm = true) (hN : X.N.Nodup) (hi : PI X tg iter wi) (ok : BlkOk X.N X.env.scope scope own)
    (hg : ∀ (s : Shared) (H : Hp) (C : Addr) (cl : List (Str × Addr)) (fp : List Addr) (xe : Value → Shared → Prop), PG ((X.blk s H scope (compEnvC scope cl C X.env) fp).wish xe) tg g) (ht : ∀ (s : Shared) (H : Hp) (C : Addr) (cl : List (Str × Addr)) (fp : List Addr) (xe : Value → Shared → Prop), PTs ((X.blk s H scope (compEnvC scope cl C X.env) fp).wish xe) ifs tt)
    (he : ∀ (s : Shared) (H : Hp) (C : Addr) (cl : List (Str × Addr)) (fp : List Addr) (xe : Value → Shared → Prop), Passes (L2.CX X.prog X.w) ((X.blk s H scope (compEnvC scope cl C X.env) fp).wish xe) E → PE ((X.blk s H scope (compEnvC scope cl C X.env) fp).wish xe) elt te) (hs : ∀ x, foldedSetIterable iter X.env x = pure x := by intro _; rfl) :
    PE X (.ListComp elt [⟨tg, iter, ifs, 0⟩] scope pos) (tLc wi g tt te (own.map (·.2))) := by
  refine ⟨fun pins s σ H Q I h => ?_⟩
  rw [eval_ListComp]
  refine lcX_core hs' hf tk hc hN I hi ok hg ht he hs h fun D ce s' m H' I' q hn f => ⟨m, hn, fun h'' sb => ?_⟩
  obtain ⟨f0, f1, f2, f3, f4, f5⟩ := f
  exact ⟨.ref D, H', I'.turned (t' := s'.toks) (fun b o hb e => (sb.2 b hb).trans e) f0 f1 f3 f4 f5, rfl, q⟩
theorem ps_setLcX {E : XK} {i : Nat} {y : Str} {py : Pos} {elt tg iter : Expr} {ifs : List Expr} {scope : Scope} {own : List (Str × Nat)} {pos spos : Pos} {wi : TI} {g : TG} {tt : TT} {te : TE} (hs' : X.stack = X.env :: X.outer) (hf : X.env.frame = some X.env.locals) (tk : Takes X (fun cls d _ H => E cls d H)) (hc : X.calm = true) (hN : X.N.Nodup) (hy : X.N[i]? = some y) (hyl : X.env.scope.names.lookup y = some .local)
    (hsw : swapsWith (.ListComp elt [⟨tg, iter, ifs, 0⟩] scope pos) (some (.Name y py)) spos.line X.env = pure true) (hi : PI X tg iter wi) (ok : BlkOk X.N X.env.scope scope own)
    (hg : ∀ (s : Shared) (H : Hp) (C : Addr) (cl : List (Str × Addr)) (fp : List Addr) (xe : Value → Shared → Prop), PG ((X.blk s H scope (compEnvC scope cl C X.env) fp).wish xe) tg g) (ht : ∀ (s : Shared) (H : Hp) (C : Addr) (cl : List (Str × Addr)) (fp : List Addr) (xe : Value → Shared → Prop), PTs ((X.blk s H scope (compEnvC scope cl C X.env) fp).wish xe) ifs tt)
    (he : ∀ (s : Shared) (H : Hp) (C : Addr) (cl : List (Str × Addr)) (fp : List Addr) (xe : Value → Shared → Prop), Passes (L2.CX X.prog X.w) ((X.blk s H scope (compEnvC scope cl C X.env) fp).wish xe) E → PE ((X.blk s H scope (compEnvC scope cl C X.env) fp).wish xe) elt te) (hs : ∀ x, foldedSetIterable iter X.env x = pure x := by intro _; rfl) :
    PS X (.Assign [.Name y py] (.ListComp elt [⟨tg, iter, ifs, 0⟩] scope pos) spos) (tAsg (tLc wi g tt te (own.map (·.2))) (gName i)) := by
  refine ⟨fun pins s σ H D I h => ?_⟩
  rw [exec_Assign_Name_used _ _ _ _ hsw]
  refine wpAny_bind (wpAny_standAt (wpAny_bind ?_))
  show wpAny _ X.A (do let _ ← comprehension (.ListComp elt [⟨tg, iter, ifs, 0⟩] scope pos) scope X.env (firstIterPos [⟨tg, iter, ifs, 0⟩] pos) (newList []) false (eval iter X.env) (some (assign (.Name y py) X.env))) _ _ s
  have h : tLc wi g tt te (own.map (·.2)) σ H (fun x H1 => gName i x σ H1 D.nx) := h
  refine wpAny_bind (thn (lcX_core (Qf := fun _ s' => SP X pins D .next s') hs' hf tk hc hN I hi ok hg ht he hs h fun L ce s' m H' I' q hn f => ?_) fun _ s' hq => wpAny_pure (wpAny_pure hq))
  show wpAny _ _ (assign (.Name y py) X.env (.ref L)) _ _ _
  refine wpAny_assign_Name (store_ok2 (v := V.ref L) I' hN hy (.inl hyl) rfl (fun s2 I2 ⟨a, sb, ha⟩ => ?_) (.inr hyl))
  obtain ⟨f0, f1, f2, f3, f4, f5⟩ := f
  have haC : ce.locals ≠ a := by
    rcases ha with z | z
    · rw [z]; exact f1
    · exact fun e => f4 y a z e.symm
  refine ⟨m, hn.sameBut sb haC, fun h3 sb3 => ?_⟩
  exact ⟨_, H', I2.turned (t' := s2.toks) (fun b o hb e => (sb3.2 b hb).trans e) f0 f1 f3 f4 f5, q⟩
end
end K20
/-! K20R2: try: .. except X as e: suite, where the suite keeps e beyond itself; isinstance of such a kept error. -/
namespace K20
open PySem PySem.Spec PyProof.Rows L2
/-- an exception object of the class cls, with own dict d, at a -/
def ExK (cls : Value) (d : Option Addr) (a : Addr) : HO := .ext fun h => ∃ (oe : Obj) (vs : Array Value), h.get? a = some oe ∧ Zc cls d oe ∧ oe.data = .fields vs
theorem exK_ok {P : Program} {w : World} {H : Hp} {h : Heap} {a : Addr} {cls : Value} {d : Option Addr} {oe : Obj} {vs : Array Value} (e : h.get? a = some oe) (z : Zc cls d oe) (hd : oe.data = .fields vs) : ObjOk P w H h a (ExK cls d a) :=
  ⟨⟨oe, vs, e, z, hd⟩, ⟨oe, e⟩, fun _ _ ⟨o, v, q, r⟩ k => ⟨o, v, k o q, r⟩⟩
section
variable {X : Cx} {pins : List (Addr × Obj)} {σ : L2.St} {H : Hp} {s : Shared}
/-- an object that stands untracked is tracked from now on -/
theorem track_ok {a : Addr} {o' : HO} (I : Inv X pins σ H s) (hn : H a = none) (h0 : X.s_0.heap.get? a = none) (nL : a ≠ X.env.locals) (nC : ∀ x c, X.env.cells.lookup x = some c → c ≠ a) (nP : ∀ p ∈ X.pn ++ pins, p.1 ≠ a)
    (new : ObjOk X.prog X.w (upd H a o') s.heap a o') : Inv X pins σ (upd H a o') s := by
  have ne : ∀ {b : Addr} {u : HO}, H b = some u → b ≠ a := fun {b u} e => ne_of_none e hn
  refine ⟨I.ok, I.os, I.bare, ⟨I.base.keep, I.base.slot, fun b o e n hx => ?_, I.base.there, fun b xs e => ?_, fun b o u e => ?_, fun b ps e => ?_⟩, I.loc, I.cell, ?_, fun x c e => ?_, fun p hp => ?_, fun b u e => ?_, I.len⟩
  · rw [upd_ne (fun z => by rw [z, h0] at e; cases e)]
    exact I.base.free b o e n hx
  · have q := I.base.tups b xs e
    rw [upd_ne (ne q)]
    exact q
  · have q := I.base.frzs b o u e
    rw [upd_ne (ne q)]
    exact q
  · obtain ⟨m, q⟩ := I.base.tbls b ps e
    exact ⟨m, by rw [upd_ne (ne q)]; exact q⟩
  · rw [upd_ne (Ne.symm nL)]
    exact I.free
  · rw [upd_ne (nC x c e)]
    exact I.freeC x c e
  · obtain ⟨e1, e2, e3⟩ := I.pin p hp
    exact ⟨e1, by rw [upd_ne (nP p hp)]; exact e2, e3⟩
  · by_cases hb : b = a
    · subst hb
      rw [upd_same] at e
      cases e
      exact new
    · rw [upd_ne hb] at e
      exact (I.hok b u e).stay (fun c v _ q => q) (fun c q => by rw [upd_ne (ne q)]; exact q) fun c xs q => by rw [upd_ne (ne q)]; exact q
end
/-- what the clause wishes of an exception of the body: slot i is its name's; behind the suite the error is a tracked thing -/
def wAsK (K : PySem.W.Frag) (c : Value) (i : Nat) (ts : Addr → Value → Option Addr → TS) (Wout : WX) (D : Ends) : WX := fun cls d σ H =>
  ∃ b, PySem.W.exmOne K cls c = some b ∧ (b = true → ∀ a, H a = none → ts a cls d { nx := fun σ' H' => H' a = none → D.nx (σ'.set i none) (upd H' a (ExK cls d a)), rt := fun _ _ => False, bk := fun _ _ => False, ct := fun _ _ => False } (σ.set i (some (.ref a))) H) ∧
    (b = false → Wout cls d σ H)
section
variable {X : Cx} {x n : Str} {c : Value} {i : Nat} {body suite : List Stmt} {b₀ : Stmt} {np pos pos' : Pos} {tb : WX → TS} {ts : Addr → Value → Option Addr → TS} {Wout : WX}
theorem ps_try_keep (hs : X.stack = X.env :: X.outer) (hf : X.env.frame = some X.env.locals) (hex : X.ex = []) (hN : X.N.Nodup) (hi : X.N[i]? = some n) (hln : X.env.kindOf n = some .local) (hc : Names X x c) (tk : Takes X Wout)
    (hb : ∀ (W : WX) (pn : List (Addr × Obj)) (xe : Value → Shared → Prop), Takes (X.tr pn xe) W → PassesOwn (model X.prog X.w) X.A X.env xe → PSs (X.tr pn xe) body (tb W))
    (hsu : ∀ (a : Addr) (oe : Obj) (cls : Value) (d : Option Addr) (pn : List (Addr × Obj)), Zc cls d oe → (∃ vs, oe.data = .fields vs) → PSs (X.suite a ((a, oe) :: pn)) (b₀ :: suite) (ts a cls d)) :
    PS X (.Try body [.ExceptHandler (some (.Name x np)) (some n) (b₀ :: suite) pos'] [] [] pos) (fun D σ H => tb (wAsK X.K c i ts Wout D) D σ H) := by
  refine ⟨fun pins s σ H D I h => ?_⟩
  have ok := I.ok
  have hfr : X.A.frames = some (X.env :: X.outer) := by rw [ok.frames, hs]
  have hloc : Loc X.env.scope n := .inl hln
  refine wpAny_Try_except ?_
  refine wpAny_mono ((hb (wAsK X.K c i ts Wout D) (X.pn ++ pins) (fun e s₁ => wpAny (model X.prog X.w) X.A (noteFrame e X.env) (fun _ s₂ => wpAny (model X.prog X.w) X.A (setFlight e none) (fun _ s₃ =>
    wpAny (model X.prog X.w) X.A (handleBy e X.env [.ExceptHandler (some (.Name x np)) (some n) (b₀ :: suite) pos']) (SP X pins D) X.xe s₃) X.xe s₂) X.xe s₁) (fun u s' xx => ?_) PassesOwn.looking).run [] s σ H D (I.toTry _) h) (fun f s1 hsp => ?_) (fun e s1 he => he)
  · -- the catch
    obtain ⟨a, B, sI, pins', σ', H', cls, d, rfl, J', nb, up, sky, na, os, ag, b, hb1, hyes, hno⟩ := xx
    have J : Inv X pins σ' H' sI := J'.ofTry ok
    have sky' : Sky B (X.env :: X.outer) a (Zc cls d) X.env.locals s'.heap := by rw [← hs]; exact sky
    have hBa : B.get? a = none := by
      rcases sky' with z | z | z
      · exact z.2.1
      · exact z.2.1
      · exact z.2.1
    show wpAny (model X.prog X.w) X.A (noteFrame (.ref a) X.env) _ _ _
    refine Sky.land Zc.steady hfr hf sky' fun h3 fl3 up3 => ?_
    have J3 : Inv X pins σ' H' { s' with heap := h3 } := J.landed nb fl3.1 (up.trans up3) os ag
    obtain ⟨oe3, vs3, he3, hz3, hd3⟩ := fl3.there
    have notFr : ∀ {h : Heap} {o : Obj} {vs : Array Value}, h.FunFrames B (X.env :: X.outer) → h.get? a = some o → o.data = .fields vs → a ∉ frs (X.env :: X.outer) := fun {h o vs} ff e dd hm => by
      obtain ⟨_, o', e', hnf⟩ := ff.mem hm
      rw [e] at e'; cases e'
      exact hnf _ dd
    have nfr := notFr fl3.2.2.1 he3 hd3
    have nL : a ≠ X.env.locals := fun z => nfr (List.mem_filterMap.mpr ⟨X.env, List.mem_cons_self, by rw [hf, z]⟩)
    have nF : a ∉ X.fs := fun hm => by
      obtain ⟨e, he, q⟩ := List.mem_filterMap.mp hm
      exact nfr (List.mem_filterMap.mpr ⟨e, List.mem_cons_of_mem _ he, q⟩)
    -- the error is new: it did not stand at the entry, it is none of the records
    have nIn : ∀ o, sI.heap.get? a = some o → False := fun o e => by
      have q := nb a o e (by rw [hs]; exact nfr)
      rw [hBa] at q
      cases q
    have n0 : X.s_0.heap.get? a = none := by
      cases e : X.s_0.heap.get? a with
      | none => rfl
      | some o =>
        obtain ⟨o', q⟩ := J.base.there a o e (by rw [hex]; exact fun z => nomatch z)
        exact (nIn o' q).elim
    have nP : ∀ p ∈ X.pn ++ pins, p.1 ≠ a := fun p hp z => by
      have q := (J.pin p hp).1
      rw [z] at q
      exact nIn _ q
    have S3 := J3.suite he3 hd3 na nL nF
    refine wpAny_handleBy_cons (codeAny_handlers_test ?_) (by intro q; cases q)
    have LT : PySem.W.Looks (model X.prog X.w) h3 (typeOf (.ref a)) cls := fun A Q E s k q => wpAny_typeOf_ref (k _ _ he3) (by rw [hz3.1]; exact q)
    have LM := PySem.W.exm_one (M := model X.prog X.w) (J3.kIn) LT hb1
    have test : ∀ {Q : Value → Shared → Prop} {E : Value → Shared → Prop}, Q c { s' with heap := h3 } → wpAny (model X.prog X.w) (X.A.mark (some (.ref a))) (eval (.Name x np) X.env) Q E { s' with heap := h3 } := fun {Q E} q => by
      obtain ⟨hg, hdbg, hm | ⟨hm, hv, hnn⟩⟩ := hc
      · exact ld_glob (X := X.suite a ((a, oe3) :: (X.pn ++ pins))) S3 hg hm q hdbg
      · exact ld_blt (X := X.suite a ((a, oe3) :: (X.pn ++ pins))) S3 hg hm hv q hnn hdbg
    refine test (LM.here ?_)
    cases b with
    | true =>
      refine codeAny_handlers_suite_as ?_
      refine HandSPX.lands_againZ fl3 fun h4 fl4 up4 => ?_
      have J4 : Inv X pins σ' H' { s' with heap := h4 } := J.landed nb fl4.1 ((up.trans up3).trans up4) os ag
      obtain ⟨oe4, vs4, he4, hz4, hd4⟩ := fl4.there
      have S4 := J4.suite he4 hd4 na nL nF
      refine store_ok (X := X.suite a ((a, oe4) :: (X.pn ++ pins))) (v := .ref a) S4 hN hi hloc rfl (fun s5 S5 => ?_) (.inr hln)
      refine wpAny_mono ((hsu a oe4 cls d (X.pn ++ pins) hz4 ⟨_, hd4⟩).run [] s5 _ H' _ S5 (hyes rfl a na)) (fun f s6 hsp => ?_) (fun _ _ z => False.elim z)
      cases f with
      | next =>
        obtain ⟨σ6, H6, S6, q6⟩ := hsp
        refine gone_ok (X := X.suite a ((a, oe4) :: (X.pn ++ pins))) S6 hN hi hln fun s7 S7 => ?_
        obtain ⟨p1, p2, _⟩ := S7.pin (a, oe4) (List.mem_append.mpr (.inl List.mem_cons_self))
        have J7 : Inv X pins (σ6.set i none) H6 s7 := S7.unsuite ok
        refine ⟨_, _, track_ok J7 p2 n0 nL (fun y cc e z => ?_) nP (exK_ok p1 hz4 hd4), q6 p2⟩
        obtain ⟨v, o, ho, hdd⟩ := J7.cell y cc e
        rw [z, p1] at ho
        cases ho
        rw [hd4] at hdd
        cases hdd
      | brk =>
        obtain ⟨σ6, H6, S6, q6⟩ := hsp
        exact q6.elim
      | cont =>
        obtain ⟨σ6, H6, S6, q6⟩ := hsp
        exact q6.elim
      | ret u =>
        obtain ⟨v6, σ6, H6, S6, r6, q6⟩ := hsp
        exact q6.elim
    | false =>
      show wpAny _ X.A (handleBy (.ref a) X.env []) _ _ _
      refine wpAny_handleBy_nil ?_
      obtain ⟨k1, k2, k3, oe, vs, T, oT, ts', he, hz, hd, h1, hr⟩ := id fl3
      unfold PySem.passOn
      refine wpAny_bind (wpAny_field he hd h1 ?_)
      rw [if_neg (show ¬ ((Value.ref T == Value.none) = true) from by simp)]
      have fin : wpAny (model X.prog X.w) X.A (setFlight (.ref a) X.env.frame) (fun _ s4 => wpAny (model X.prog X.w) X.A (throw (.ref a) : Sem Flow) (SP X pins D) X.xe s4) X.xe { s' with heap := h3 } := by
        rw [hf]
        refine HandSPX.setFlight_upZ fl3 fun h4 hh4 up4 => wpAny_throw (tk _ _ ?_)
        exact ⟨a, B, sI, pins, σ', H', cls, d, rfl, J, nb, (up.trans up3).trans up4, .inr (.inr (by rw [hs]; exact hh4)), na, os, ag, hno rfl⟩
      first
        | exact wpAny_bind (wpAny_pure (wpAny_bind fin))
        | exact wpAny_bind fin
  · cases f with
    | next =>
      obtain ⟨σ', H', J', q⟩ := hsp
      exact wpAny_execs_nil ⟨σ', H', J'.ofTry ok, q⟩
    | brk =>
      obtain ⟨σ', H', J', q⟩ := hsp
      exact ⟨σ', H', J'.ofTry ok, q⟩
    | cont =>
      obtain ⟨σ', H', J', q⟩ := hsp
      exact ⟨σ', H', J'.ofTry ok, q⟩
    | ret u =>
      obtain ⟨v, σ', H', J', r, q⟩ := hsp
      exact ⟨v, σ', H', J'.ofTry ok, r, q⟩
end
/-- isinstance(e, c), e a kept error -/
def rIsK (K : PySem.W.Frag) : List V → Hp → VK → Prop := fun xs H Q => ∃ (a D : Addr) (c : V) (cv : Value) (b : Bool), xs = [.ref a, c] ∧ H a = some (ExK (.ref D) none a) ∧ ExcC K D ∧ (∀ u, RelV c u → u = cv) ∧ PySem.W.kitOne K (.ref D) cv = some b ∧ Q (.bl b) H
theorem call_isK {X : Cx} : CallR X (.builtin "isinstance") (rIsK X.K) := by
  intro pins s σ H xs us Q I r h
  obtain ⟨a, D, c, cv, b, rfl, hH, C, hcv, e, q⟩ := h
  cases r with
  | cons rx rr =>
    cases rr with
    | cons rt rr =>
      cases rr
      cases rx
      have ec := hcv _ rt
      subst ec
      obtain ⟨⟨oe, vs, hget, hz, hv⟩, _⟩ := (show ObjOk X.prog X.w H s.heap a (ExK (.ref D) none a) from I.hok a _ hH)
      have J : PySem.W.InstAt s.heap a oe D none := by
        obtain ⟨oc, od, oda, osl⟩ := oe
        obtain ⟨h1, h2⟩ := hz
        dsimp only at h1 h2 hv
        subst h1 h2 hv
        exact ⟨hget, rfl, rfl, trivial⟩
      exact PySem.W.kia_one (PySem.W.handS_kitx_exc C.hg C.hk C.hs C.hd C.ha C.hn C.ht C.hm) I.kIn J e (fun z => nomatch z) fun tk => ⟨.bl b, H, I.kept (t' := tk) fun _ _ z => z, rfl, q⟩
end K20
/-! K20R3: dicts with keys (an int, a bool); text * int; max of three ints; list.count of a bool; methods and instances by promises. -/
namespace K20
open PySem PySem.Spec PyProof.Rows L2
/-! ### dicts whose keys are pairs of an int and a bool -/
abbrev DKey := Int × Bool
def keyL (k : DKey) : List Leaf := [.num k.1, .num (if k.2 then 1 else 0)]
theorem keyL_inj {a b : DKey} (h : keyL a = keyL b) : a = b := by
  obtain ⟨i, x⟩ := a
  obtain ⟨j, y⟩ := b
  unfold keyL at h
  injection h with h1 h2
  injection h1 with h1
  injection h2 with h2 _
  injection h2 with h2
  have e1 : i = j := h1
  subst e1
  cases x <;> cases y <;> first | rfl | (simp at h2)
abbrev DEnt := DKey × Addr × V
/-- what the dict holds at a key -/
def atE (es : List DEnt) (k : DKey) : Option V := (es.find? fun e => decide (e.1 = k)).map (·.2.2)
abbrev KR (es : List DEnt) (xs : List (List Leaf × Addr × Value)) : Prop := Paired (fun (p : DEnt) (q : List Leaf × Addr × Value) => keyL p.1 = q.1 ∧ p.2.1 = q.2.1 ∧ RelV p.2.2 q.2.2) es xs
/-- the dict at d: its keys, where their tuples stand, its values -/
def KDo (P : Program) (w : World) (d : Addr) (es : List DEnt) : HO := .ext fun h => es.length ≤ 1000000 ∧ (d == sysModules) = false ∧ ∃ xs, KR es xs ∧
  ∃ o arr ep, h.get? d = some o ∧ o.ExactDict ∧ o.data = .dict arr ep ∧ arr.toList = xs.map (entryOfKey (tupleKind (leafKind P w))) ∧ (xs.map (·.1)).Nodup
/-- the keys' tuples stand -/
def KTup (H : Hp) (es : List DEnt) : Prop := ∀ e ∈ es, H e.2.1 = some (.tup [.int e.1.1, .bl e.1.2])
theorem kdo_ok {P : Program} {w : World} {H : Hp} {h : Heap} {d : Addr} {es : List DEnt} (z : es.length ≤ 1000000) (hd : (d == sysModules) = false) {xs : List (List Leaf × Addr × Value)} (r : KR es xs) {o : Obj} {arr : Array DictEntry} {ep : Nat}
    (h1 : h.get? d = some o) (h2 : o.ExactDict) (h3 : o.data = .dict arr ep) (h4 : arr.toList = xs.map (entryOfKey (tupleKind (leafKind P w)))) (h5 : (xs.map (·.1)).Nodup) : ObjOk P w H h d (KDo P w d es) :=
  ⟨⟨z, hd, xs, r, o, arr, ep, h1, h2, h3, h4, h5⟩, ⟨o, h1⟩, fun _ _ ⟨z, hd, xs, r, o, arr, ep, h1, q⟩ k => ⟨z, hd, xs, r, o, arr, ep, k o h1, q⟩⟩
theorem leafb_is (P : Program) (w : World) (b : Bool) : (leafKind P w).is (.num (if b then 1 else 0)) (.bool b) = true := by
  cases b <;> rfl
theorem leafi_is (P : Program) (w : World) (i : Int) (t : Tok) : (leafKind P w).is (.num i) (.int i t) = true := by
  show Leaf.isOf (.num i) (.int i t) = true
  simp [Leaf.isOf, Value.isInt]
theorem key_is {P : Program} {w : World} {H : Hp} {h : Heap} {b : Addr} {k : DKey} (ok : HOk P w H h) (e : H b = some (.tup [.int k.1, .bl k.2])) : (tupleKind (leafKind P w)).is h (keyL k) b := by
  obtain ⟨_, its, r, o, h1, h2, n, h3⟩ := (show ObjOk P w H h b (.tup [.int k.1, .bl k.2]) from ok b _ e)
  refine ⟨o, its.toArray, n, h1, h2, h3, ?_⟩
  cases r with
  | cons r1 r2 =>
    cases r2 with
    | cons r3 r4 =>
      cases r4
      obtain ⟨t, rfl⟩ := r1
      cases r3
      exact .cons (leafi_is P w _ _) (.cons (leafb_is P w _) .nil)
theorem kd_of {P : Program} {w : World} {H : Hp} {h : Heap} {d : Addr} {es : List DEnt} (ok : HOk P w H h) (e : H d = some (KDo P w d es)) (kt : KTup H es) : es.length ≤ 1000000 ∧ (d == sysModules) = false ∧
    ∃ xs, KR es xs ∧ h.DictOfH (tupleKind (leafKind P w)) d xs := by
  obtain ⟨⟨z, hd, xs, r, o, arr, ep, h1, h2, h3, h4, h5⟩, _⟩ := (show ObjOk P w H h d (KDo P w d es) from ok d _ e)
  refine ⟨z, hd, xs, r, o, arr, ep, h1, h2, h3, h4, ?_, h5⟩
  have all : ∀ {l : List DEnt} {m : List (List Leaf × Addr × Value)}, KR l m → KTup H l → ∀ x ∈ m, (tupleKind (leafKind P w)).is h x.1 x.2.1 := by
    intro l m q
    induction q with
    | nil => intro _ x hx; exact nomatch hx
    | @cons p q ps qs hq t ih =>
      intro hk x hx
      rcases List.mem_cons.mp hx with e | hx
      · subst e
        rw [← hq.1, ← hq.2.1]
        exact key_is ok (hk p List.mem_cons_self)
      · exact ih (fun y hy => hk y (List.mem_cons_of_mem _ hy)) x hx
  exact all r kt
theorem kr_val {es : List DEnt} {xs : List (List Leaf × Addr × Value)} (r : KR es xs) (k : DKey) : RelO (atE es k) ((atKey xs (keyL k)).map (·.2)) := by
  induction r with
  | nil => exact True.intro
  | @cons p q ps qs h t ih =>
    obtain ⟨h1, _, h2⟩ := h
    by_cases e : p.1 = k
    · have e' : q.1 = keyL k := by rw [← h1, e]
      have b : atKey (q :: qs) (keyL k) = some q.2 := by simp [atKey, List.find?_cons, e']
      have c : atE (p :: ps) k = some p.2.2 := by simp [atE, List.find?_cons, e]
      rw [b, c]
      exact h2
    · have e' : ¬ q.1 = keyL k := fun z => e (keyL_inj (h1.trans z))
      have b : atKey (q :: qs) (keyL k) = atKey qs (keyL k) := by simp [atKey, List.find?_cons, e']
      have c : atE (p :: ps) k = atE ps k := by simp [atE, List.find?_cons, e]
      rw [b, c]
      exact ih
theorem relO_getD {o : Option V} {u : Option Value} (r : RelO o u) : RelV (o.getD .non) (u.getD .none) := by
  cases o with
  | none =>
    cases u with
    | none => rfl
    | some v => exact False.elim r
  | some v =>
    cases u with
    | none => exact False.elim r
    | some v => exact r
section
variable {X : Cx} {pos apos cpos : Pos} {o e i value : Expr} {to te tv : TE}
def tKNew (P : Program) (w : World) : TE := fun _ H Q => ∀ d, H d = none → Q (.ref d) (upd H d (KDo P w d []))
theorem pe_knew : PE X (.Dict [] [] pos) (tKNew X.prog X.w) := ⟨fun pins s σ H Q I h =>
  wpAny_Dict_empty ⟨.ref s.heap.objs.size, _, I.laid (a := s.heap.objs.size) (o := KDo X.prog X.w s.heap.objs.size []) (t' := s.toks) (fun _ _ q => Heap.get?_push_of_some _ q) (Nat.le_refl _)
    (kdo_ok (Nat.zero_le _) (beq_eq_false_iff_ne.mpr (Ne.symm (Nat.ne_of_lt I.big))) .nil (Heap.get?_push_size _ rfl) ⟨rfl, rfl, rfl⟩ rfl rfl List.nodup_nil), rfl, h _ (I.hok.fresh (Nat.le_refl _))⟩⟩
/-- d.get((i, b)) -/
def tKGet (P : Program) (w : World) (to te : TE) : TE := fun σ H Q => to σ H fun x H1 => ∃ d, x = .ref d ∧ (∃ es, H1 d = some (KDo P w d es)) ∧ te σ H1 fun y H2 => ∃ es k b, y = .ref b ∧ H2 d = some (KDo P w d es) ∧ KTup H2 es ∧ H2 b = some (.tup [.int k.1, .bl k.2]) ∧ Q ((atE es k).getD .non) H2
theorem pe_kget (hu : X.A.units + 1 < cLine) (ho : PE X o to) (he : PE X e te) (m : M1 X o "get" apos e cpos := by exact ⟨rfl, rfl, rfl, rfl⟩) : PE X (.Call (.Attribute o "get" apos) [e] [] cpos) (tKGet X.prog X.w to te) := by
  refine ⟨fun pins s σ H Q I h => ?_⟩
  refine wpAny_Call_method m.base m.few m.line PySem.F.plainAttrs_dict PySem.F.slot_dict_get PySem.F.type_dict_get (thn (ho.run pins s σ H _ I h) fun u s1 ⟨x, H1, I1, rx, d, ex, ⟨es0, hd0⟩, q1⟩ => ?_)
  subst ex
  obtain rfl : u = Value.ref d := rx
  obtain ⟨⟨_, _, _, _, ob, arr, ep, h1, h2, _⟩, _⟩ := (show ObjOk X.prog X.w H1 s1.heap d (KDo X.prog X.w d es0) from I1.hok d _ hd0)
  refine ⟨⟨ob, h1, h2.1⟩, fun a ea => ⟨ob, by cases ea; exact h1, h2.2.1⟩, ?_⟩
  rw [m.trees]
  refine Calls.callWith_builtin rfl (Calls.evalArgs_plain (Calls.spliced_cons (thn (he.run pins s1 σ H1 _ I1 q1) fun iv s2 ⟨y, H2, I2, ry, es, k, b, ey, hd, kt, hb, q2⟩ => Calls.spliced_nil ?_)))
  subst ey
  cases (show iv = Value.ref b from ry)
  obtain ⟨z, hs, xs, rel, dd⟩ := kd_of I2.hok hd kt
  refine call_meetsIn PySem.F.slot_dict_get dd.typeIs PySem.F.entry_dict_get (PySem.F.args_dict_get_2 _ _) (meetsH_dict_get (tupleKind (leafKind X.prog X.w)) d b hs) ⟨tupleKind_room_in1 hu, keyL k, xs, key_is I2.hok hb, dd, ⟨_, H2, I2.tok _, relO_getD (kr_val rel k), q2⟩⟩
/-- d[(i, b)] = v, a key that isn't there -/
def tKPut (P : Program) (w : World) (to te tv : TE) : TS := fun D σ H => tv σ H fun v H1 => to σ H1 fun x H2 => te σ H2 fun y H3 => ∃ d es k b, x = .ref d ∧ y = .ref b ∧ H3 d = some (KDo P w d es) ∧ KTup H3 es ∧ H3 b = some (.tup [.int k.1, .bl k.2]) ∧ atE es k = none ∧ es.length < 1000000 ∧
  D.nx σ (upd H3 d (KDo P w d (es ++ [(k, b, v)])))
theorem ps_kput (hu : X.A.units + 1 < cLine) (ho : PE X o to) (hi : PE X i te) (hv : PE X value tv) (hs : swapsWith value (some (.Subscript o i cpos)) pos.line X.env = pure false) :
    PS X (.Assign [.Subscript o i cpos] value pos) (tKPut X.prog X.w to te tv) := by
  refine ⟨fun pins s σ H D I h => ?_⟩
  refine wpAny_Assign_Subscript (thn (hv.run pins s σ H _ I h) fun r s1 ⟨v, H1, I1, rv, q1⟩ => thn (ho.run pins s1 σ H1 _ I1 q1) fun u s2 ⟨x, H2, I2, rx, q2⟩ => thn (hi.run pins s2 σ H2 _ I2 q2) fun iv s3 ⟨y, H3, I3, ry, d, es, k, b, ex, ey, hd, kt, hb, hno, hlt, q3⟩ => ?_) hs
  subst ex ey
  obtain rfl : u = Value.ref d := rx
  cases (show iv = Value.ref b from ry)
  obtain ⟨z, hsy, xs, rel, dd⟩ := kd_of I3.hok hd kt
  have hz : xs.length ≤ sizeLine := by
    rw [← Paired.length rel, sizeLine_eq]
    omega
  have hk : atKey xs (keyL k) = none := by
    have q := kr_val rel k
    rw [hno] at q
    cases e : atKey xs (keyL k) with
    | none => rfl
    | some p =>
      rw [e] at q
      exact False.elim q
  refine wpAny_setItem_heap (hsz := hz) (tupleKind_room_in1 hu) (key_is I3.hok hb) dd fun h' dd' sb => ?_
  rw [storedH_new hk] at dd'
  obtain ⟨q, arr, ep, hq, h2, h3, h4, _, h5⟩ := dd'
  refine ⟨σ, _, d_write I3 (by rw [hd]; exact True.intro) sb ⟨q, hq⟩ (kdo_ok (by rw [List.length_append]; exact hlt) hsy (Paired.snoc rel ⟨rfl, rfl, rv⟩) hq h2 h3 h4 h5), q3⟩
/-! ### text * int -/
def rRepS : R2 := fun x y H Q => ∃ (z : Str) (n : Int), x = .str z ∧ y = .int n ∧ z.length ≤ 1000 ∧ 0 ≤ n ∧ n ≤ 10000 ∧ Q (.str (Txt.mul z n)) H
theorem op_rep_str : OpR X (binaryOp .Mult) rRepS := by
  intro pins s σ H x y v u Q I rx ry h
  obtain ⟨z, n, rfl, rfl, hz, h0, h1, q⟩ := h
  obtain ⟨t, rfl⟩ := rx
  obtain ⟨t', rfl⟩ := ry
  refine SB.mul ⟨?_, fun a b => ?_, fun a b => ?_⟩ (fun t' k => ⟨.str (Txt.mul z n), H, I.tok _, ⟨_, rfl⟩, q⟩)
  · have e1 : decide (n < -(2 ^ 63 : Int)) = false := decide_eq_false (by omega)
    have e2 : decide (n ≥ 2 ^ 63) = false := decide_eq_false (by omega)
    rw [e1, e2]
    rfl
  · have hn : (0 : Int) < n := by omega
    have hq : (1000 : Int) ≤ (2 ^ 63 - 1) / n := by
      rw [Int.le_ediv_iff_mul_le hn]
      omega
    omega
  · have hm : z.length * n.toNat ≤ 1000 * 10000 := Nat.mul_le_mul hz (by omega)
    unfold Builtin.Str.tooLong
    simp only [sizeLine_eq]
    exact decide_eq_false (by omega)
/-! ### max(i, j, k) -/
theorem call_max3 (hc : X.calm = true) : CallR X (.builtin "max") (fun xs H Q => ∃ i j k : Int, xs = [.int i, .int j, .int k] ∧ Q (.int (max (max i j) k)) H) := by
  intro pins s σ H xs us Q I r h
  obtain ⟨i, j, k, rfl, q⟩ := h
  cases r with
  | cons r1 r =>
    cases r with
    | cons r2 r =>
      cases r with
      | cons r3 r =>
        cases r
        obtain ⟨t1, rfl⟩ := r1
        obtain ⟨t2, rfl⟩ := r2
        obtain ⟨t3, rfl⟩ := r3
        refine max_three_ints (I.ok.hd hc) fun h' tk k' => ⟨_, H, I.kept k', ?_, q⟩
        by_cases c1 : j > i
        · rw [if_pos c1]
          by_cases c2 : k > j
          · rw [if_pos c2, show max (max i j) k = k by omega]
            exact ⟨_, rfl⟩
          · rw [if_neg c2, show max (max i j) k = j by omega]
            exact ⟨_, rfl⟩
        · rw [if_neg c1]
          by_cases c2 : k > i
          · rw [if_pos c2, show max (max i j) k = k by omega]
            exact ⟨_, rfl⟩
          · rw [if_neg c2, show max (max i j) k = i by omega]
            exact ⟨_, rfl⟩
/-! ### xs.count(True) -/
theorem count_eqU {y : V} : ∀ {ys : List V} {us : List Value}, Vals ys us → ys.all flatV = true → us.countP (eqU y) = ys.countP fun z => eqV z y
  | _, _, .nil, _ => rfl
  | _, _, .cons r t, f => by
    rw [List.all_cons, Bool.and_eq_true] at f
    rw [List.countP_cons, List.countP_cons, count_eqU t f.2, eqU_of r f.1]
def rCntV (K : PySem.W.Frag) : V → List V → Hp → VK → Prop := fun x xs H Q => ∃ (p : Addr) (ys : List V) (y : V), x = .ref p ∧ xs = [y] ∧ SqL K H p ys ∧ flatV y = true ∧ ys.all flatV = true ∧ Q (.int ((ys.countP fun z => eqV z y : Nat) : Int)) H
theorem mt_countB : MtR X "list.count" (rCntV X.K) := by
  intro pins s σ H x xs v us Q I rx rxs h
  obtain ⟨p, ys, y, rfl, rfl, hs, fy, fys, q⟩ := h
  cases rx
  obtain ⟨u, rfl, ry⟩ := rxs.one
  obtain ⟨its, rv, ⟨⟨cls, dd, data, sl⟩, n, ho, hc, hdn, hd⟩, hlen⟩ := I.list hs
  simp only at hc hd
  subst hc hd
  refine call_meets PySem.F.slot_list_count ⟨_, ho, rfl⟩ PySem.F.entry_list_count (PySem.F.args_list_count_2 _ _)
    (SeqAt.list_countAt p its.toArray n dd sl u (eqU y)) ⟨ho, fun z hz => mem_eqAt ry fy rv fys z (by simpa using hz), ?_⟩
  refine ⟨.int _, H, I.tok _, ⟨s.toks, ?_⟩, q⟩
  show Value.int ((its.toArray.toList.countP (eqU y) : Nat) : Int) s.toks = Value.int _ s.toks
  rw [show its.toArray.toList = its by simp, count_eqU rv fys]
end
/-! ### methods and instances by promises -/
def OkM (P : Program) (w : World) (K : PySem.W.Frag) (mg : Str → Option Value) (base : Heap) (CX : CXT) (k : Nat) (C : Addr) (m : Str) (ps : List Str) (sp : Sp) : Prop :=
  ∃ f fd, FnOk P w K mg base CX k f fd ps sp ∧ Meth K C m f ∧ Binds K fd ps []
def OkI (P : Program) (w : World) (K : PySem.W.Frag) (mg : Str → Option Value) (base : Heap) (CX : CXT) (k : Nat) (C : Addr) (ps : List Str) (sp : Sp) : Prop :=
  ∃ f fd, FnOk P w K mg base CX k f fd ps sp ∧ Mk K C f ∧ Binds K fd ps []
def tMethO (C : Addr) (m : Str) (sp : Sp) (E : XK) (ta : TE) (t : TA) : TE := fun σ H Q => ta σ H fun x H1 => ∃ a dx fs, x = .ref a ∧ H1 a = some (.ins C dx fs) ∧ fs.lookup m = none ∧ t σ H1 fun vs H2 => sp (x :: vs) H2 Q E
def tMakeO (C : Addr) (sp : Sp) (E : XK) (t : TA) : TE := fun σ H Q => t σ H fun vs H1 => ∀ x dx, H1 x = none → H1 dx = none → dx ≠ x → sp (.ref x :: vs) (upd (upd H1 dx (.own x)) x (.ins C dx [])) (fun v H2 => v = .non ∧ Q (.ref x) H2) E
section
variable {X : Cx} {CX : CXT} {k : Nat} {C : Addr} {ps : List Str} {sp : Sp} {E : XK} {x m : Str} {p pos apos : Pos} {e o : Expr} {es : List Expr} {ta : TE} {t : TA}
theorem pe_methO {pl : Sem Bool} (he : PE X o ta) (c : Cls X.K C) (O : OkM X.prog X.w X.K X.mg X.base CX k C m ps sp) (hr : Room k X.A) (hx : Passes CX X E) (ha : PA X (e :: es) t)
    (hst : starEach (e :: es) X.env = (false, eval e X.env) :: starEach es X.env := by rfl) (hpl : (backTo pos (starEach es X.env)).any (·.1) = false := by rfl)
    (ht : eval (.Call (.Attribute o m apos) (e :: es) [] pos) X.env = (do
      let ov ← eval o X.env
      standAt apos.atName
      let (f, first) ← holding [ov] (getMethod ov m pl)
      callWith pos f first (backTo pos (starEach (e :: es) X.env)) (backToKw pos (keywordEach [] X.env))) := by rfl) :
    PE X (.Call (.Attribute o m apos) (e :: es) [] pos) (tMethO C m sp E ta t) := by
  obtain ⟨f, fd, F, hm, hb⟩ := O
  have z := pe_meth (pl := pl) (dvs := []) he c hm F hr hb .nil hx ha hst hpl ht
  have et : tMeth C m sp [] E ta t = tMethO C m sp E ta t := by
    unfold tMeth tMethO
    simp only [List.append_nil]
  rw [et] at z
  exact z
theorem pe_makeO (O : OkI X.prog X.w X.K X.mg X.base CX k C ps sp) (hr : Room (k + 1) X.A) (hm : X.mg x = some (.ref C)) (hx : Passes CX X E) (ha : PA X (e :: es) t) (hg : Gl X x := by rfl)
    (hdb : (x == ("__debug__" : Str)) = false := by decide) (he : starEach (e :: es) X.env = (false, eval e X.env) :: starEach es X.env := by rfl) (hpl : (backTo pos (starEach es X.env)).any (·.1) = false := by rfl) :
    PE X (.Call (.Name x p) (e :: es) [] pos) (tMakeO C sp E t) := by
  obtain ⟨f, fd, F, M, hb⟩ := O
  have z := pe_make (p := p) (pos := pos) (x := x) (dvs := []) M F hr hg hm hb .nil hx ha hdb he hpl
  have et : tMake C sp [] E t = tMakeO C sp E t := by
    unfold tMake tMakeO
    simp only [List.append_nil]
  rw [et] at z
  exact z
end
end K20
/-! K20B: records on the heap; is_answer; the class Steps; steps_of. -/
namespace K20
open PySem PySem.Spec PyProof.Rows L2
/-! ### rules within a comprehension: the reading names K, so that it holds no name of the block -/
section
variable {X : Cx} {e a b : Expr} {ta tb : TE} {f : Str} {pos : Pos}
theorem pe_fldK (K : PySem.W.Frag) (hK : X.K = K) (he : PE X e ta) (hb : attributeBase e f X.env (eval e X.env) = eval e X.env) : PE X (.Attribute e f pos) (tFld K ta f) := by
  subst hK
  exact pe_fld he hb
theorem ix_listK (K : PySem.W.Frag) (hK : X.K = K) : IxR X (rIxL K) := by
  subst hK
  exact ix_list
theorem ix_tupK (K : PySem.W.Frag) (hK : X.K = K) : IxR X (rIxT K) := by
  subst hK
  exact ix_tup
theorem pg_tupK {es : List Expr} {k : Nat} {t : TGs} {n : Nat} (K : PySem.W.Frag) (hK : X.K = K) (hc : X.calm = true) (h : PGs X es t)
    (hn : (assignEach es X.env).length = n := by rfl) (hst : (assignEach es X.env).findIdx? (·.1) = none := by rfl) : PG X (.Tuple es k pos) (gTup K n t) := by
  subst hK
  exact pg_tup hc h hn hst
end
/-! ### records -/
def LogAt (H : Hp) (l : Addr) (log : List Qu) : Prop := ∃ ts : List Addr, H l = some (.lst (ts.map V.ref)) ∧ ts.length = log.length ∧ ∀ (i : Nat) (t : Addr) (q : Qu), ts[i]? = some t → log[i]? = some q → H t = some (.tup [.int q.1, .int q.2.1, .bl q.2.2])
def RecAt (H : Hp) (p : Addr) (r : Rec) : Prop := ∃ l, H p = some (.tup [.int r.1, .ref l, .bl r.2.2]) ∧ LogAt H l r.2.1
theorem LogAt.same {H H' : Hp} {l : Addr} {log : List Qu} (h : LogAt H l log) (e : Same H H') : LogAt H' l log := by
  obtain ⟨ts, h1, h2, h3⟩ := h
  exact ⟨ts, e _ _ h1, h2, fun i t q a b => e _ _ (h3 i t q a b)⟩
theorem RecAt.same {H H' : Hp} {p : Addr} {r : Rec} (h : RecAt H p r) (e : Same H H') : RecAt H' p r := by
  obtain ⟨l, h1, h2⟩ := h
  exact ⟨l, e _ _ h1, h2.same e⟩
theorem atI_int {α : Type} {xs : List α} {x : Int} {v : α} (h : 0 ≤ x) (e : xs[x.toNat]? = some v) : atI xs x = some v := by
  have l := get_lt e
  unfold atI ixN
  rw [if_pos h, if_pos (by omega)]
  exact e
theorem atI_nat {α : Type} {xs : List α} {x : Nat} {v : α} (e : xs[x]? = some v) : atI xs (x : Int) = some v := atI_int (Int.natCast_nonneg x) e
theorem atI_last {α : Type} {xs : List α} {v : α} (e : xs.getLast? = some v) : atI xs (-1) = some v := by
  have hne : xs ≠ [] := fun z => by
    rw [z] at e
    cases e
  have hl : 0 < xs.length := List.length_pos_iff.mpr hne
  unfold atI ixN
  rw [if_neg (by decide), if_pos (by omega)]
  rw [List.getLast?_eq_getElem?] at e
  have z : ((-1 : Int) + xs.length).toNat = xs.length - 1 := by omega
  show xs[((-1 : Int) + xs.length).toNat]? = some v
  rw [z]
  exact e
theorem ixN_int {n : Nat} {x : Int} (h : 0 ≤ x) (l : x < n) : ixN n x = some x.toNat := by
  unfold ixN
  rw [if_pos h, if_pos l]
theorem iteT' {c : Bool} {A B : Prop} (h : c = true) (a : A) : if c = true then A else B := by
  rw [if_pos h]
  exact a
theorem iteF' {c : Bool} {A B : Prop} (h : c = false) (b : B) : if c = true then A else B := by
  rw [if_neg (by rw [h]; exact Bool.false_ne_true)]
  exact b
section
variable {P : Program} {w : World} {K : PySem.W.Frag} {mg : Str → Option Value} {base : Heap} {CS CE CT : Addr}
/-- a method of a class that keeps a promise -/
theorem MethAt.ok0 {C : Addr} {x q : Str} {st : Stmt} {N ps : List Str} {k : Nat} {sp : Sp} (F : MethAt K C x q st) (S : FnScope N ps (defScope st))
    (hb : ∀ (kV doc pm : Value) (an : Option Addr) (cdv ct : Value) (us : List Value), us.length = ps.length → bindArgs (PySem.W.fnOf x q (defArgs st) (defBody st) (defScope st) .none kV doc pm an cdv ct) ⟨us, []⟩ = pure (ps.zip us))
    (len : ∀ vs H Q E, sp vs H Q E → vs.length = ps.length)
    (hbody : ∀ (f : Addr) (cdv : Value) (A : Around) (outer : List Env) (s : Shared) (H : Hp) (vs : List V) (Q : VK) (E : XK), Room k (A.deeper (envOfC q (defScope st) s.heap.objs.size f cdv)) → sp vs H Q E →
      ∃ t, PSs (cxOf CX0 P w K mg base N q (defScope st) f cdv A outer s H E).nox (defBody st) t ∧ t { nx := fun _ H' => Q .non H', rt := Q } (start N vs) H) : OkM P w K mg base CX0 (k + 1) C x ps sp := by
  obtain ⟨f, fd, hm, F⟩ := F
  exact ⟨f, fd, F.ok S len (fun cdv A outer s H vs Q E hr h => let ⟨t, a, b⟩ := hbody f cdv A outer s H vs Q E hr h; ⟨t, a.nox, b⟩), hm, F.bindsN hb⟩
/-! ### is_answer -/
def spIsAnswer : Sp := fun vs H Q _ => ∃ (t : Addr) (q : Qu) (n : Int), vs = [.ref t, .int n] ∧ H t = some (.tup [.int q.1, .int q.2.1, .bl q.2.2]) ∧ Q (.bl (ansOk n q)) H
theorem ok_is_answer (T : Txt K mg CS CE CT) : Ok P w K mg base CX0 2 "is_answer" P_is_answer spIsAnswer := by
  refine T.d_is_answer.ok0 sc_is_answer (fun _ _ _ _ _ _ us hl => match us, hl with | [_, _], _ => rfl) (fun vs H Q E h => ?_) (fun f cdv A outer s H vs Q E hr h => ?_)
  · obtain ⟨_, _, _, rfl, _⟩ := h
    rfl
  · obtain ⟨t, ⟨x, y, b⟩, n, rfl, ht, q⟩ := h
    refine ⟨_, (pss_cons (ps_if (PW.pt (pw_or (pt_not (pt_val (pe_callB call_isi (by rfl) T.f_isinstance (by decide +kernel) (pa_cons (pv 0) (pa_cons (pe_bltn (v := .ty "tuple") (by rfl) T.f_tuple (by decide +kernel) rfl) pa_nil))))) (pw_or (pt_cmpR op_ne (pe_callB call_len (by rfl) T.f_len (by decide +kernel) (pa_cons (pv 0) pa_nil)) pe_int (nomark _)) (pw_or1 (pt_not (pt_val (pe_callB call_isi (by rfl) T.f_isinstance (by decide +kernel) (pa_cons (pe_ix ix_tup (pv 0) pe_int (fun _ _ => rfl)) (pa_cons (pe_bltn (v := .ty "bool") (by rfl) T.f_bool (by decide +kernel) rfl) pa_nil))))))))) (pss_one (ps_ret pe_bl)) pss_nil)
  (pss_one (ps_ret (pe_and (pe_callO (ok_is_int T) (hr.mono (by decide)) pass0 (pa_cons (pe_ix ix_tup (pv 0) pe_int (fun _ _ => rfl)) (pa_cons pe_int (pa_cons (pe_op op_sub (pv 1) pe_int) pa_nil)))) (pe_and (pe_callO (ok_is_int T) (hr.mono (by decide)) pass0 (pa_cons (pe_ix ix_tup (pv 0) pe_int (fun _ _ => rfl)) (pa_cons pe_int (pa_cons (pe_op op_sub (pv 1) pe_int) pa_nil)))) (pe_one (pe_cmpR op_ne (pe_ix ix_tup (pv 0) pe_int (fun _ _ => rfl)) (pe_ix ix_tup (pv 0) pe_int (fun _ _ => rfl)) (nomark _)))))))), ?_⟩
    refine ⟨_, rfl, _, .ty "tuple", .type "tuple", .type "tuple", true, rfl, .ty _, .base (.tup ht), kit_ty (by decide +kernel), true, rfl, iteF ?_⟩
    refine ⟨_, rfl, _, _, rfl, .inr ⟨_, .inl (.inl ht), rfl⟩, rfl, _, rfl, iteF ?_⟩
    refine ⟨_, rfl, _, _, _, _, rfl, rfl, .inl (.inl ht), rfl, _, .ty "bool", .type "bool", .type "bool", true, rfl, .ty _, .base (.bl b), kit_ty (by decide +kernel), true, rfl, iteF ?_⟩
    refine ⟨_, rfl, _, _, _, _, rfl, rfl, .inl (.inl ht), rfl, _, rfl, _, _, rfl, rfl, x, 0, n - 1, rfl, _, rfl, ?_⟩
    show if decide (0 ≤ x ∧ x ≤ n - 1) = true then _ else _
    by_cases c1 : 0 ≤ x ∧ x ≤ n - 1
    · rw [if_pos (decide_eq_true c1)]
      refine ⟨_, rfl, _, _, _, _, rfl, rfl, .inl (.inl ht), rfl, _, rfl, _, _, rfl, rfl, y, 0, n - 1, rfl, _, rfl, ?_⟩
      show if decide (0 ≤ y ∧ y ≤ n - 1) = true then _ else _
      by_cases c2 : 0 ≤ y ∧ y ≤ n - 1
      · rw [if_pos (decide_eq_true c2)]
        refine ⟨_, rfl, _, _, _, _, rfl, rfl, .inl (.inl ht), rfl, _, rfl, _, _, _, _, rfl, rfl, .inl (.inl ht), rfl, rfl, ?_⟩
        have e : (!decide (V.int x = V.int y)) = ansOk n (x, y, b) := by
          unfold ansOk
          rw [decide_eq_true c1, decide_eq_true c2]
          simp
        show Q (.bl (!decide (V.int x = V.int y))) H
        rw [e]
        exact q
      · rw [if_neg (by rw [decide_eq_false c2]; decide)]
        have e : false = ansOk n (x, y, b) := by
          unfold ansOk
          rw [decide_eq_false c2]
          simp
        show Q (.bl false) H
        rw [e]
        exact q
    · rw [if_neg (by rw [decide_eq_false c1]; decide)]
      have e : false = ansOk n (x, y, b) := by
        unfold ansOk
        rw [decide_eq_false c1]
        simp
      show Q (.bl false) H
      rw [e]
      exact q
/-! ### the class Steps -/
theorem nd_get {α : Type} {l : List α} (h : l.Nodup) {i j : Nat} {x : α} (a : l[i]? = some x) (b : l[j]? = some x) : i = j := by
  have h1 := get_lt a
  have h2 := get_lt b
  rw [List.getElem?_eq_getElem h1] at a
  rw [List.getElem?_eq_getElem h2] at b
  have e : l[i] = l[j] := Option.some.inj (a.trans b.symm)
  have p := List.pairwise_iff_getElem.mp h
  rcases Nat.lt_trichotomy i j with c | c | c
  · exact absurd e (p i j h1 h2 c)
  · exact c
  · exact absurd e.symm (p j i h2 h1 c)
structure MatAt (H : Hp) (m : Addr) (rs : List Addr) (n : Nat) (R : Mat) : Prop where
  top : H m = some (.lst (rs.map V.ref))
  len : rs.length = n
  nd : rs.Nodup
  nm : m ∉ rs
  sz : Sized n R
  row : ∀ (i : Nat) (r : Addr) (xs : List Int), rs[i]? = some r → R[i]? = some xs → H r = some (.lst (xs.map V.int))
theorem MatAt.same {H H' : Hp} {m : Addr} {rs : List Addr} {n : Nat} {R : Mat} (h : MatAt H m rs n R) (e : ∀ a ∈ m :: rs, H' a = H a) : MatAt H' m rs n R := by
  refine ⟨?_, h.len, h.nd, h.nm, h.sz, fun i r xs a b => ?_⟩
  · rw [e m List.mem_cons_self]
    exact h.top
  · rw [e r (List.mem_cons_of_mem _ (List.mem_of_getElem? a))]
    exact h.row i r xs a b
theorem getD_of {α : Type} {l : List α} {i : Nat} {d x : α} (h : l[i]? = some x) : l.getD i d = x := by
  rw [List.getD_eq_getElem?_getD, h]
  rfl
theorem MatAt.cell {H : Hp} {m : Addr} {rs : List Addr} {n : Nat} {R : Mat} (h : MatAt H m rs n R) {x y : Nat} (hx : x < n) (hy : y < n) :
    ∃ r xs, rs[x]? = some r ∧ R[x]? = some xs ∧ H r = some (.lst (xs.map V.int)) ∧ xs.length = n ∧ xs[y]? = some (at2 R x y) := by
  obtain ⟨r, hr⟩ := get_at (l := rs) (i := x) (by rw [h.len]; exact hx)
  obtain ⟨xs, hxs⟩ := get_at (l := R) (i := x) (by rw [h.sz.len]; exact hx)
  have hl : xs.length = n := h.sz.row xs (List.mem_of_getElem? hxs)
  obtain ⟨v, hv⟩ := get_at (l := xs) (i := y) (by rw [hl]; exact hy)
  refine ⟨r, xs, hr, hxs, h.row x r xs hr hxs, hl, ?_⟩
  have e : at2 R x y = v := by
    unfold at2
    rw [getD_of hxs, getD_of hv]
  rw [e]
  exact hv
theorem MatAt.put {H : Hp} {m : Addr} {rs : List Addr} {n : Nat} {R : Mat} (h : MatAt H m rs n R) {x y : Nat} {r : Addr} {xs : List Int} {v : Int} (hx : x < n) (hr : rs[x]? = some r) (hxs : R[x]? = some xs) :
    MatAt (upd H r (.lst ((xs.map V.int).set y (.int v)))) m rs n (set2 R x y v) := by
  have hmr : m ≠ r := fun e => h.nm (by rw [e]; exact List.mem_of_getElem? hr)
  refine ⟨?_, h.len, h.nd, h.nm, h.sz.set2 hx, fun i r' xs' a b => ?_⟩
  · rw [upd_ne hmr]
    exact h.top
  · unfold set2 at b
    rw [getD_of hxs] at b
    by_cases e : i = x
    · subst e
      rw [hr] at a
      cases a
      rw [List.getElem?_set_self (get_lt hxs)] at b
      cases b
      rw [upd_same, List.map_set]
    · have hne : r' ≠ r := fun z => by
        subst z
        exact e (nd_get h.nd a hr)
      rw [upd_ne hne]
      rw [List.getElem?_set_ne (fun z => e z.symm)] at b
      exact h.row i r' xs' a b
theorem MatAt.sm {H H' : Hp} {m : Addr} {rs : List Addr} {n : Nat} {R : Mat} (h : MatAt H m rs n R) (e : Same H H') : MatAt H' m rs n R :=
  ⟨e _ _ h.top, h.len, h.nd, h.nm, h.sz, fun i r xs a b => e _ _ (h.row i r xs a b)⟩
theorem MatAt.stand {H : Hp} {m : Addr} {rs : List Addr} {n : Nat} {R : Mat} (h : MatAt H m rs n R) {r : Addr} (hr : r ∈ rs) : ∃ xs, H r = some (.lst xs) := by
  obtain ⟨i, hi⟩ := List.getElem?_of_mem hr
  obtain ⟨xs, hxs⟩ := get_at (l := R) (i := i) (by rw [h.sz.len, ← h.len]; exact get_lt hi)
  exact ⟨_, h.row i r xs hi hxs⟩
def Stp (CS : Addr) (H : Hp) (o m : Addr) (n : Int) : Prop := ∃ dx, H o = some (.ins CS dx [("size", .int n), ("rows", .ref m)])
def triV : Option Bool → V
  | some b => .bl b
  | none => .non
theorem rd_mat (T : Txt K mg CS CE CT) {σ : L2.St} {H : Hp} {Q : VK} {o m : Addr} {rs : List Addr} {n : Nat} {R : Mat} {a b : Nat} {x y : Int} (h0 : σ[0]? = some (some (.ref o))) (so : Stp CS H o m n) (hm : MatAt H m rs n R) (ha : σ[a]? = some (some (.int x))) (hb : σ[b]? = some (some (.int y)))
    (hx : 0 ≤ x ∧ x < n) (hy : 0 ≤ y ∧ y < n) (q : Q (.int (at2 R x.toNat y.toNat)) H) : tOp (rIxL K) (tOp (rIxL K) (tFld K (tVar 0) "rows") (tVar a)) (tVar b) σ H Q := by
  obtain ⟨dx, ho⟩ := so
  obtain ⟨r, xs, h1, h2, h3, h4, h5⟩ := hm.cell (x := x.toNat) (y := y.toNat) (by omega) (by omega)
  refine ⟨_, h0, o, CS, dx, _, .ref m, rfl, ho, T.cl, T.n_rows, rfl, _, ha, m, _, x, .ref r, rfl, rfl, .inl (.inl hm.top), atI_int hx.1 (get_map h1), _, hb, r, _, y, _, rfl, rfl, .inl (.inl h3), atI_int hy.1 (get_map h5), q⟩
/-! ### Steps.tells -/
def spTells (CS : Addr) : Sp := fun vs H Q _ => ∃ (o m : Addr) (rs : List Addr) (n : Nat) (R : Mat) (x y : Int), vs = [.ref o, .int x, .int y] ∧ Stp CS H o m n ∧ MatAt H m rs n R ∧ (0 ≤ x ∧ x < n) ∧ (0 ≤ y ∧ y < n) ∧ Q (triV (tellsM R x.toNat y.toNat)) H
theorem ok_Steps_tells (T : Txt K mg CS CE CT) : OkM P w K mg base CX0 1 CS "tells" P_Steps_tells (spTells CS) := by
  refine T.d_Steps_tells.ok0 sc_Steps_tells (fun _ _ _ _ _ _ us hl => match us, hl with | [_, _, _], _ => rfl) (fun vs H Q E h => ?_) (fun f cdv A outer s H vs Q E hr h => ?_)
  · obtain ⟨_, _, _, _, _, _, _, rfl, _⟩ := h
    rfl
  · obtain ⟨o, m, rs, n, R, x, y, rfl, so, hm, hx, hy, q⟩ := h
    refine ⟨_, (pss_cons (ps_if (pt_cmpR op_eq (pe_ix ix_list (pe_ix ix_list (pe_fld (pv 0) rfl) (pv 1) (fun _ _ => rfl)) (pv 2) (fun _ _ => rfl)) pe_int (nomark _)) (pss_one (ps_ret pe_bl)) pss_nil)
  (pss_one (ps_ret (pe_ifExp (pt_cmpR op_ge (pe_ix ix_list (pe_ix ix_list (pe_fld (pv 0) rfl) (pv 2) (fun _ _ => rfl)) (pv 1) (fun _ _ => rfl)) pe_int (nomark _)) pe_bl pe_non)))), ?_⟩
    refine rd_mat T rfl so hm rfl rfl hx hy ?_
    refine ⟨rfl, _, rfl, ?_⟩
    unfold tellsM at q
    by_cases c : at2 R x.toNat y.toNat = 1
    · rw [if_pos c] at q
      refine iteT' (decide_eq_true (by rw [c])) ?_
      exact q
    · rw [if_neg c] at q
      refine iteF' (decide_eq_false (fun z => c (by injection z))) ?_
      refine rd_mat T rfl so hm rfl rfl hy hx ?_
      refine ⟨_, _, rfl, rfl, _, rfl, ?_⟩
      by_cases c2 : 0 ≤ at2 R y.toNat x.toNat
      · rw [if_pos c2] at q
        refine iteT' (decide_eq_true c2) ?_
        exact q
      · rw [if_neg c2] at q
        refine iteF' (decide_eq_false c2) ?_
        exact q
/-! ### Steps.__init__ -/
def rowsOf (H : Hp) (rs : List Addr) (R : Mat) : Prop := ∀ (i : Nat) (r : Addr) (xs : List Int), rs[i]? = some r → R[i]? = some xs → H r = some (.lst (xs.map V.int))
def spStepsInit (CS : Addr) : Sp := fun vs H Q _ => ∃ (x dx : Addr) (n : Nat), vs = [.ref x, .int n] ∧ n ≤ 30 ∧ H x = some (.ins CS dx []) ∧ ∀ H' m rs, But [x] H H' → H' x = some (.ins CS dx [("size", .int n), ("rows", .ref m)]) → MatAt H' m rs n (newMat n) → (∀ a ∈ m :: rs, H a = none) → Q .non H'
theorem ok_Steps_init (T : Txt K mg CS CE CT) : OkI P w K mg base CX0 1 CS P_Steps_init (spStepsInit CS) := by
  obtain ⟨f, fd, hm, F⟩ := T.d_Steps_init
  refine ⟨f, fd, F.ok sc_Steps_init (fun vs H Q E h => ?_) (fun cdv A outer s H vs Q E hr h => ?_), hm, F.bindsN (fun _ _ _ _ _ _ us hl => match us, hl with | [_, _], _ => rfl)⟩
  · obtain ⟨_, _, _, rfl, _⟩ := h
    rfl
  · obtain ⟨x, dx, n, rfl, hn, hx, q⟩ := h
    refine ⟨_, PSs.nox ((pss_cons (ps_fld (pv 0) (pv 1) rfl)
  (pss_one (ps_fld (pv 0) (pe_lc (own := [("one", 3)]) rfl sc_Steps_init.nd (pi_range1 (by rfl) T.f_range (pa_cons (pv 1) pa_nil)) (blkOk_by (N := N_Steps_init) (sc := defScope s_Steps_init) (by decide +kernel)) (fun _ _ _ _ _ => (pg_name (i := 3) sc_Steps_init.nd rfl (Or.inr rfl))) (fun _ _ _ _ _ => pts_nil) (fun _ _ _ _ _ => (pe_lc (own := [("other", 2)]) rfl sc_Steps_init.nd (pi_range1 (by rfl) T.f_range (pa_cons (pv 1) pa_nil)) (blkOk_by (by with_unfolding_all rfl)) (fun _ _ _ _ _ => (pg_name (i := 2) sc_Steps_init.nd rfl (Or.inl rfl))) (fun _ _ _ _ _ => pts_nil) (fun _ _ _ _ _ => (pe_ifExp (pt_cmpR op_eq (pv 3) (pv 2) (nomark _)) pe_int (pe_un un_neg pe_int)))))) rfl)))), ?_⟩
    refine ⟨_, rfl, _, rfl, x, CS, dx, [], rfl, hx, T.cl, T.n_size, by decide, ?_⟩
    have hx1 : (upd H x (.ins CS dx (putF "size" (.int n) []))) x = some (.ins CS dx [("size", .int n)]) := upd_same
    have hne : ∀ {b : Addr}, (upd H x (.ins CS dx (putF "size" (.int n) []))) b = none → b ≠ x := fun {b} e z => by
      rw [z, hx1] at e
      cases e
    have hnb : ∀ {b : Addr}, (upd H x (.ins CS dx (putF "size" (.int n) []))) b = none → H b = none := fun {b} e => by
      rw [upd_ne (hne e)] at e
      exact e
    refine ⟨_, rfl, n, rfl, by omega, by omega, fun D hD => ?_⟩
    have hz : (n : Int).toNat = n := Int.toNat_natCast n
    rw [hz]
    refine lc_range (fun i H' => ∃ rs : List Addr, rs.length = i ∧ rs.Nodup ∧ D ∉ rs ∧ (∀ r ∈ rs, upd H x (.ins CS dx (putF "size" (.int n) [])) r = none) ∧ Same (upd H x (.ins CS dx (putF "size" (.int n) []))) H' ∧ H' D = some (.lst (rs.map V.ref)) ∧
      ∀ (k : Nat) (r : Addr), rs[k]? = some r → H' r = some (.lst (((List.range n).map fun j => if k = j then (0 : Int) else -1).map V.int))) ?_ (fun i H' hi p => ?_) (fun H' p => ?_)
    · exact ⟨[], rfl, List.nodup_nil, List.not_mem_nil, fun r hr => (nomatch hr), same_upd hD, upd_same, fun k r e => (nomatch e)⟩
    · obtain ⟨rs, p1, p2, p3, p4, p5, p6, p7⟩ := p
      refine ⟨rfl, ?_⟩
      refine ⟨_, rfl, n, rfl, by omega, by omega, fun D2 hD2 => ?_⟩
      rw [hz]
      have nD : D2 ≠ D := fun z => by
        rw [z, p6] at hD2
        cases hD2
      have nH : upd H x (.ins CS dx (putF "size" (.int n) [])) D2 = none := by
        cases e : upd H x (.ins CS dx (putF "size" (.int n) [])) D2 with
        | none => rfl
        | some o =>
          rw [p5 _ _ e] at hD2
          cases hD2
      have nrs : D2 ∉ rs := fun z => by
        obtain ⟨k, hk⟩ := List.getElem?_of_mem z
        rw [p7 k D2 hk] at hD2
        cases hD2
      refine lc_mapR (((List.range n).map fun j => if i = j then (0 : Int) else -1).map V.int) (by simp) (by omega) hD2 (fun j y H4 hj hy e4 Qe qe => ?_) (fun H4 e4 h4 => ?_)
      · refine ⟨rfl, ?_⟩
        obtain ⟨v, hv, rfl⟩ := map_get hy
        obtain ⟨j', hj', rfl⟩ := map_get hv
        have ej : j' = j := by
          rw [List.getElem?_range hj] at hj'
          exact (Option.some.inj hj').symm
        subst ej
        refine ⟨_, rfl, _, rfl, rfl, _, rfl, ?_⟩
        by_cases c : i = j'
        · refine iteT' (decide_eq_true (by rw [c])) ?_
          rw [if_pos c] at qe
          exact qe H4 (Same.refl _)
        · refine iteF' (decide_eq_false (fun z => c (by injection z with z; omega))) ?_
          rw [if_neg c] at qe
          exact ⟨_, rfl, qe H4 (Same.refl _)⟩
      · refine ⟨rs.map V.ref, e4 _ _ p6, ?_, rs ++ [D2], ?_, ?_, ?_, ?_, ?_, ?_, ?_⟩
        · refine sz' ?_
          rw [List.length_map]
          omega
        · rw [List.length_append, p1]
          rfl
        · refine List.nodup_append.mpr ⟨p2, List.nodup_cons.mpr ⟨List.not_mem_nil, List.nodup_nil⟩, fun a ha b hb z => ?_⟩
          rw [List.mem_singleton.mp hb] at z
          exact nrs (z ▸ ha)
        · intro z
          rcases List.mem_append.mp z with z | z
          · exact p3 z
          · exact nD (List.mem_singleton.mp z).symm
        · intro r hr
          rcases List.mem_append.mp hr with z | z
          · exact p4 r z
          · rw [List.mem_singleton.mp z]
            exact nH
        · exact same_mut (p5.trans e4) hD
        · rw [upd_same, List.map_append]
          rfl
        · intro k r hk
          have hrD : r ≠ D := fun z => by
            have hm := List.mem_of_getElem? hk
            rcases List.mem_append.mp hm with z2 | z2
            · exact p3 (z ▸ z2)
            · exact nD ((List.mem_singleton.mp z2).symm.trans z)
          rw [upd_ne hrD]
          by_cases c : k < rs.length
          · rw [List.getElem?_append_left c] at hk
            exact e4 _ _ (p7 k r hk)
          · have hk2 := get_lt hk
            rw [List.length_append, List.length_singleton] at hk2
            have ek : k = rs.length := by omega
            subst ek
            rw [List.getElem?_append_right (Nat.le_refl _), Nat.sub_self] at hk
            cases hk
            rw [p1]
            exact h4
    · obtain ⟨rs, p1, p2, p3, p4, p5, p6, p7⟩ := p
      refine ⟨_, rfl, x, CS, dx, [("size", .int n)], rfl, p5 _ _ hx1, T.cl, T.n_rows, by show 1 < 1000; decide, ?_⟩
      have hDx : D ≠ x := hne hD
      have hrx : ∀ r ∈ rs, r ≠ x := fun r hr => hne (p4 r hr)
      refine q _ D rs (fun b o e hb => ?_) upd_same ⟨?_, p1, p2, p3, newMat_sized n, fun i r xs a b => ?_⟩ (fun a ha => ?_)
      · have nb : b ≠ x := fun z => hb (by rw [z]; exact List.mem_singleton.mpr rfl)
        rw [upd_ne nb]
        refine p5 _ _ ?_
        rw [upd_ne nb]
        exact e
      · rw [upd_ne hDx]
        exact p6
      · rw [upd_ne (hrx r (List.mem_of_getElem? a)), p7 i r a]
        have li : i < n := by
          rw [← p1]
          exact get_lt a
        unfold newMat at b
        obtain ⟨k, hk, rfl⟩ := map_get b
        rw [List.getElem?_range li] at hk
        cases hk
        rfl
      · rcases List.mem_cons.mp ha with z | z
        · rw [z]
          exact hnb hD
        · exact hnb (p4 a z)
/-! ### Steps.add -/
theorem lc_filtR {n : Nat} {p : Nat → Bool} {tt : TT} {vs : List Nat} {k : Nat} {σ : L2.St} {H1 : Hp} {D : Addr} {Qd : Hp → Prop} (hn : n ≤ 1000000) (hD : H1 D = none) (hw : ∀ v, wipe ((wipe σ vs).set k (some v)) vs = wipe σ vs) (hk : k < (wipe σ vs).length)
    (hs : ∀ i H', i < n → Same H1 H' → ∀ Qt : Bool → Hp → Prop, Qt (p i) H' → tt ((wipe σ vs).set k (some (.int i))) H' Qt)
    (hd : ∀ H', Same H1 H' → H' D = some (.lst ((((List.range n).filter p).map fun t : Nat => V.int t))) → Qd H') :
    ∃ W : Nat → Nat → Hp → Prop, (∃ m, W 0 m (upd H1 D (.lst []))) ∧ ∀ i m H, W i m H →
      ((Itr 0 n).stop i H ∧ Qd H) ∨ ((Itr 0 n).go i H ∧ ∃ Nx : Hp → Prop, (∀ H', Nx H' → ∃ m', m' < m ∧ W (i + 1) m' H') ∧ ∀ x H', (Itr 0 n).yld i H x H' → (gName k) x (wipe σ vs) H' fun σ2 H2 => wipe σ2 vs = wipe σ vs ∧ tt σ2 H2 fun b H3 =>
        if b = true then (tVar k) σ2 H3 fun y H4 => ∃ acc, H4 D = some (.lst acc) ∧ acc.length < sizeLine ∧ Nx (upd H4 D (.lst (acc ++ [y]))) else Nx H3) := by
  have ez : ∀ i : Nat, (0 : Int) + i = i := fun i => Int.zero_add _
  refine lc_range (fun i H => Same H1 H ∧ H D = some (.lst (((List.range i).filter p).map fun t : Nat => V.int t))) ⟨same_upd hD, upd_same⟩ (fun i H hi q => ?_) (fun H q => hd H q.1 q.2)
  refine ⟨hw _, ?_⟩
  rw [ez]
  refine hs i H hi q.1 _ ?_
  have er : (List.range (i + 1)).filter p = (List.range i).filter p ++ (if p i = true then [i] else []) := by
    rw [List.range_succ, List.filter_append]
    congr 1
    by_cases c : p i = true
    · rw [if_pos c, List.filter_cons_of_pos c]
      rfl
    · rw [if_neg c, List.filter_cons_of_neg c]
      rfl
  by_cases c : p i = true
  · rw [if_pos c]
    refine ⟨.int i, ?_, _, q.2, ?_, same_mut q.1 hD, ?_⟩
    · rw [List.getElem?_set_self hk]
    · refine sz' ?_
      have l1 := List.length_filter_le p (List.range i)
      rw [List.length_range] at l1
      rw [List.length_map]
      omega
    · rw [upd_same, er, if_pos c, List.map_append]
      rfl
  · rw [if_neg c]
    refine ⟨q.1, ?_⟩
    rw [q.2, er, if_neg c, List.append_nil]
theorem if_tup3 {σ : L2.St} {H : Hp} {Q : VK} {b : Bool} {x y : Int} (h1 : σ[1]? = some (some (.int x))) (h2 : σ[2]? = some (some (.int y))) (h3 : σ[3]? = some (some (.bl b)))
    (h : ∀ p, H p = none → Q (.ref p) (upd H p (.tup [.int (if b then x else y), .int (if b then y else x), .int (if b then 1 else 0)]))) :
    tIf (tB (tVar 3)) (tTup (tCons (tVar 1) (tCons (tVar 2) (tCons (tC (.int 1)) tNil)))) (tTup (tCons (tVar 2) (tCons (tVar 1) (tCons (tC (.int 0)) tNil)))) σ H Q := by
  refine ⟨_, h3, _, rfl, ?_⟩
  cases b with
  | true => exact iteT ⟨_, h1, _, h2, sz (show 3 ≤ 16777216 by decide), h⟩
  | false => exact iteF ⟨_, h2, _, h1, sz (show 3 ≤ 16777216 by decide), h⟩
def spAdd (CS : Addr) : Sp := fun vs H Q _ => ∃ (o m : Addr) (rs : List Addr) (n : Nat) (R : Mat) (x y : Int) (b : Bool), vs = [.ref o, .int x, .int y, .bl b] ∧ n ≤ 30 ∧ Stp CS H o m n ∧ o ∉ rs ∧ MatAt H m rs n R ∧ (0 ≤ x ∧ x < n) ∧ (0 ≤ y ∧ y < n) ∧
  (addM n R x.toNat y.toNat b = none → Q (.bl false) H) ∧ ∀ R', addM n R x.toNat y.toNat b = some R' → ∀ H', But rs H H' → MatAt H' m rs n R' → Q (.bl true) H'
theorem ok_Steps_add (T : Txt K mg CS CE CT) : OkM P w K mg base CX0 2 CS "add" P_Steps_add (spAdd CS) := by
  refine T.d_Steps_add.ok0 sc_Steps_add (fun _ _ _ _ _ _ us hl => match us, hl with | [_, _, _, _], _ => rfl) (fun vs H Q E h => ?_) (fun f cdv A outer s H vs Q E hr h => ?_)
  · obtain ⟨_, _, _, _, _, _, _, _, rfl, _⟩ := h
    rfl
  · obtain ⟨o, m, rs, n, R, x, y, b, rfl, hn, so, hor, hm, hx, hy, q1, q2⟩ := h
    refine ⟨_, (pss_cons (ps_if (pt_cmpR op_notN (pe_methO (pv 0) T.cl (ok_Steps_tells T) (hr.mono (by decide)) pass0 (pa_cons (pv 1) (pa_cons (pv 2) pa_nil))) pe_non (nomark _)) (pss_one (ps_ret (pe_cmpR op_eq (pe_methO (pv 0) T.cl (ok_Steps_tells T) (hr.mono (by decide)) pass0 (pa_cons (pv 1) (pa_cons (pv 2) pa_nil))) (pv 3) (nomark _)))) pss_nil)
  (pss_cons (ps_asg (pe_ifExp (pt_val (pv 3)) (pe_tup (pa_cons (pv 1) (pa_cons (pv 2) (pa_cons pe_int pa_nil)))) (pe_tup (pa_cons (pv 2) (pa_cons (pv 1) (pa_cons pe_int pa_nil))))) (pg_tup rfl (pgs_cons (pg_name (i := 4) sc_Steps_add.nd rfl (Or.inr rfl)) (pgs_cons (pg_name (i := 5) sc_Steps_add.nd rfl (Or.inr rfl)) (pgs_cons (pg_name (i := 6) sc_Steps_add.nd rfl (Or.inl rfl)) pgs_nil)))))
  (pss_cons (ps_setLc (i := 7) (own := [("thing", 8)]) rfl sc_Steps_add.nd rfl rfl (sw_true rfl rfl rfl (by decide +kernel)) (pi_range1 (by rfl) T.f_range (pa_cons (pe_fld (pv 0) rfl) pa_nil)) (blkOk_by (N := N_Steps_add) (sc := defScope s_Steps_add) (by decide +kernel)) (fun _ _ _ _ _ => (pg_name (i := 8) sc_Steps_add.nd rfl (Or.inl rfl))) (fun _ _ _ _ _ => (pts_one (pt_cmpR op_ge (pe_ix (ix_listK K rfl) (pe_ix (ix_listK K rfl) (pe_fldK K rfl (pv 0) rfl) (pv 8) (fun _ _ => rfl)) (pv 4) (fun _ _ => rfl)) pe_int (nomark _)))) (fun _ _ _ _ _ => (pv 8)))
  (pss_cons (ps_setLc (i := 9) (own := [("thing", 8)]) rfl sc_Steps_add.nd rfl rfl (sw_true rfl rfl rfl (by decide +kernel)) (pi_range1 (by rfl) T.f_range (pa_cons (pe_fld (pv 0) rfl) pa_nil)) (blkOk_by (N := N_Steps_add) (sc := defScope s_Steps_add) (by decide +kernel)) (fun _ _ _ _ _ => (pg_name (i := 8) sc_Steps_add.nd rfl (Or.inl rfl))) (fun _ _ _ _ _ => (pts_one (pt_cmpR op_ge (pe_ix (ix_listK K rfl) (pe_ix (ix_listK K rfl) (pe_fldK K rfl (pv 0) rfl) (pv 5) (fun _ _ => rfl)) (pv 8) (fun _ _ => rfl)) pe_int (nomark _)))) (fun _ _ _ _ _ => (pv 8)))
  (pss_cons (ps_for PassesOwn.never rfl (pi_list (pv 7)) (pg_name (i := 10) sc_Steps_add.nd rfl (Or.inl rfl)) (pss_one (ps_for PassesOwn.never rfl (pi_list (pv 9)) (pg_name (i := 11) sc_Steps_add.nd rfl (Or.inl rfl)) (pss_cons (ps_set (i := 12) sc_Steps_add.nd rfl (Or.inl rfl) (pe_callB (call_max3 rfl) (by rfl) T.f_max (by decide +kernel) (pa_cons (pe_ix ix_list (pe_ix ix_list (pe_fld (pv 0) rfl) (pv 10) (fun _ _ => rfl)) (pv 4) (fun _ _ => rfl)) (pa_cons (pv 6) (pa_cons (pe_ix ix_list (pe_ix ix_list (pe_fld (pv 0) rfl) (pv 5) (fun _ _ => rfl)) (pv 11) (fun _ _ => rfl)) pa_nil)))))
  (pss_one (ps_asg (pe_callB (call_max2 rfl) (by rfl) T.f_max (by decide +kernel) (pa_cons (pe_ix ix_list (pe_ix ix_list (pe_fld (pv 0) rfl) (pv 10) (fun _ _ => rfl)) (pv 11) (fun _ _ => rfl)) (pa_cons (pv 12) pa_nil))) (pg_sub (pe_ix ix_list (pe_fld (pv 0) rfl) (pv 10) (fun _ _ => rfl)) (pv 11) set_list)))))))
  (pss_one (ps_ret pe_bl))))))), ?_⟩
    obtain ⟨dx, ho⟩ := so
    have so : Stp CS H o m n := ⟨dx, ho⟩
    refine ⟨_, rfl, o, dx, _, rfl, ho, rfl, _, rfl, _, rfl, o, m, rs, n, R, x, y, rfl, so, hm, hx, hy, rfl, _, rfl, ?_⟩
    cases htl : tellsM R x.toNat y.toNat with
    | some a =>
      refine iteT' (by rfl) ?_
      refine ⟨_, rfl, o, dx, _, rfl, ho, rfl, _, rfl, _, rfl, o, m, rs, n, R, x, y, rfl, so, hm, hx, hy, _, rfl, ?_⟩
      rw [htl]
      refine ⟨rfl, ?_⟩
      by_cases c : a = b
      · have e : addM n R x.toNat y.toNat b = some R := by
          unfold addM
          rw [htl]
          exact if_pos c
        show Q (.bl (decide (V.bl a = V.bl b))) H
        rw [decide_eq_true (by rw [c])]
        exact q2 R e H (fun _ _ z _ => z) hm
      · have e : addM n R x.toNat y.toNat b = none := by
          unfold addM
          rw [htl]
          exact if_neg c
        show Q (.bl (decide (V.bl a = V.bl b))) H
        rw [decide_eq_false (fun z => c (by injection z))]
        exact q1 e
    | none =>
      refine iteF' (by rfl) ?_
      have e : addM n R x.toNat y.toNat b = some (joinM n R (if b then x else y).toNat (if b then y else x).toNat (if b then 1 else 0)) := by
        unfold addM
        rw [htl]
        cases b <;> rfl
      have hlow : 0 ≤ (if b then x else y) ∧ (if b then x else y) < n := by
        split
        · exact hx
        · exact hy
      have hhigh : 0 ≤ (if b then y else x) ∧ (if b then y else x) < n := by
        split
        · exact hy
        · exact hx
      have q2 := q2 _ e
      have hz : (n : Int).toNat = n := Int.toNat_natCast n
      refine if_tup3 (b := b) (x := x) (y := y) rfl rfl rfl (fun p hp => ?_)
      generalize hL : (if b then x else y) = low at *
      generalize hG : (if b then y else x) = high at *
      generalize hS : (if b then (1 : Int) else 0) = strict at *
      refine ⟨_, _, rfl, .inl (.inl upd_same), rfl, _, _, rfl, _, _, rfl, _, _, rfl, rfl, ?_⟩
      have e1 : Same H (upd H p (.tup [.int low, .int high, .int strict])) := same_upd hp
      generalize upd H p (.tup [.int low, .int high, .int strict]) = H1 at *
      refine ⟨_, rfl, o, CS, dx, _, _, rfl, e1 _ _ ho, T.cl, T.n_size, rfl, n, rfl, by omega, by omega, fun A hA => ?_⟩
      rw [hz]
      refine lc_filtR (p := fun t => decide (0 ≤ at2 R t low.toNat)) (by omega) hA (fun _ => rfl) (show 8 < 13 by decide) (fun i H' hi e2 Qt qt => ?_) (fun H2 e2 hA2 => ?_)
      · refine rd_mat T rfl ⟨dx, e2 _ _ (e1 _ _ ho)⟩ (hm.sm (e1.trans e2)) rfl rfl ⟨Int.natCast_nonneg i, by omega⟩ hlow ?_
        exact ⟨_, _, rfl, rfl, _, rfl, qt⟩
      have e3 : Same H H2 := e1.trans e2
      refine ⟨_, rfl, o, CS, dx, _, _, rfl, e3 _ _ ho, T.cl, T.n_size, rfl, n, rfl, by omega, by omega, fun B hB => ?_⟩
      rw [hz]
      refine lc_filtR (p := fun t => decide (0 ≤ at2 R high.toNat t)) (by omega) hB (fun _ => rfl) (show 8 < 13 by decide) (fun i H' hi e4 Qt qt => ?_) (fun H3 e4 hB2 => ?_)
      · refine rd_mat T rfl ⟨dx, e4 _ _ (e3 _ _ ho)⟩ (hm.sm (e3.trans e4)) rfl rfl hhigh ⟨Int.natCast_nonneg i, by omega⟩ ?_
        exact ⟨_, _, rfl, rfl, _, rfl, qt⟩
      have e5 : Same H H3 := e3.trans e4
      have nA : A ∉ rs := fun z => by
        obtain ⟨xs, hxs⟩ := hm.stand z
        rw [e1 _ _ hxs] at hA
        cases hA
      have nB : B ∉ rs := fun z => by
        obtain ⟨xs, hxs⟩ := hm.stand z
        rw [e3 _ _ hxs] at hB
        cases hB
      have hA3 := e4 _ _ hA2
      generalize hAs : (List.range n).filter (fun t => decide (0 ≤ at2 R t low.toNat)) = As at *
      generalize hBs : (List.range n).filter (fun t => decide (0 ≤ at2 R high.toNat t)) = Bs at *
      have lA : ∀ i ∈ As, i < n := fun i hi => by
        rw [← hAs] at hi
        exact List.mem_range.mp (List.mem_filter.mp hi).1
      have lB : ∀ i ∈ Bs, i < n := fun i hi => by
        rw [← hBs] at hi
        exact List.mem_range.mp (List.mem_filter.mp hi).1
      have ej : joinM n R low.toNat high.toNat strict = (pairs As Bs).foldl (stepM low.toNat high.toNat strict) R := by
        unfold joinM
        rw [hAs, hBs]
      refine ⟨_, rfl, A, rfl, ⟨_, .inl (.inl hA3)⟩, ?_⟩
      refine for_list (xs := As.map fun t : Nat => V.int t) (fun i σ' H' => ∃ u v w, σ' = [some (.ref o), some (.int x), some (.int y), some (.bl b), some (.int low), some (.int high), some (.int strict), some (.ref A), none, some (.ref B), u, v, w] ∧ But rs H3 H' ∧ MatAt H' m rs n ((pairs (As.take i) Bs).foldl (stepM low.toNat high.toNat strict) R))
        ⟨none, none, none, rfl, fun _ _ z _ => z, hm.sm e5⟩ (fun i σ' H' hi p => ?_) (fun i xv σ' H' hi p => ?_) (fun σ' H' p => ?_)
      · obtain ⟨_, _, _, _, p2, _⟩ := p
        exact .inl (.inl (p2 _ _ hA3 nA))
      · obtain ⟨u, v, w, rfl, p2, p3⟩ := p
        obtain ⟨a, ha, rfl⟩ := map_get hi
        have la := lA a (List.mem_of_getElem? ha)
        refine ⟨_, rfl, B, rfl, ⟨_, .inl (.inl (p2 _ _ hB2 nB))⟩, ?_⟩
        refine for_list (xs := Bs.map fun t : Nat => V.int t) (fun j σ' H' => ∃ v w, σ' = [some (.ref o), some (.int x), some (.int y), some (.bl b), some (.int low), some (.int high), some (.int strict), some (.ref A), none, some (.ref B), some (.int a), v, w] ∧ But rs H3 H' ∧ MatAt H' m rs n ((pairs (As.take i) Bs ++ (Bs.take j).map fun c => (a, c)).foldl (stepM low.toNat high.toNat strict) R))
          ⟨v, w, rfl, p2, ?_⟩ (fun j σ' H' hj p => ?_) (fun j xv σ' H' hj p => ?_) (fun σ' H' p => ?_)
        · rw [List.take_zero, List.map_nil, List.append_nil]
          exact p3
        · obtain ⟨_, _, _, p2, _⟩ := p
          exact .inl (.inl (p2 _ _ hB2 nB))
        · obtain ⟨v, w, rfl, p2, p3⟩ := p
          obtain ⟨c, hc, rfl⟩ := map_get hj
          have lc := lB c (List.mem_of_getElem? hc)
          have so' : Stp CS H' o m n := ⟨dx, p2 _ _ (e5 _ _ ho) hor⟩
          have ha0 : 0 ≤ ((a : Nat) : Int) ∧ ((a : Nat) : Int) < n := ⟨Int.natCast_nonneg a, by omega⟩
          have hc0 : 0 ≤ ((c : Nat) : Int) ∧ ((c : Nat) : Int) < n := ⟨Int.natCast_nonneg c, by omega⟩
          refine rd_mat T rfl so' p3 rfl rfl ha0 hlow ?_
          refine ⟨_, rfl, ?_⟩
          refine rd_mat T rfl so' p3 rfl rfl hhigh hc0 ?_
          refine ⟨_, _, _, rfl, ?_⟩
          refine rd_mat T rfl so' p3 rfl rfl ha0 hc0 ?_
          refine ⟨_, rfl, _, _, rfl, ?_⟩
          obtain ⟨dx', ho'⟩ := so'
          obtain ⟨r, xs, h1, h2, h3, h4, h5⟩ := p3.cell la lc
          refine ⟨_, rfl, o, CS, dx', _, .ref m, rfl, ho', T.cl, T.n_rows, rfl, _, rfl, m, _, _, .ref r, rfl, rfl, .inl (.inl p3.top), atI_nat (get_map h1), _, rfl, r, _, _, c, rfl, rfl, h3, ?_, ?_⟩
          · exact ixN_int hc0.1 (by rw [List.length_map, h4]; exact hc0.2)
          · refine ⟨_, _, rfl, fun b' z hb' hn' => ?_, ?_⟩
            · rw [upd_ne (fun ee => hn' (by rw [ee]; exact List.mem_of_getElem? h1))]
              exact p2 b' z hb' hn'
            · have ef : (pairs (As.take i) Bs ++ (Bs.take (j + 1)).map fun c => (a, c)).foldl (stepM low.toNat high.toNat strict) R = stepM low.toNat high.toNat strict ((pairs (As.take i) Bs ++ (Bs.take j).map fun c => (a, c)).foldl (stepM low.toNat high.toNat strict) R) (a, c) := by
                rw [take_more hc, List.map_append, ← List.append_assoc, List.foldl_append]
                rfl
              rw [ef]
              generalize (pairs (As.take i) Bs ++ (Bs.take j).map fun c => (a, c)).foldl (stepM low.toNat high.toNat strict) R = Rj at *
              have zz := p3.put (v := max (at2 Rj a c) (max (max (at2 Rj a low.toNat) strict) (at2 Rj high.toNat c))) (y := c) la h1 h2
              have em : ∀ i j : Int, (if j > i then j else i) = max i j := fun i j => by
                split <;> omega
              rw [em]
              exact zz
        · obtain ⟨v, w, rfl, p2, p3⟩ := p
          refine ⟨_, v, w, rfl, p2, ?_⟩
          rw [List.length_map, List.take_length] at p3
          rw [take_more ha]
          unfold pairs at p3 ⊢
          rw [List.flatMap_append]
          simp only [List.flatMap_cons, List.flatMap_nil, List.append_nil]
          exact p3
      · obtain ⟨u, v, w, rfl, p2, p3⟩ := p
        rw [List.length_map, List.take_length, ← ej] at p3
        exact q2 H' (fun b' z hb' hn' => p2 b' z (e5 _ _ hb') hn') p3
/-! ### steps_of -/
def spStepsOf : Sp := fun vs H Q _ => ∃ (n : Nat) (l : Addr) (log : List Qu), vs = [.int n, .ref l] ∧ n ≤ 30 ∧ LogAt H l log ∧ (∀ q ∈ log, (0 ≤ q.1 ∧ q.1 < n) ∧ (0 ≤ q.2.1 ∧ q.2.1 < n)) ∧
  (stepsM n log = none → ∀ H', Same H H' → Q .non H') ∧ ∀ R, stepsM n log = some R → ∀ o H', Same H H' → Q (.ref o) H'
theorem ok_steps_of (T : Txt K mg CS CE CT) : Ok P w K mg base CX0 3 "steps_of" P_steps_of spStepsOf := by
  refine T.d_steps_of.ok0 sc_steps_of (fun _ _ _ _ _ _ us hl => match us, hl with | [_, _], _ => rfl) (fun vs H Q E h => ?_) (fun f cdv A outer s H vs Q E hr h => ?_)
  · obtain ⟨_, _, _, rfl, _⟩ := h
    rfl
  · obtain ⟨n, l, log, rfl, hn, hl, hg, q1, q2⟩ := h
    refine ⟨_, (pss_cons (ps_set (i := 2) sc_steps_of.nd rfl (Or.inl rfl) (pe_makeO (ok_Steps_init T) (hr.mono (by decide)) T.c_Steps pass0 (pa_cons (pv 0) pa_nil)))
  (pss_cons (ps_for PassesOwn.never rfl (pi_list (pv 1)) (pg_tup rfl (pgs_cons (pg_name (i := 3) sc_steps_of.nd rfl (Or.inl rfl)) (pgs_cons (pg_name (i := 4) sc_steps_of.nd rfl (Or.inl rfl)) (pgs_cons (pg_name (i := 5) sc_steps_of.nd rfl (Or.inl rfl)) pgs_nil)))) (pss_one (ps_if (pt_not (pt_val (pe_methO (pv 2) T.cl (ok_Steps_add T) (hr.mono (by decide)) pass0 (pa_cons (pv 3) (pa_cons (pv 4) (pa_cons (pv 5) pa_nil)))))) (pss_one (ps_ret pe_non)) pss_nil)))
  (pss_one (ps_ret (pv 2))))), ?_⟩
    refine ⟨_, rfl, fun x dx hx hdx hne => ?_⟩
    refine ⟨x, dx, n, rfl, hn, upd_same, fun H' m rs bt hx' hm fr => ⟨rfl, ?_⟩⟩
    have hxs : ∀ r ∈ m :: rs, r ≠ x := fun r hr z => by
      have := fr r hr
      rw [z, upd_same] at this
      cases this
    have e0 : Same H H' := fun b o e => by
      have nx : b ≠ x := ne_of_none e hx
      have nd : b ≠ dx := ne_of_none e hdx
      refine bt b o ?_ (fun z => nx (List.mem_singleton.mp z))
      rw [upd_ne nx, upd_ne nd]
      exact e
    have frs : ∀ r ∈ rs, H r = none := fun r hr => by
      have h1 := fr r (List.mem_cons_of_mem _ hr)
      rw [upd_ne (hxs r (List.mem_cons_of_mem _ hr))] at h1
      cases e : H r with
      | none => rfl
      | some o =>
        rw [upd_ne (ne_of_none e hdx), e] at h1
        cases h1
    obtain ⟨ts, h1, h2, h3⟩ := hl
    refine ⟨_, rfl, l, rfl, ⟨_, .inl (.inl (e0 _ _ h1))⟩, ?_⟩
    refine for_list (xs := ts.map V.ref) (fun i σ' H2 => ∃ u v w R, σ' = [some (.int n), some (.ref l), some (.ref x), u, v, w] ∧ Same H H2 ∧ Stp CS H2 x m n ∧ MatAt H2 m rs n R ∧ goM n (log.drop i) R = stepsM n log)
      ⟨none, none, none, newMat n, rfl, e0, ⟨dx, hx'⟩, hm, rfl⟩ (fun i σ' H2 hi p => ?_) (fun i xv σ' H2 hi p => ?_) (fun σ' H2 p => ?_)
    · obtain ⟨_, _, _, _, _, p2, _⟩ := p
      exact .inl (.inl (p2 _ _ h1))
    · obtain ⟨u, v, w, R, rfl, p2, p3, p4, p5⟩ := p
      obtain ⟨t, ht, rfl⟩ := map_get hi
      obtain ⟨q, hq⟩ := get_at (l := log) (i := i) (by rw [← h2]; exact get_lt ht)
      have htq := p2 _ _ (h3 i t q ht hq)
      obtain ⟨g1, g2⟩ := hg q (List.mem_of_getElem? hq)
      have ed : log.drop i = q :: log.drop (i + 1) := by
        rw [List.drop_eq_getElem_cons (get_lt hq)]
        rw [List.getElem?_eq_getElem (get_lt hq)] at hq
        rw [Option.some.inj hq]
      rw [ed] at p5
      obtain ⟨x1, y1, b1⟩ := q
      refine ⟨_, _, rfl, .inl (.inl htq), rfl, _, _, rfl, _, _, rfl, _, _, rfl, rfl, ?_⟩
      obtain ⟨dx', ho⟩ := p3
      refine ⟨_, rfl, x, dx', _, rfl, ho, rfl, _, rfl, _, rfl, _, rfl, x, m, rs, n, R, x1, y1, b1, rfl, hn, ⟨dx', ho⟩, fun z => hxs x (List.mem_cons_of_mem _ z) rfl, p4, g1, g2, fun ea => ?_, fun R' ea H3 bt3 m3 => ?_⟩
      · refine ⟨_, rfl, iteT' (by rfl) ?_⟩
        refine q1 ?_ H2 p2
        rw [← p5]
        show (match addM n R x1.toNat y1.toNat b1 with | some R' => goM n (log.drop (i + 1)) R' | none => none) = none
        rw [ea]
      · refine ⟨_, rfl, iteF' (by rfl) ?_⟩
        refine ⟨_, _, _, R', rfl, fun b o z => bt3 b o (p2 _ _ z) (fun hb => ?_), ⟨dx', bt3 _ _ ho (fun z => hxs x (List.mem_cons_of_mem _ z) rfl)⟩, m3, ?_⟩
        · rw [frs b hb] at z
          cases z
        · rw [← p5]
          show _ = (match addM n R x1.toNat y1.toNat b1 with | some R' => goM n (log.drop (i + 1)) R' | none => none)
          rw [ea]
    · obtain ⟨u, v, w, R, rfl, p2, p3, p4, p5⟩ := p
      rw [List.length_map, h2, List.drop_length] at p5
      exact ⟨_, rfl, q2 R p5.symm x H2 p2⟩
/-! ### is_record -/
def spIsRecord : Sp := fun vs H Q _ => ∃ (p : Addr) (r : Rec), vs = [.ref p] ∧ RecAt H p r ∧ ∀ H', Same H H' → Q (.bl (recOk r)) H'
theorem ok_is_record (T : Txt K mg CS CE CT) : Ok P w K mg base CX0 4 "is_record" P_is_record spIsRecord := by
  refine T.d_is_record.ok0 sc_is_record (fun _ _ _ _ _ _ us hl => match us, hl with | [_], _ => rfl) (fun vs H Q E h => ?_) (fun f cdv A outer s H vs Q E hr h => ?_)
  · obtain ⟨_, _, rfl, _⟩ := h
    rfl
  · obtain ⟨p, ⟨n, log, b⟩, rfl, ⟨l, hp, hl⟩, q⟩ := h
    obtain ⟨tM, gMOST⟩ := T.g_MOST
    have hl : LogAt H l log := hl
    obtain ⟨ts, h1, h2, h3⟩ := id hl
    refine ⟨_, (pss_cons (ps_if (PW.pt (pw_or (pt_not (pt_val (pe_callB call_isi (by rfl) T.f_isinstance (by decide +kernel) (pa_cons (pv 0) (pa_cons (pe_bltn (v := .ty "tuple") (by rfl) T.f_tuple (by decide +kernel) rfl) pa_nil))))) (pw_or (pt_cmpR op_ne (pe_callB call_len (by rfl) T.f_len (by decide +kernel) (pa_cons (pv 0) pa_nil)) pe_int (nomark _)) (pw_or1 (pt_not (pt_val (pe_callO (ok_is_int T) (hr.mono (by decide)) pass0 (pa_cons (pe_ix ix_tup (pv 0) pe_int (fun _ _ => rfl)) (pa_cons pe_int (pa_cons (pe_glob (v := .int 30) (by rfl) gMOST ⟨_, rfl⟩) pa_nil)))))))))) (pss_one (ps_ret pe_bl)) pss_nil)
  (pss_cons (ps_if (PW.pt (pw_or (pt_not (pt_val (pe_callB call_isi (by rfl) T.f_isinstance (by decide +kernel) (pa_cons (pe_ix ix_tup (pv 0) pe_int (fun _ _ => rfl)) (pa_cons (pe_bltn (v := .ty "list") (by rfl) T.f_list (by decide +kernel) rfl) pa_nil))))) (pw_or (pt_cmpR op_gt (pe_callB call_len (by rfl) T.f_len (by decide +kernel) (pa_cons (pe_ix ix_tup (pv 0) pe_int (fun _ _ => rfl)) pa_nil)) pe_int (nomark _)) (pw_or1 (pt_not (pt_val (pe_callB call_isi (by rfl) T.f_isinstance (by decide +kernel) (pa_cons (pe_ix ix_tup (pv 0) pe_int (fun _ _ => rfl)) (pa_cons (pe_bltn (v := .ty "bool") (by rfl) T.f_bool (by decide +kernel) rfl) pa_nil))))))))) (pss_one (ps_ret pe_bl)) pss_nil)
  (pss_one (ps_ret (pe_and (pe_callB (cr_all rfl) (by rfl) T.f_all (by decide +kernel) (pa_cons (pe_lc (own := [("one", 1)]) rfl sc_is_record.nd (pi_list (pe_ix ix_tup (pv 0) pe_int (fun _ _ => rfl))) (blkOk_by (N := N_is_record) (sc := defScope s_is_record) (by decide +kernel)) (fun _ _ _ _ _ => (pg_name (i := 1) sc_is_record.nd rfl (Or.inl rfl))) (fun _ _ _ _ _ => pts_nil) (fun _ _ _ _ _ => (pe_callO (ok_is_answer T) (hr.mono (by decide)) pass0 (pa_cons (pv 1) (pa_cons (pe_ix (ix_tupK K rfl) (pv 0) pe_int (fun _ _ => rfl)) pa_nil))))) pa_nil)) (pe_one (pe_cmpR op_notN (pe_callO (ok_steps_of T) (hr.mono (by decide)) pass0 (pa_cons (pe_ix ix_tup (pv 0) pe_int (fun _ _ => rfl)) (pa_cons (pe_ix ix_tup (pv 0) pe_int (fun _ _ => rfl)) pa_nil))) pe_non (nomark _)))))))), ?_⟩
    refine ⟨_, rfl, _, .ty "tuple", .type "tuple", .type "tuple", true, rfl, .ty _, .base (.tup hp), kit_ty (by decide +kernel), true, rfl, iteF ?_⟩
    refine ⟨_, rfl, _, _, rfl, .inr ⟨_, .inl (.inl hp), rfl⟩, rfl, _, rfl, iteF ?_⟩
    refine ⟨_, rfl, _, _, _, _, rfl, rfl, .inl (.inl hp), rfl, n, 1, 30, rfl, _, rfl, ?_⟩
    by_cases c1 : 1 ≤ n ∧ n ≤ 30
    · refine iteF' (by show (!decide (1 ≤ n ∧ n ≤ 30)) = false; rw [decide_eq_true c1]; rfl) ?_
      refine ⟨_, rfl, _, _, _, _, rfl, rfl, .inl (.inl hp), rfl, _, .ty "list", .type "list", .type "list", true, rfl, .ty _, .base (.lst h1), kit_ty (by decide +kernel), true, rfl, iteF ?_⟩
      refine ⟨_, rfl, _, _, _, _, rfl, rfl, .inl (.inl hp), rfl, _, _, rfl, .inl ⟨_, .inl (.inl h1), rfl⟩, _, _, rfl, rfl, _, rfl, ?_⟩
      rw [List.length_map, h2]
      by_cases c2 : log.length ≤ 900
      · refine iteF' (decide_eq_false (by omega)) ?_
        refine ⟨_, rfl, _, _, _, _, rfl, rfl, .inl (.inl hp), rfl, _, .ty "bool", .type "bool", .type "bool", true, rfl, .ty _, .base (.bl b), kit_ty (by decide +kernel), true, rfl, iteF ?_⟩
        refine ⟨_, rfl, _, _, _, _, rfl, rfl, .inl (.inl hp), rfl, l, rfl, ⟨_, .inl (.inl h1)⟩, fun D hD => ?_⟩
        refine lc_mapL (log.map fun q => V.bl (ansOk n q)) (by rw [List.length_map, List.length_map, h2]) (by rw [List.length_map]; omega) hD (.inl (.inl h1)) (fun i x y H' hi hy e' Qe qe => ?_) (fun H' e' hd => ?_)
        · obtain ⟨t, ht, rfl⟩ := map_get hi
          obtain ⟨q0, hq0, rfl⟩ := map_get hy
          refine ⟨rfl, ?_⟩
          refine ⟨_, rfl, _, rfl, _, _, _, _, rfl, rfl, .inl (.inl (e' _ _ hp)), rfl, t, q0, n, rfl, e' _ _ (h3 i t q0 ht hq0), ?_⟩
          exact qe H' (Same.refl _)
        · refine ⟨D, log.map fun q => ansOk n q, rfl, ?_, ?_⟩
          · rw [List.map_map]
            exact .inl (.inl hd)
          · refine ⟨_, rfl, ?_⟩
            have e : (log.map fun q => ansOk n q).all id = log.all (ansOk n) := by
              rw [List.all_map]
              rfl
            rw [e]
            cases ca : log.all (ansOk n) with
            | false =>
              refine iteF ?_
              have er : recOk (n, log, b) = false := by
                unfold recOk
                show (decide (1 ≤ n ∧ n ≤ 30) && (decide (log.length ≤ 900) && (log.all (ansOk n) && _))) = false
                rw [ca]
                simp
              have z := q H' e'
              rw [er] at z
              exact z
            | true =>
              refine iteT ?_
              have hg : ∀ q ∈ log, (0 ≤ q.1 ∧ q.1 < (n.toNat : Nat)) ∧ (0 ≤ q.2.1 ∧ q.2.1 < (n.toNat : Nat)) := fun q0 hq0 => by
                have z := List.all_eq_true.mp ca q0 hq0
                unfold ansOk at z
                rw [Bool.and_eq_true, Bool.and_eq_true] at z
                have z1 := of_decide_eq_true z.1
                have z2 := of_decide_eq_true z.2.1
                omega
              have en : ((n.toNat : Nat) : Int) = n := by omega
              have hstep : recOk (n, log, b) = (stepsM n.toNat log).isSome := by
                unfold recOk
                show (decide (1 ≤ n ∧ n ≤ 30) && (decide (log.length ≤ 900) && (log.all (ansOk n) && (stepsM n.toNat log).isSome))) = _
                rw [ca, decide_eq_true c1, decide_eq_true c2]
                rfl
              refine ⟨_, rfl, _, _, _, _, rfl, rfl, .inl (.inl (e' _ _ hp)), rfl, _, rfl, _, _, _, _, rfl, rfl, .inl (.inl (e' _ _ hp)), rfl, n.toNat, l, log, by rw [en], by omega, hl.same e', hg, fun es H2 e2 => ?_, fun R es o H2 e2 => ?_⟩
              · refine ⟨rfl, ?_⟩
                have z := q H2 (e'.trans e2)
                rw [hstep, es] at z
                exact z
              · refine ⟨rfl, ?_⟩
                have z := q H2 (e'.trans e2)
                rw [hstep, es] at z
                exact z
      · refine iteT' (decide_eq_true (by omega)) ?_
        have er : recOk (n, log, b) = false := by
          unfold recOk
          show (decide (1 ≤ n ∧ n ≤ 30) && (decide (log.length ≤ 900) && _)) = false
          rw [decide_eq_false c2]
          simp
        have z := q H (Same.refl _)
        rw [er] at z
        exact z
    · refine iteT' (by show (!decide (1 ≤ n ∧ n ≤ 30)) = true; rw [decide_eq_false c1]; rfl) ?_
      have er : recOk (n, log, b) = false := by
        unfold recOk
        show (decide (1 ≤ n ∧ n ≤ 30) && _) = false
        rw [decide_eq_false c1]
        rfl
      have z := q H (Same.refl _)
      rw [er] at z
      exact z
end
end K20
/-! K20C: check_row, check_record, format_row, record_text, format_record. -/
namespace K20
open PySem PySem.Spec PyProof.Rows L2
/-! ### texts -/
theorem eq_mk {z : Str} {l : List Nat} (h : tl z = l) : z = mkS l := by
  rw [← h]
theorem tl_ap (x y : Str) : tl (x ++ y) = tl x ++ tl y := TL.tl_append x y
theorem mk_ap (a b : List Nat) : mkS a ++ mkS b = mkS (a ++ b) := eq_mk (by rw [tl_ap])
theorem mk_len (l : List Nat) : (mkS l).length = l.length := by
  show l.toArray.size = l.length
  exact List.size_toArray
theorem mk_int (i : Int) : Str.ofString (toString i) = mkS (showI i) := eq_mk (tl_int i)
theorem mk_inj {a b : List Nat} (h : mkS a = mkS b) : a = b := by
  have e : tl (mkS a) = tl (mkS b) := by rw [h]
  exact e
theorem deq_mk (a b : List Nat) : decide (V.str (mkS a) = V.str (mkS b)) = decide (a = b) := by
  by_cases h : a = b
  · rw [h, decide_eq_true rfl, decide_eq_true rfl]
  · rw [decide_eq_false h, decide_eq_false fun e => h (mk_inj (V.str.inj e))]
theorem join_mk {s : Str} {S : List Nat} (hs : tl s = S) (ws : List (List Nat)) : Txt.join s (ws.map mkS) = mkS (TL.joinL S ws) := by
  rw [TL.join_eq]
  refine eq_mk ?_
  have h : tl (Str.join s (ws.map mkS)) = TL.joinL (tl s) ((ws.map mkS).map tl) := TL.tl_join s (ws.map mkS)
  rw [h, hs, List.map_map]
  congr 1
  have e : (tl ∘ mkS) = id := rfl
  rw [e, List.map_id]
theorem log_small {i : Int} (h : i.natAbs ≤ 1000000) : i.natAbs.log2 < 1920 := by
  by_cases z : i.natAbs = 0
  · rw [z]
    decide
  · have h2 : i.natAbs.log2 < 30 := (Nat.log2_lt z).mpr (by
      have : (2 : Nat) ^ 30 = 1073741824 := by decide
      omega)
    omega
theorem showI_len {n : Int} (h1 : -99 ≤ n) (h2 : n ≤ 99) : (showI n).length ≤ 3 := (numW_show (numW_of h1 h2)).2.2
theorem sum_le {c : Nat} : ∀ {l : List Nat}, (∀ x ∈ l, x ≤ c) → l.sum ≤ l.length * c
  | [], _ => by simp
  | x :: r, h => by
    have h1 := h x List.mem_cons_self
    have h2 := sum_le fun y hy => h y (List.mem_cons_of_mem x hy)
    rw [List.sum_cons, List.length_cons, Nat.succ_mul]
    omega
theorem join_size {c n : Nat} {ws : List (List Nat)} {s : Str} (hs : s.length ≤ 1) (h : ∀ w ∈ ws, w.length ≤ c) (hn : ws.length ≤ n) (hz : n * c + n ≤ 16777216) : (((ws.map mkS).map (·.length)).sum + (ws.map mkS).length * s.length) ≤ 16777216 := by
  have h1 := sum_le (c := c) (l := (ws.map mkS).map (·.length)) fun x hx => by
    rw [List.map_map] at hx
    obtain ⟨w, hw, rfl⟩ := List.mem_map.mp hx
    show (mkS w).length ≤ c
    rw [mk_len]
    exact h w hw
  rw [List.length_map, List.length_map] at h1
  rw [List.length_map]
  have h2 : ws.length * s.length ≤ ws.length * 1 := Nat.mul_le_mul_left _ hs
  have h3 : ws.length * c ≤ n * c := Nat.mul_le_mul_right _ hn
  omega
section
variable {P : Program} {w : World} {K : PySem.W.Frag} {mg : Str → Option Value} {base : Heap} {CS CE CT : Addr}
/-! ### check_row, check_record: of what is right -/
def spCheckRow : Sp := fun vs H Q _ => ∃ (a : Addr) (ns : List Int), vs = [.ref a] ∧ H a = some (.lst (ns.map V.int)) ∧ rowOkL ns = true ∧ ∀ H', Same H H' → Q .non H'
theorem ok_check_row (T : Txt K mg CS CE CT) : Ok P w K mg base CX0 3 "check_row" P_check_row spCheckRow := by
  refine T.d_check_row.ok0 sc_check_row (fun _ _ _ _ _ _ us hl => match us, hl with | [_], _ => rfl) (fun vs H Q E h => ?_) (fun f cdv A outer s H vs Q E hr h => ?_)
  · obtain ⟨_, _, rfl, _⟩ := h
    rfl
  · obtain ⟨a, ns, rfl, ha, hok, q⟩ := h
    refine ⟨_, (pss_one (ps_if (pt_not (pt_val (pe_callO (ok_is_row T) (hr.mono (by decide)) pass0 (pa_cons (pv 0) pa_nil)))) (pss_one ps_never) pss_nil)), ?_⟩
    refine ⟨_, rfl, a, ns, rfl, ha, by have := (rowOk_all hok).1; omega, fun H' e => ?_⟩
    refine ⟨_, rfl, iteF' (by rw [hok]; rfl) ?_⟩
    exact q H' e
def spCheckRecord : Sp := fun vs H Q _ => ∃ (p : Addr) (r : Rec), vs = [.ref p] ∧ RecAt H p r ∧ recOk r = true ∧ ∀ H', Same H H' → Q .non H'
theorem ok_check_record (T : Txt K mg CS CE CT) : Ok P w K mg base CX0 5 "check_record" P_check_record spCheckRecord := by
  refine T.d_check_record.ok0 sc_check_record (fun _ _ _ _ _ _ us hl => match us, hl with | [_], _ => rfl) (fun vs H Q E h => ?_) (fun f cdv A outer s H vs Q E hr h => ?_)
  · obtain ⟨_, _, rfl, _⟩ := h
    rfl
  · obtain ⟨p, r, rfl, hp, hok, q⟩ := h
    refine ⟨_, (pss_one (ps_if (pt_not (pt_val (pe_callO (ok_is_record T) (hr.mono (by decide)) pass0 (pa_cons (pv 0) pa_nil)))) (pss_one ps_never) pss_nil)), ?_⟩
    refine ⟨_, rfl, p, r, rfl, hp, fun H' e => ?_⟩
    refine ⟨_, rfl, iteF' (by rw [hok]; rfl) ?_⟩
    exact q H' e
/-! ### format_row -/
def spFormatRow : Sp := fun vs H Q _ => ∃ (a : Addr) (ns : List Int), vs = [.ref a] ∧ H a = some (.lst (ns.map V.int)) ∧ rowOkL ns = true ∧ ∀ H', Same H H' → Q (.str (mkS (rowL ns))) H'
theorem row_size {ns : List Int} (h : rowOkL ns = true) (s : Str) (hs : s.length ≤ 1) : ((((ns.map showI).map mkS).map (·.length)).sum + ((ns.map showI).map mkS).length * s.length) ≤ 16777216 := by
  obtain ⟨h1, h2⟩ := rowOk_all h
  refine join_size (c := 3) (n := 30) hs (fun w hw => ?_) (by rw [List.length_map]; exact h1) (by decide)
  obtain ⟨n, hn, rfl⟩ := List.mem_map.mp hw
  exact showI_len (h2 n hn).1 (h2 n hn).2
theorem ok_format_row (T : Txt K mg CS CE CT) : Ok P w K mg base CX0 4 "format_row" P_format_row spFormatRow := by
  refine T.d_format_row.ok0 sc_format_row (fun _ _ _ _ _ _ us hl => match us, hl with | [_], _ => rfl) (fun vs H Q E h => ?_) (fun f cdv A outer s H vs Q E hr h => ?_)
  · obtain ⟨_, _, rfl, _⟩ := h
    rfl
  · obtain ⟨a, ns, rfl, ha, hok, q⟩ := h
    obtain ⟨h1, h2⟩ := rowOk_all hok
    refine ⟨_, (pss_cons (ps_expr (pe_callO (ok_check_row T) (hr.mono (by decide)) pass0 (pa_cons (pv 0) pa_nil)))
  (pss_one (ps_ret (pe_join pe_str (pe_lc (own := [("one", 1)]) rfl sc_format_row.nd (pi_list (pv 0)) (blkOk_by (N := N_format_row) (sc := defScope s_format_row) (by decide +kernel)) (fun _ _ _ _ _ => (pg_name (i := 1) sc_format_row.nd rfl (Or.inl rfl))) (fun _ _ _ _ _ => pts_nil) (fun _ _ _ _ _ => (pe_callTy call_str_int (by rfl) T.f_str (by decide +kernel) (pa_cons (pv 1) pa_nil)))))))), ?_⟩
    refine ⟨_, rfl, a, ns, rfl, ha, hok, fun H' e => ?_⟩
    refine ⟨⟨_, rfl⟩, _, rfl, a, rfl, ⟨_, .inl (.inl (e _ _ ha))⟩, fun D hD => ?_⟩
    refine lc_mapL (((ns.map showI).map mkS).map V.str) (by simp) (by rw [List.length_map]; omega) hD (.inl (.inl (e _ _ ha))) (fun i x y H2 hi hy e' Qe qe => ?_) (fun H2 e' hd => ?_)
    · obtain ⟨n, hn, rfl⟩ := map_get hi
      obtain ⟨z, hz, rfl⟩ := map_get hy
      obtain ⟨u, hu, rfl⟩ := map_get hz
      obtain ⟨n', hn', rfl⟩ := map_get hu
      rw [hn] at hn'
      cases hn'
      have hm := h2 n (List.mem_of_getElem? hn)
      refine ⟨rfl, _, rfl, n, rfl, log_small (by omega), ?_⟩
      rw [← mk_int] at qe
      exact qe H2 (Same.refl _)
    · refine ⟨_, D, (ns.map showI).map mkS, rfl, rfl, .inl (.inl (.inl hd)), row_size hok _ (by decide), ?_⟩
      rw [join_mk (S := [32]) rfl]
      exact q H2 (e.trans e')
/-! ### record_text -/
def spRecordText : Sp := fun vs H Q _ => ∃ (p : Addr) (r : Rec), vs = [.ref p] ∧ RecAt H p r ∧ recOk r = true ∧ ∀ H', Same H H' → Q (.str (mkS (recL r))) H'
theorem quL_len {n : Int} {q : Qu} (hn : n ≤ 30) (h1 : 0 ≤ q.1 ∧ q.1 ≤ n - 1) (h2 : 0 ≤ q.2.1 ∧ q.2.1 ≤ n - 1) : (quL q).length ≤ 8 := by
  have a := showI_len (n := q.1) (by omega) (by omega)
  have b := showI_len (n := q.2.1) (by omega) (by omega)
  unfold quL
  rw [List.length_append, List.length_append, List.length_append, List.length_singleton, List.length_singleton]
  omega
theorem rec_size {r : Rec} (h : recOk r = true) (s : Str) (hs : s.length ≤ 1) : ((((recWords r).map mkS).map (·.length)).sum + ((recWords r).map mkS).length * s.length) ≤ 16777216 := by
  obtain ⟨h1, h2, h3, _⟩ := recOk_parts h
  refine join_size (c := 8) (n := 902) hs (fun w hw => ?_) ?_ (by decide)
  · unfold recWords at hw
    rcases List.mem_append.mp hw with hw | hw
    · rcases List.mem_append.mp hw with hw | hw
      · rw [List.mem_singleton.mp hw, List.length_append, List.length_singleton]
        have := showI_len (n := r.1) (by omega) (by omega)
        omega
      · obtain ⟨q, hq, rfl⟩ := List.mem_map.mp hw
        obtain ⟨a, b, _⟩ := h3 q hq
        exact quL_len h1.2 a b
    · split at hw
      · rw [List.mem_singleton.mp hw]
        decide
      · cases hw
  · unfold recWords
    rw [List.length_append, List.length_append, List.length_singleton, List.length_map]
    split
    · rw [List.length_singleton]
      omega
    · rw [List.length_nil]
      omega
theorem ok_record_text (T : Txt K mg CS CE CT) : Ok P w K mg base CX0 1 "record_text" P_record_text spRecordText := by
  refine T.d_record_text.ok0 sc_record_text (fun _ _ _ _ _ _ us hl => match us, hl with | [_], _ => rfl) (fun vs H Q E h => ?_) (fun f cdv A outer s H vs Q E hr h => ?_)
  · obtain ⟨_, _, rfl, _⟩ := h
    rfl
  · obtain ⟨p, ⟨n, log, b⟩, rfl, ⟨l, hp, hl⟩, hok, q⟩ := h
    have hl : LogAt H l log := hl
    obtain ⟨ts, h1, h2, h3⟩ := id hl
    obtain ⟨g1, g2, g3, _⟩ := recOk_parts hok
    have g1 : 1 ≤ n ∧ n ≤ 30 := g1
    have g2 : log.length ≤ 900 := g2
    have g3 : ∀ q ∈ log, (0 ≤ q.1 ∧ q.1 ≤ n - 1) ∧ (0 ≤ q.2.1 ∧ q.2.1 ≤ n - 1) ∧ q.1 ≠ q.2.1 := g3
    refine ⟨_, (pss_cons (ps_setLc (i := 1) (own := [("one", 2), ("other", 3), ("answer", 4)]) rfl sc_record_text.nd rfl rfl (sw_true rfl rfl rfl (by decide +kernel)) (pi_list (pe_ix ix_tup (pv 0) pe_int (fun _ _ => rfl))) (blkOk_by (N := N_record_text) (sc := defScope s_record_text) (by decide +kernel)) (fun _ _ _ _ _ => (pg_tupK (n := 3) K rfl rfl (pgs_cons (pg_name (i := 2) sc_record_text.nd rfl (Or.inl rfl)) (pgs_cons (pg_name (i := 3) sc_record_text.nd rfl (Or.inl rfl)) (pgs_cons (pg_name (i := 4) sc_record_text.nd rfl (Or.inl rfl)) pgs_nil))))) (fun _ _ _ _ _ => pts_nil) (fun _ _ _ _ _ => (pe_op op_add_str (pe_op op_add_str (pe_op op_add_str (pe_callTy call_str_int (by rfl) T.f_str (by decide +kernel) (pa_cons (pv 2) pa_nil)) pe_str) (pe_callTy call_str_int (by rfl) T.f_str (by decide +kernel) (pa_cons (pv 3) pa_nil))) (pe_ifExp (pt_val (pv 4)) pe_str pe_str))))
  (pss_one (ps_ret (pe_join pe_str (pe_op op_cat (pe_op op_cat (pe_lst (pa_cons (pe_op op_add_str (pe_callTy call_str_int (by rfl) T.f_str (by decide +kernel) (pa_cons (pe_ix ix_tup (pv 0) pe_int (fun _ _ => rfl)) pa_nil)) pe_str) pa_nil)) (pv 1)) (pe_ifExp (pt_val (pe_ix ix_tup (pv 0) pe_int (fun _ _ => rfl))) (pe_lst (pa_cons pe_str pa_nil)) (pe_lst pa_nil))))))), ?_⟩
    refine ⟨_, rfl, _, _, _, _, rfl, rfl, .inl (.inl hp), rfl, l, rfl, ⟨_, .inl (.inl h1)⟩, fun D hD => ?_⟩
    refine lc_mapL ((log.map quL).map fun w => V.str (mkS w)) (by simp [h2]) (by rw [List.length_map]; omega) hD (.inl (.inl h1)) (fun i x y H2 hi hy e' Qe qe => ?_) (fun H2 e' hd => ?_)
    · obtain ⟨t, ht, rfl⟩ := map_get hi
      obtain ⟨u, hu, rfl⟩ := map_get hy
      obtain ⟨q0, hq0, rfl⟩ := map_get hu
      obtain ⟨k1, k2, _⟩ := g3 q0 (List.mem_of_getElem? hq0)
      have htq := e' _ _ (h3 i t q0 ht hq0)
      obtain ⟨x1, y1, b1⟩ := q0
      have k1 : 0 ≤ x1 ∧ x1 ≤ n - 1 := k1
      have k2 : 0 ≤ y1 ∧ y1 ≤ n - 1 := k2
      have l1 := showI_len (n := x1) (by omega) (by omega)
      have l2 := showI_len (n := y1) (by omega) (by omega)
      refine ⟨_, _, rfl, .inl (.inl htq), rfl, _, _, rfl, _, _, rfl, _, _, rfl, rfl, rfl, ?_⟩
      have key : ∀ z : Str, tl z = [if b1 then 43 else 45] → Qe (.str (mkS (showI x1 ++ [60] ++ showI y1) ++ z)) H2 := fun z hz => by
        have e : mkS (showI x1 ++ [60] ++ showI y1) ++ z = mkS (quL (x1, y1, b1)) := by
          refine eq_mk ?_
          rw [tl_ap, hz]
          rfl
        rw [e]
        exact qe H2 (Same.refl _)
      refine ⟨_, rfl, x1, rfl, log_small (by omega), ?_⟩
      rw [show (toString x1 : String) = toString x1 from rfl]
      show ∃ i j : Str, V.str (Str.ofString (toString x1)) = .str i ∧ V.str "<" = .str j ∧ i.length + j.length ≤ sizeLine ∧ _
      rw [mk_int]
      have lz : ∀ {k : Nat}, k ≤ 1000 → k ≤ sizeLine := fun h => sz (by omega)
      have c1 : ("<" : Str).length = 1 := rfl
      refine ⟨_, _, rfl, rfl, lz (by rw [mk_len, c1]; omega), ?_⟩
      refine ⟨_, rfl, y1, rfl, log_small (by omega), ?_⟩
      show ∃ i j : Str, V.str (mkS (showI x1) ++ "<") = .str i ∧ V.str (Str.ofString (toString y1)) = .str j ∧ i.length + j.length ≤ sizeLine ∧ _
      rw [mk_int, show ("<" : Str) = mkS [60] from rfl, mk_ap]
      refine ⟨_, _, rfl, rfl, lz (by rw [mk_len, mk_len, List.length_append, List.length_singleton]; omega), ?_⟩
      rw [mk_ap]
      have l3 : (mkS (showI x1 ++ [60] ++ showI y1)).length + 1 ≤ sizeLine := lz (by rw [mk_len, List.length_append, List.length_append, List.length_singleton]; omega)
      refine ⟨_, rfl, _, rfl, ?_⟩
      cases b1 with
      | true =>
        refine iteT ⟨_, _, rfl, rfl, l3, ?_⟩
        exact key "+" rfl
      | false =>
        refine iteF ⟨_, _, rfl, rfl, l3, ?_⟩
        exact key "-" rfl
    · have lz : ∀ {k : Nat}, k ≤ 10000 → k ≤ sizeLine := fun h => sz (by omega)
      have l1 := showI_len (n := n) (by omega) (by omega)
      refine ⟨⟨_, rfl⟩, _, rfl, _, _, _, _, rfl, rfl, .inl (.inl (e' _ _ hp)), rfl, n, rfl, log_small (by omega), ?_⟩
      show ∃ i j : Str, V.str (Str.ofString (toString n)) = .str i ∧ V.str ":" = .str j ∧ i.length + j.length ≤ sizeLine ∧ _
      rw [mk_int, show (":" : Str) = mkS [58] from rfl]
      refine ⟨_, _, rfl, rfl, lz (by rw [mk_len, mk_len, List.length_singleton]; omega), lz (show 1 ≤ 10000 by decide), fun A hA => ?_⟩
      rw [mk_ap]
      refine ⟨_, rfl, A, D, _, _, rfl, rfl, upd_same, (same_upd hA) _ _ hd, lz (by simp; omega), fun B hB => ?_⟩
      have e2 := (e'.trans (same_upd hA)).trans (same_upd (o := .lst ([V.str (mkS (showI n ++ [58]))] ++ (log.map quL).map fun w => V.str (mkS w))) hB)
      have hB2 : (upd (upd H2 A (.lst [V.str (mkS (showI n ++ [58]))])) B (.lst ([V.str (mkS (showI n ++ [58]))] ++ (log.map quL).map fun w => V.str (mkS w)))) B = some (.lst ([V.str (mkS (showI n ++ [58]))] ++ (log.map quL).map fun w => V.str (mkS w))) := upd_same
      generalize upd (upd H2 A (.lst [V.str (mkS (showI n ++ [58]))])) B (.lst ([V.str (mkS (showI n ++ [58]))] ++ (log.map quL).map fun w => V.str (mkS w))) = H3 at *
      have hw : ([V.str (mkS (showI n ++ [58]))] ++ (log.map quL).map (fun w => V.str (mkS w)) ++ (if b then [V.str "end"] else [])) = ((recWords (n, log, b)).map mkS).map V.str := by
        unfold recWords
        cases b <;> simp <;> rfl
      refine ⟨_, rfl, _, _, _, _, rfl, rfl, .inl (.inl (e2 _ _ hp)), rfl, _, rfl, ?_⟩
      have fin : ∀ (F : Addr) (H4 : Hp), Same H H4 → H4 F = some (.lst ([V.str (mkS (showI n ++ [58]))] ++ (log.map quL).map (fun w => V.str (mkS w)) ++ (if b then [V.str "end"] else []))) →
          ∃ a p, ∃ ys : List Str, V.str " " = .str a ∧ [V.ref F] = [.ref p] ∧ (SqL K H4 p (ys.map V.str) ∨ SqT K H4 p (ys.map V.str)) ∧ (ys.map (·.length)).sum + ys.length * a.length ≤ 16777216 ∧ Q (.str (Txt.join a ys)) H4 := fun F H4 e4 h4 => by
        rw [hw] at h4
        refine ⟨_, F, (recWords (n, log, b)).map mkS, rfl, rfl, .inl (.inl (.inl h4)), rec_size hok _ (by decide), ?_⟩
        rw [join_mk (S := [32]) rfl]
        exact q H4 e4
      cases b with
      | true =>
        refine iteT ⟨lz (show 1 ≤ 10000 by decide), fun C hC => ?_⟩
        refine ⟨B, C, _, _, rfl, rfl, (same_upd hC) _ _ hB2, upd_same, lz (by simp; omega), fun F hF => ?_⟩
        exact fin F _ ((e2.trans (same_upd hC)).trans (same_upd hF)) upd_same
      | false =>
        refine iteF ⟨lz (show 0 ≤ 10000 by decide), fun C hC => ?_⟩
        refine ⟨B, C, _, _, rfl, rfl, (same_upd hC) _ _ hB2, upd_same, lz (by simp; omega), fun F hF => ?_⟩
        exact fin F _ ((e2.trans (same_upd hC)).trans (same_upd hF)) upd_same
/-! ### format_record -/
theorem ok_format_record (T : Txt K mg CS CE CT) : Ok P w K mg base CX0 6 "format_record" P_format_record spRecordText := by
  refine T.d_format_record.ok0 sc_format_record (fun _ _ _ _ _ _ us hl => match us, hl with | [_], _ => rfl) (fun vs H Q E h => ?_) (fun f cdv A outer s H vs Q E hr h => ?_)
  · obtain ⟨_, _, rfl, _⟩ := h
    rfl
  · obtain ⟨p, r, rfl, hp, hok, q⟩ := h
    refine ⟨_, (pss_cons (ps_expr (pe_callO (ok_check_record T) (hr.mono (by decide)) pass0 (pa_cons (pv 0) pa_nil)))
  (pss_one (ps_ret (pe_callO (ok_record_text T) (hr.mono (by decide)) pass0 (pa_cons (pv 0) pa_nil))))), ?_⟩
    refine ⟨_, rfl, p, r, rfl, hp, hok, fun H' e => ?_⟩
    exact ⟨_, rfl, p, r, rfl, hp.same e, hok, fun H2 e2 => q H2 (e.trans e2)⟩
end
end K20
/-! K20D: check_text, number_in, answer_in, parse_row, parse_record. -/
namespace K20
open PySem PySem.Spec PyProof.Rows L2
theorem tIf_same {t : TT} {ta tb : TE} {σ : L2.St} {H : Hp} {Q : VK} (c : Bool) (v : V) (ht : ∀ Qt : Bool → Hp → Prop, Qt c H → t σ H Qt) (ha : c = true → ∀ Q : VK, Q v H → ta σ H Q) (hb : c = false → ∀ Q : VK, Q v H → tb σ H Q) (q : Q v H) : tIf t ta tb σ H Q := by
  refine ht _ ?_
  cases c with
  | true => exact iteT (ha rfl _ q)
  | false => exact iteF (hb rfl _ q)
/-! ### slices -/
theorem cut_hd (w : List Nat) (k : Nat) : cutS (mkS w) none (some (k : Int)) = mkS (w.take k) := by
  refine eq_mk ?_
  show (w.drop (HT.sIx (mkS w).length 0 none)).take (HT.sIx (mkS w).length (mkS w).length (some (k : Int)) - HT.sIx (mkS w).length 0 none) = w.take k
  rw [HT.sIx_none, HT.sIx_nat, mk_len, List.drop_zero, Nat.sub_zero]
  rcases Nat.le_total k w.length with h | h
  · rw [Nat.min_eq_left h]
  · rw [Nat.min_eq_right h, List.take_of_length_le h, List.take_length]
theorem cut_tl (w : List Nat) (k : Nat) : cutS (mkS w) (some (k : Int)) none = mkS (w.drop k) := by
  refine eq_mk ?_
  show (w.drop (HT.sIx (mkS w).length 0 (some (k : Int)))).take (HT.sIx (mkS w).length (mkS w).length none - HT.sIx (mkS w).length 0 (some (k : Int))) = w.drop k
  rw [HT.sIx_none, HT.sIx_nat, mk_len]
  rcases Nat.le_total k w.length with h | h
  · rw [Nat.min_eq_left h]
    exact List.take_of_length_le (by rw [List.length_drop]; exact Nat.le_refl _)
  · rw [Nat.min_eq_right h, List.drop_of_length_le h, List.drop_length, List.take_nil]
theorem sIx_m1 (n d : Nat) : HT.sIx n d (some (-1)) = n - 1 := by
  show (if (-1 : Int) < 0 then ((-1 : Int) + (n : Int)).toNat else min (-1 : Int).toNat n) = _
  rw [if_pos (by decide)]
  omega
theorem cut_init (w : List Nat) : cutS (mkS w) none (some (-1)) = mkS w.dropLast := by
  refine eq_mk ?_
  show (w.drop (HT.sIx (mkS w).length 0 none)).take (HT.sIx (mkS w).length (mkS w).length (some (-1)) - HT.sIx (mkS w).length 0 none) = _
  rw [HT.sIx_none, sIx_m1, mk_len, List.drop_zero, Nat.sub_zero, List.dropLast_eq_take]
theorem cut_end (w : List Nat) : cutS (mkS w) (some (-1)) none = mkS (w.drop (w.length - 1)) := by
  refine eq_mk ?_
  show (w.drop (HT.sIx (mkS w).length 0 (some (-1)))).take (HT.sIx (mkS w).length (mkS w).length none - HT.sIx (mkS w).length 0 (some (-1))) = _
  rw [HT.sIx_none, sIx_m1, mk_len]
  exact List.take_of_length_le (by rw [List.length_drop]; exact Nat.le_refl _)
/-! ### the signs of a text -/
theorem lc_mapS {z : Str} {g : TG} {te : TE} {vs : List Nat} {σ : L2.St} {H1 : Hp} {D : Addr} {Qd : Hp → Prop} (ys : List V) (hl : ys.length = z.cps.toList.length) (hz : z.cps.toList.length ≤ 1000000) (hD : H1 D = none)
    (hs : ∀ (i c : Nat) (y : V) (H' : Hp), z.cps.toList[i]? = some c → ys[i]? = some y → Same H1 H' → ∀ Qe : VK, (∀ H4, Same H' H4 → Qe y H4) → g (.str ⟨#[c]⟩) (wipe σ vs) H' fun σ2 H2 => wipe σ2 vs = wipe σ vs ∧ te σ2 H2 Qe)
    (hd : ∀ H', Same H1 H' → H' D = some (.lst ys) → Qd H') :
    ∃ W : Nat → Nat → Hp → Prop, (∃ m, W 0 m (upd H1 D (.lst []))) ∧ ∀ i m H, W i m H →
      ((Its z).stop i H ∧ Qd H) ∨ ((Its z).go i H ∧ ∃ Nx : Hp → Prop, (∀ H', Nx H' → ∃ m', m' < m ∧ W (i + 1) m' H') ∧ ∀ x H', (Its z).yld i H x H' → g x (wipe σ vs) H' fun σ2 H2 => wipe σ2 vs = wipe σ vs ∧ tYes σ2 H2 fun b H3 =>
        if b = true then te σ2 H3 fun y H4 => ∃ acc, H4 D = some (.lst acc) ∧ acc.length < sizeLine ∧ Nx (upd H4 D (.lst (acc ++ [y]))) else Nx H3) := by
  have hsz : z.cps.size = z.cps.toList.length := by simp
  refine ⟨fun i m H => m = z.cps.size - i ∧ i ≤ z.cps.size ∧ Same H1 H ∧ H D = some (.lst (ys.take i)), ⟨_, rfl, Nat.zero_le _, same_mut (Same.refl _) hD, upd_same⟩, ?_⟩
  rintro i m H ⟨rfl, hi, p1, p2⟩
  by_cases hlt : i < z.cps.size
  · refine .inr ⟨hlt, fun H => Same H1 H ∧ H D = some (.lst (ys.take (i + 1))), fun H' p => ⟨z.cps.size - (i + 1), by omega, rfl, hlt, p⟩, ?_⟩
    rintro x H' ⟨rfl, c, hc, rfl⟩
    have hc' : z.cps.toList[i]? = some c := by
      rw [Array.getElem?_toList]
      exact hc
    obtain ⟨y, hy⟩ := get_at (l := ys) (i := i) (by omega)
    refine hs i c y H' hc' hy p1 (fun y H4 => ∃ acc, H4 D = some (.lst acc) ∧ acc.length < sizeLine ∧ (Same H1 (upd H4 D (.lst (acc ++ [y]))) ∧ (upd H4 D (.lst (acc ++ [y]))) D = some (.lst (ys.take (i + 1))))) (fun H4 e4 => ?_)
    refine ⟨ys.take i, e4 _ _ p2, ?_, ?_, ?_⟩
    · refine sz' ?_
      rw [List.length_take]
      omega
    · exact same_mut (p1.trans e4) hD
    · rw [upd_same, take_more hy]
  · refine .inl ⟨by show z.cps.size ≤ i; omega, hd H p1 ?_⟩
    have e : i = z.cps.size := by omega
    rw [p2, e, hsz, ← hl, List.take_length]
def NonText (H : Hp) (x : V) : Prop := x = .non ∨ (∃ i, x = .int i) ∨ ∃ a xs, x = .ref a ∧ H a = some (.lst xs)
theorem NonText.same {H H' : Hp} {x : V} (h : NonText H x) (e : Same H H') : NonText H' x := by
  rcases h with h | h | ⟨a, xs, h1, h2⟩
  · exact .inl h
  · exact .inr (.inl h)
  · exact .inr (.inr ⟨a, xs, h1, e _ _ h2⟩)
section
variable {P : Program} {w : World} {K : PySem.W.Frag} {mg : Str → Option Value} {base : Heap} {CS CE CT : Addr}
/-! ### check_text -/
def spCheckText (CT : Addr) : Sp := fun vs H Q E => ∃ x, vs = [x] ∧ ((NonText H x ∧ E (.ref CT) none H) ∨ ((∃ z, x = .str z) ∧ Q .non H))
theorem ok_check_text (T : Txt K mg CS CE CT) : Ok P w K mg base (L2.CX P w) 1 "check_text" P_check_text (spCheckText CT) := by
  refine T.d_check_text.ok sc_check_text (fun _ _ _ _ _ _ us hl => match us, hl with | [_], _ => rfl) (fun vs H Q E h => ?_) (fun f cdv A outer s H vs Q E hr h => ?_)
  · obtain ⟨_, rfl, _⟩ := h
    rfl
  · obtain ⟨x, rfl, h⟩ := h
    refine ⟨_, (pss_one (ps_if (pt_not (pt_val (pe_callB call_isi (by rfl) T.f_isinstance (by decide +kernel) (pa_cons (pv 0) (pa_cons (pe_bltn (v := .ty "str") (by rfl) T.f_str (by decide +kernel) rfl) pa_nil))))) (pss_one (ps_raise rfl (takes_of rfl rfl rfl rfl) (pmk_own PySem.F.excBase_ValueError T.e_text.x T.e_text.g T.e_text.k (raises_own T.e_text.b T.e_text.t) rfl))) pss_nil)), ?_⟩
    rcases h with ⟨h, q⟩ | ⟨⟨z, rfl⟩, q⟩
    · rcases h with rfl | ⟨i, rfl⟩ | ⟨a, xs, rfl, ha⟩
      · refine ⟨_, rfl, _, .ty "str", .type "NoneType", .type "str", false, rfl, .ty _, .base .non, kit_ty (by decide +kernel), false, rfl, iteT ?_⟩
        exact q
      · refine ⟨_, rfl, _, .ty "str", .type "int", .type "str", false, rfl, .ty _, .base (.int i), kit_ty (by decide +kernel), false, rfl, iteT ?_⟩
        exact q
      · refine ⟨_, rfl, _, .ty "str", .type "list", .type "str", false, rfl, .ty _, .base (.lst ha), kit_ty (by decide +kernel), false, rfl, iteT ?_⟩
        exact q
    · refine ⟨_, rfl, _, .ty "str", .type "str", .type "str", true, rfl, .ty _, .base (.str z), kit_ty (by decide +kernel), true, rfl, iteF ?_⟩
      exact q
/-! ### number_in -/
def spNumberIn (CT : Addr) : Sp := fun vs H Q E => ∃ l : List Nat, vs = [.str (mkS l)] ∧ l.length ≤ 1000000 ∧ (∀ n, numW l = some n → ∀ H', Same H H' → Q (.int n) H') ∧ (numW l = none → ∀ H', Same H H' → E (.ref CT) none H')
theorem ok_number_in (T : Txt K mg CS CE CT) : Ok P w K mg base (L2.CX P w) 1 "number_in" P_number_in (spNumberIn CT) := by
  refine T.d_number_in.ok sc_number_in (fun _ _ _ _ _ _ us hl => match us, hl with | [_], _ => rfl) (fun vs H Q E h => ?_) (fun f cdv A outer s H vs Q E hr h => ?_)
  · obtain ⟨_, rfl, _⟩ := h
    rfl
  · obtain ⟨l, rfl, hz, q1, q2⟩ := h
    obtain ⟨tD, gDIGITS⟩ := T.g_DIGITS
    have hzl : (mkS l).length ≤ sizeLine := sz (by rw [mk_len]; omega)
    refine ⟨_, (pss_cons (ps_set (i := 1) sc_number_in.nd rfl (Or.inl rfl) (pe_ifExp (pt_cmpR op_eq (pe_slice sl_str (pv 0) po_none (po_some pe_int)) pe_str (nomark _)) (pe_slice sl_str (pv 0) (po_some pe_int) po_none) (pv 0)))
  (pss_cons (ps_if (PW.pt (pw_or (pt_not (pt_chain op_le op_le pe_int (pe_callB call_len_str (by rfl) T.f_len (by decide +kernel) (pa_cons (pv 1) pa_nil)) pe_int)) (pw_or (pt_not (pt_val (pe_callB (cr_all rfl) (by rfl) T.f_all (by decide +kernel) (pa_cons (pe_lc (own := [("sign", 2)]) rfl sc_number_in.nd (pi_str (pv 1)) (blkOk_by (N := N_number_in) (sc := defScope s_number_in) (by decide +kernel)) (fun _ _ _ _ _ => (pg_name (i := 2) sc_number_in.nd rfl (Or.inl rfl))) (fun _ _ _ _ _ => pts_nil) (fun _ _ _ _ _ => (pe_cmpR op_in_sign (pv 2) (pe_glob (v := .str "0123456789") (by rfl) gDIGITS ⟨_, rfl⟩) (by rfl)))) pa_nil)))) (pw_or1 (pt_cmpR op_ne (pe_callTy call_str_int (by rfl) T.f_str (by decide +kernel) (pa_cons (pe_callTy call_int_str (by rfl) T.f_int (by decide +kernel) (pa_cons (pv 0) pa_nil)) pa_nil)) (pv 0) (nomark _)))))) (pss_one (ps_raise rfl (takes_of rfl rfl rfl rfl) (pmk_own PySem.F.excBase_ValueError T.e_text.x T.e_text.g T.e_text.k (raises_own T.e_text.b T.e_text.t) rfl))) pss_nil)
  (pss_one (ps_ret (pe_callTy call_int_str (by rfl) T.f_int (by decide +kernel) (pa_cons (pv 0) pa_nil)))))), ?_⟩
    refine tIf_same (decide (l.take 1 = [45])) (.str (mkS (figs l))) (fun Qt qt => ?_) (fun c Q' q' => ?_) (fun c Q' q' => ?_) ?_
    · refine ⟨_, rfl, 1, rfl, _, rfl, hzl, rfl, _, rfl, ?_⟩
      have e : cutS (mkS l) none (some 1) = mkS (l.take 1) := cut_hd l 1
      rw [e, show ("-" : Str) = mkS [45] from rfl, deq_mk]
      exact qt
    · refine ⟨_, rfl, 1, rfl, _, rfl, hzl, ?_⟩
      have e : cutS (mkS l) (some 1) none = mkS (l.drop 1) := cut_tl l 1
      rw [e]
      unfold figs at q'
      rw [if_pos (of_decide_eq_true c)] at q'
      exact q'
    · refine ⟨_, rfl, ?_⟩
      unfold figs at q'
      rw [if_neg (of_decide_eq_false c)] at q'
      exact q'
    have hfl : (figs l).length ≤ l.length := by
      unfold figs
      split
      · rw [List.length_drop]
        omega
      · exact Nat.le_refl _
    refine ⟨_, rfl, _, rfl, sz (by rw [mk_len]; omega), _, _, rfl, rfl, _, rfl, ?_⟩
    rw [mk_len]
    have out : ∀ {H' : Hp}, Same H H' → ¬ ((1 ≤ (figs l).length ∧ (figs l).length ≤ 2) ∧ (figs l).all isDig = true ∧ showI (valW l) = l) → E (.ref CT) none H' := fun {H'} e c => by
      refine q2 ?_ H' e
      unfold numW
      by_cases c1 : 1 ≤ (figs l).length ∧ (figs l).length ≤ 2
      · rw [decide_eq_true c1, Bool.true_and]
        by_cases c2 : (figs l).all isDig = true
        · rw [if_pos c2, if_neg (fun z => c ⟨c1, c2, z⟩)]
        · rw [if_neg c2]
      · rw [decide_eq_false c1, Bool.false_and]
        rfl
    by_cases c1 : 1 ≤ (figs l).length
    · rw [decide_eq_true (show (1 : Int) ≤ ((figs l).length : Nat) by omega)]
      refine iteT ⟨_, _, rfl, rfl, _, rfl, ?_⟩
      by_cases c2 : (figs l).length ≤ 2
      · refine iteF' (by rw [decide_eq_true (show (((figs l).length : Nat) : Int) ≤ 2 by omega)]; rfl) ?_
        refine ⟨_, rfl, mkS (figs l), rfl, fun D hD => ?_⟩
        refine lc_mapS (z := mkS (figs l)) (((figs l).map isDig).map V.bl) (by rw [List.length_map, List.length_map]) (by show (figs l).length ≤ 1000000; omega) hD (fun i c y H2 hi hy e' Qe qe => ?_) (fun H2 e' hd => ?_)
        · obtain ⟨b, hb, rfl⟩ := map_get hy
          obtain ⟨c', hc', rfl⟩ := map_get hb
          have ec : c' = c := Option.some.inj (hc'.symm.trans hi)
          subst ec
          refine ⟨rfl, _, rfl, c', _, rfl, rfl, ?_⟩
          have hDg : ("0123456789" : Str).cps.toList = [48, 49, 50, 51, 52, 53, 54, 55, 56, 57] := by decide +kernel
          rw [hDg]
          exact qe H2 (Same.refl _)
        · refine ⟨D, _, rfl, .inl (.inl hd), ?_⟩
          have ea : ((figs l).map isDig).all id = (figs l).all isDig := by
            rw [List.all_map]
            rfl
          rw [ea]
          refine ⟨_, rfl, ?_⟩
          by_cases c3 : (figs l).all isDig = true
          · rw [c3]
            refine iteF' (by rfl) ?_
            obtain ⟨i1, i2⟩ := int_word c1 c2 c3
            have vb := valW_bound c2 c3
            refine ⟨_, rfl, mkS l, _, rfl, i1, by rw [mk_len]; omega, valW l, rfl, log_small (by omega), ?_⟩
            show ∃ v, _ ∧ _
            refine ⟨_, rfl, rfl, ?_⟩
            refine ⟨_, rfl, ?_⟩
            show if (!decide (V.str (Str.ofString (toString (valW l))) = V.str (mkS l))) = true then _ else _
            rw [mk_int, deq_mk]
            by_cases c4 : showI (valW l) = l
            · refine iteF' (by rw [decide_eq_true c4]; rfl) ?_
              refine ⟨_, rfl, mkS l, _, rfl, i1, by rw [mk_len]; omega, ?_⟩
              refine q1 _ ?_ H2 e'
              unfold numW
              rw [decide_eq_true ⟨c1, c2⟩, c3, if_pos c4]
              rfl
            · refine iteT' (by rw [decide_eq_false c4]; rfl) ?_
              exact out e' fun z => c4 z.2.2
          · have c3' : (figs l).all isDig = false := by
              cases hh : (figs l).all isDig
              · rfl
              · exact absurd hh c3
            rw [c3']
            refine iteT' (by rfl) ?_
            refine iteT ?_
            exact out e' fun z => c3 z.2.1
      · refine iteT' (by rw [decide_eq_false (show ¬ (((figs l).length : Nat) : Int) ≤ 2 by omega)]; rfl) ?_
        refine iteT ?_
        exact out (Same.refl _) fun z => c2 z.1.2
    · rw [decide_eq_false (show ¬ (1 : Int) ≤ ((figs l).length : Nat) by omega)]
      refine iteF ⟨_, rfl, ?_⟩
      refine iteT' (by rfl) ?_
      refine iteT ?_
      exact out (Same.refl _) fun z => c1 z.1.1
/-! ### answer_in -/
theorem split_mk {s : Str} {c : Nat} (hs : tl s = [c]) (hc : s.cps.all (· < 256) = true) (l : List Nat) : Txt.split (mkS l) s = (splitL c l).map mkS := by
  have h : (Txt.split (mkS l) s).map tl = TL.spl (tl s) 0 [] l := TL.split_spl (mkS l) s (by show tl s ≠ []; rw [hs]; exact List.cons_ne_nil _ _) (TL.kind_ok hc)
  rw [hs] at h
  unfold splitL
  rw [← h, List.map_map]
  have e : (mkS ∘ tl) = id := rfl
  rw [e, List.map_id]
theorem spl_mem {s : Nat} : ∀ (l acc : List Nat) (n : Nat), acc.length + l.length ≤ n → ∀ p ∈ TL.spl [s] 0 acc l, p.length ≤ n
  | [], acc, n, h, p, hp => by
    rw [TL.spl_nil] at hp
    rw [List.mem_singleton.mp hp]
    omega
  | c :: r, acc, n, h, p, hp => by
    rw [List.length_cons] at h
    cases hh : TL.pre [s] (c :: r) with
    | true =>
      rw [TL.spl_hit hh] at hp
      rcases List.mem_cons.mp hp with e | e
      · rw [e]
        omega
      · exact spl_mem r [] n (by rw [List.length_nil]; omega) p e
    | false =>
      rw [TL.spl_miss hh] at hp
      exact spl_mem r _ n (by rw [List.length_append, List.length_singleton]; omega) p hp
theorem split_mem {s : Nat} {l p : List Nat} (h : p ∈ splitL s l) : p.length ≤ l.length := spl_mem l [] _ (by rw [List.length_nil]; omega) p h
theorem spl_count {s : Nat} : ∀ (l acc : List Nat), (TL.spl [s] 0 acc l).length ≤ l.length + 1
  | [], acc => by
    rw [TL.spl_nil]
    exact Nat.le_refl _
  | c :: r, acc => by
    cases hh : TL.pre [s] (c :: r) with
    | true =>
      rw [TL.spl_hit hh, List.length_cons, List.length_cons]
      have := spl_count (s := s) r []
      exact Nat.succ_le_succ this
    | false =>
      rw [TL.spl_miss hh, List.length_cons]
      have := spl_count (s := s) r (acc ++ [c])
      omega
theorem two_of {α : Type} {l : List α} (h : l.length = 2) : ∃ a b, l = [a, b] := match l, h with
  | [a, b], _ => ⟨a, b, rfl⟩
def spAnswerIn (CT : Addr) : Sp := fun vs H Q E => ∃ l : List Nat, vs = [.str (mkS l)] ∧ l.length ≤ 1000000 ∧ (∀ q, quW l = some q → ∀ H' p, Same H H' → H p = none → H' p = some (.tup [.int q.1, .int q.2.1, .bl q.2.2]) → Q (.ref p) H') ∧ (quW l = none → ∀ H', Same H H' → E (.ref CT) none H')
theorem ok_answer_in (T : Txt K mg CS CE CT) : Ok P w K mg base (L2.CX P w) 2 "answer_in" P_answer_in (spAnswerIn CT) := by
  refine T.d_answer_in.ok sc_answer_in (fun _ _ _ _ _ _ us hl => match us, hl with | [_], _ => rfl) (fun vs H Q E h => ?_) (fun f cdv A outer s H vs Q E hr h => ?_)
  · obtain ⟨_, rfl, _⟩ := h
    rfl
  · obtain ⟨l, rfl, hz, q1, q2⟩ := h
    have hzl : (mkS l).length ≤ sizeLine := sz (by rw [mk_len]; omega)
    refine ⟨_, (pss_cons (ps_set (i := 1) sc_answer_in.nd rfl (Or.inl rfl) (pe_split (pe_slice sl_str (pv 0) po_none (po_some (pe_un un_neg pe_int))) pe_str))
  (pss_cons (ps_if (PW.pt (pw_or (pt_cmpR op_ne (pe_callB call_len (by rfl) T.f_len (by decide +kernel) (pa_cons (pv 1) pa_nil)) pe_int (nomark _)) (pw_or1 (pt_cmpR op_notIn_seq (pe_slice sl_str (pv 0) (po_some (pe_un un_neg pe_int)) po_none) (pe_tup (pa_cons pe_str (pa_cons pe_str pa_nil))) (by rfl))))) (pss_one (ps_raise rfl (takes_of rfl rfl rfl rfl) (pmk_own PySem.F.excBase_ValueError T.e_text.x T.e_text.g T.e_text.k (raises_own T.e_text.b T.e_text.t) rfl))) pss_nil)
  (pss_one (ps_ret (pe_tup (pa_cons (pe_callO (ok_number_in T) (hr.mono (by decide)) (passes_call (takes_of rfl rfl rfl rfl) (fun _ _ _ _ h => h)) (pa_cons (pe_ix ix_list (pv 1) pe_int (fun _ _ => rfl)) pa_nil)) (pa_cons (pe_callO (ok_number_in T) (hr.mono (by decide)) (passes_call (takes_of rfl rfl rfl rfl) (fun _ _ _ _ h => h)) (pa_cons (pe_ix ix_list (pv 1) pe_int (fun _ _ => rfl)) pa_nil)) (pa_cons (pe_cmpR op_eq (pe_slice sl_str (pv 0) (po_some (pe_un un_neg pe_int)) po_none) pe_str (nomark _)) pa_nil)))))))), ?_⟩
    refine ⟨_, rfl, 1, rfl, _, rfl, _, rfl, hzl, ⟨_, rfl⟩, _, _, rfl, rfl, rfl, ?_, fun D hD => ?_⟩
    · rw [cut_init]
      refine sz ?_
      rw [mk_len, List.length_dropLast]
      omega
    rw [cut_init, split_mk (c := 60) rfl (by decide +kernel)]
    have e0 : Same H (upd H D (.lst (((splitL 60 l.dropLast).map mkS).map V.str))) := same_upd hD
    have hD0 : (upd H D (.lst (((splitL 60 l.dropLast).map mkS).map V.str))) D = some (.lst (((splitL 60 l.dropLast).map mkS).map V.str)) := upd_same
    generalize upd H D (.lst (((splitL 60 l.dropLast).map mkS).map V.str)) = H1 at *
    refine ⟨_, rfl, _, _, rfl, .inl ⟨_, .inl (.inl hD0), rfl⟩, rfl, _, rfl, ?_⟩
    rw [List.length_map, List.length_map]
    by_cases c1 : (splitL 60 l.dropLast).length = 2
    · rw [c1]
      refine iteF' (by rfl) ?_
      refine ⟨_, rfl, 1, rfl, _, rfl, _, rfl, hzl, sz (show 2 ≤ 16777216 by decide), fun B hB => ?_⟩
      rw [cut_end]
      obtain ⟨a, b, hab⟩ := two_of c1
      rw [hab] at hD0
      generalize hE : l.drop (l.length - 1) = en at *
      have hin : inV (.str (mkS en)) [.str "+", .str "-"] = decide (en = [43] ∨ en = [45]) := by
        by_cases h1 : en = [43]
        · rw [h1]
          decide +kernel
        · by_cases h2 : en = [45]
          · rw [h2]
            decide +kernel
          · rw [decide_eq_false (fun z => z.elim h1 h2)]
            have z1 : (mkS [43] == mkS en) = false := beq_eq_false_iff_ne.mpr (fun z => h1 (mk_inj z).symm)
            have z2 : (mkS [45] == mkS en) = false := beq_eq_false_iff_ne.mpr (fun z => h2 (mk_inj z).symm)
            show ((mkS [43] == mkS en) || ((mkS [45] == mkS en) || false)) = false
            rw [z1, z2]
            rfl
      have hDb : (upd H1 B (.tup [.str "+", .str "-"])) D = some (.lst (([a, b].map mkS).map V.str)) := (same_upd hB) _ _ hD0
      have e1 : Same H (upd H1 B (.tup [.str "+", .str "-"])) := e0.trans (same_upd hB)
      refine ⟨B, _, rfl, .inr (.inl (.inl upd_same)), rfl, rfl, _, rfl, ?_⟩
      show if (!inV (.str (mkS en)) [.str "+", .str "-"]) = true then _ else _
      rw [hin]
      generalize upd H1 B (.tup [.str "+", .str "-"]) = H2 at *
      have hq : quW l = if (en = [43] ∨ en = [45]) then (match numW a with
          | some x => (match numW b with
            | some y => some (x, y, decide (en = [43]))
            | none => none)
          | none => none) else none := by
        unfold quW
        rw [hab, hE] <;> rfl
      have la : a.length ≤ 1000000 := by
        have h1 := split_mem (s := 60) (l := l.dropLast) (p := a) (by rw [hab]; exact List.mem_cons_self)
        rw [List.length_dropLast] at h1
        omega
      have lb : b.length ≤ 1000000 := by
        have h1 := split_mem (s := 60) (l := l.dropLast) (p := b) (by rw [hab]; exact List.mem_cons_of_mem _ List.mem_cons_self)
        rw [List.length_dropLast] at h1
        omega
      by_cases c2 : en = [43] ∨ en = [45]
      · rw [if_pos c2] at hq
        refine iteF' (by rw [decide_eq_true c2]; rfl) ?_
        refine ⟨_, rfl, D, _, 0, _, rfl, rfl, .inl (.inl hDb), rfl, a, rfl, la, fun x hx H3 e3 => ?_, fun hx H3 e3 => q2 (by rw [hq, hx]) H3 (e1.trans e3)⟩
        refine ⟨_, rfl, D, _, 1, _, rfl, rfl, .inl (.inl (e3 _ _ hDb)), rfl, b, rfl, lb, fun y hy H4 e4 => ?_, fun hy H4 e4 => q2 (by rw [hq, hx, hy]) H4 ((e1.trans e3).trans e4)⟩
        refine ⟨_, rfl, 1, rfl, _, rfl, _, rfl, hzl, rfl, sz (show 3 ≤ 16777216 by decide), fun p hp => ?_⟩
        rw [cut_end, hE, show ("+" : Str) = mkS [43] from rfl, deq_mk]
        have e5 := (e1.trans e3).trans e4
        refine q1 (x, y, decide (en = [43])) (by rw [hq, hx, hy]) _ p (e5.trans (same_upd hp)) ?_ upd_same
        cases hh : H p with
        | none => rfl
        | some o =>
          rw [e5 _ _ hh] at hp
          cases hp
      · rw [if_neg c2] at hq
        refine iteT' (by rw [decide_eq_false c2]; rfl) ?_
        exact q2 hq H2 e1
    · refine iteT' (by rw [decide_eq_false (fun z => c1 (by injection z with z; omega))]; rfl) ?_
      refine iteT ?_
      refine q2 ?_ H1 e0
      unfold quW
      split
      · rename_i a b hh
        rw [hh] at c1
        exact absurd rfl c1
      · rfl
/-! ### parse_row -/
theorem mapM_none {α : Type} {f : List Nat → Option α} : ∀ {ws : List (List Nat)} {u : List Nat}, u ∈ ws → f u = none → ws.mapM f = none
  | x :: r, u, h, e => by
    rw [List.mapM_cons]
    rcases List.mem_cons.mp h with z | z
    · rw [← z, e]
      rfl
    · rw [mapM_none z e]
      cases f x <;> rfl
theorem mapM_more {α : Type} {f : List Nat → Option α} : ∀ {ws : List (List Nat)} {u : List Nat} {xs : List α} {x : α}, ws.mapM f = some xs → f u = some x → (ws ++ [u]).mapM f = some (xs ++ [x])
  | [], u, xs, x, h, e => by
    have z : xs = [] := (Option.some.inj h).symm
    rw [z, List.nil_append, List.mapM_cons, e]
    rfl
  | y :: r, u, xs, x, h, e => by
    rw [List.mapM_cons] at h
    cases h1 : f y with
    | none =>
      rw [h1] at h
      cases h
    | some y' =>
      cases h2 : r.mapM f with
      | none =>
        rw [h1, h2] at h
        cases h
      | some r' =>
        rw [h1, h2] at h
        have z : y' :: r' = xs := Option.some.inj h
        rw [List.cons_append, List.mapM_cons, h1, mapM_more h2 e, ← z]
        rfl
theorem mapM_len {α : Type} {f : List Nat → Option α} : ∀ {ws : List (List Nat)} {xs : List α}, ws.mapM f = some xs → xs.length = ws.length
  | [], xs, h => by
    rw [(Option.some.inj h).symm]
    rfl
  | y :: r, xs, h => by
    rw [List.mapM_cons] at h
    cases h1 : f y with
    | none =>
      rw [h1] at h
      cases h
    | some y' =>
      cases h2 : r.mapM f with
      | none =>
        rw [h1, h2] at h
        cases h
      | some r' =>
        rw [h1, h2] at h
        have z : y' :: r' = xs := Option.some.inj h
        rw [← z, List.length_cons, List.length_cons, mapM_len h2]
def spParseRow (CT : Addr) : Sp := fun vs H Q E => ∃ x, vs = [x] ∧ ((NonText H x ∧ E (.ref CT) none H) ∨ ∃ t : List Nat, x = .str (mkS t) ∧ t.length ≤ 900000 ∧
  (∀ ns, parseRowL t = some ns → ∀ H' a, Same H H' → H a = none → H' a = some (.lst (ns.map V.int)) → Q (.ref a) H') ∧ (parseRowL t = none → ∀ H', Same H H' → E (.ref CT) none H'))
theorem none_back {H H' : Hp} {a : Addr} (e : Same H H') (h : H' a = none) : H a = none := by
  cases hh : H a with
  | none => rfl
  | some o =>
    rw [e _ _ hh] at h
    cases h
theorem ok_parse_row (T : Txt K mg CS CE CT) : Ok P w K mg base (L2.CX P w) 3 "parse_row" P_parse_row (spParseRow CT) := by
  refine T.d_parse_row.ok sc_parse_row (fun _ _ _ _ _ _ us hl => match us, hl with | [_], _ => rfl) (fun vs H Q E h => ?_) (fun f cdv A outer s H vs Q E hr h => ?_)
  · obtain ⟨_, rfl, _⟩ := h
    rfl
  · obtain ⟨x, rfl, h⟩ := h
    refine ⟨_, (pss_cons (ps_expr (pe_callO (ok_check_text T) (hr.mono (by decide)) (passes_call (takes_of rfl rfl rfl rfl) (fun _ _ _ _ h => h)) (pa_cons (pv 0) pa_nil)))
  (pss_cons (ps_set (i := 1) sc_parse_row.nd rfl (Or.inl rfl) (pe_ifExp (pt_cmpR op_ne (pv 0) pe_str (nomark _)) (pe_lcX (own := [("word", 2)]) rfl rfl (takes_of rfl rfl rfl rfl) rfl sc_parse_row.nd (pi_list (pe_split (pv 0) pe_str)) (blkOk_by (N := N_parse_row) (sc := defScope s_parse_row) (by decide +kernel)) (fun _ _ _ _ _ _ => (pg_name (i := 2) sc_parse_row.nd rfl (Or.inl rfl))) (fun _ _ _ _ _ _ => pts_nil) (fun _ _ _ _ _ _ passE => (pe_callO (ok_number_in T) (hr.mono (by decide)) passE (pa_cons (pv 2) pa_nil)))) (pe_lst pa_nil)))
  (pss_cons (ps_if (pt_not (pt_val (pe_callO (ok_is_row T) (hr.mono (by decide)) pass0 (pa_cons (pv 1) pa_nil)))) (pss_one (ps_raise rfl (takes_of rfl rfl rfl rfl) (pmk_own PySem.F.excBase_ValueError T.e_text.x T.e_text.g T.e_text.k (raises_own T.e_text.b T.e_text.t) rfl))) pss_nil)
  (pss_one (ps_ret (pv 1)))))), ?_⟩
    rcases h with ⟨hn, q⟩ | ⟨t, rfl, hz, q1, q2⟩
    · exact ⟨_, rfl, x, rfl, .inl ⟨hn, q⟩⟩
    · refine ⟨_, rfl, _, rfl, .inr ⟨⟨_, rfl⟩, ?_⟩⟩
      have rest : ∀ (ns : List Int) (A : Addr) (H1 : Hp), Same H H1 → H A = none → H1 A = some (.lst (ns.map V.int)) → ns.length ≤ 1000000 → (if rowOkL ns = true then some ns else none) = parseRowL t →
          spIsRow K [.ref A] H1 (fun v H2 => ∃ c, v = .bl c ∧ if (!c) = true then E (.ref CT) none H2 else ∃ u, some (some (V.ref A)) = some (some u) ∧ Q u H2) E0 := fun ns A H1 e1 hA h1 hl ep => by
        refine ⟨A, ns, rfl, h1, hl, fun H2 e2 => ⟨_, rfl, ?_⟩⟩
        cases hok : rowOkL ns with
        | true =>
          rw [hok] at ep
          refine iteF' (by rfl) ?_
          exact ⟨_, rfl, q1 ns ep.symm H2 A (e1.trans e2) hA (e2 _ _ h1)⟩
        | false =>
          rw [hok] at ep
          refine iteT' (by rfl) ?_
          exact q2 ep.symm H2 (e1.trans e2)
      refine ⟨_, rfl, rfl, _, rfl, ?_⟩
      by_cases c : t = []
      · refine iteF' (by rw [c]; decide +kernel) ?_
        refine ⟨sz (show 0 ≤ 16777216 by decide), fun A hA => ?_⟩
        refine ⟨_, rfl, rest [] A _ (same_upd hA) hA upd_same (by decide) ?_⟩
        unfold parseRowL
        rw [if_pos c]
      · refine iteT' (by show (!decide (V.str (mkS t) = V.str (mkS []))) = true; rw [deq_mk, decide_eq_false c]; rfl) ?_
        refine ⟨_, rfl, ⟨_, rfl⟩, _, _, rfl, rfl, rfl, sz (by rw [mk_len]; omega), fun B hB => ?_⟩
        rw [split_mk (c := 32) rfl (by decide +kernel)]
        have e0 : Same H (upd H B (.lst (((splitL 32 t).map mkS).map V.str))) := same_upd hB
        have hB0 : (upd H B (.lst (((splitL 32 t).map mkS).map V.str))) B = some (.lst (((splitL 32 t).map mkS).map V.str)) := upd_same
        generalize upd H B (.lst (((splitL 32 t).map mkS).map V.str)) = H1 at *
        have hcnt : (splitL 32 t).length ≤ 900001 := by
          have := spl_count (s := 32) t []
          unfold splitL
          omega
        refine ⟨B, rfl, ⟨_, .inl (.inl hB0)⟩, fun D hD => ?_⟩
        refine lc_list (xs := ((splitL 32 t).map mkS).map V.str) (fun i H' => ∃ ns, ((splitL 32 t).take i).mapM numW = some ns ∧ Same H1 H' ∧ H' D = some (.lst (ns.map V.int))) ⟨[], rfl, same_upd hD, upd_same⟩ (fun i H' hi p => ?_) (fun i xv H' hi p => ?_) (fun H' p => ?_)
        · obtain ⟨_, _, p2, _⟩ := p
          exact .inl (.inl (p2 _ _ hB0))
        · obtain ⟨ns, p1, p2, p3⟩ := p
          obtain ⟨z, hz1, rfl⟩ := map_get hi
          obtain ⟨u, hu, rfl⟩ := map_get hz1
          have hum := List.mem_of_getElem? hu
          refine ⟨rfl, _, rfl, u, rfl, ?_, fun n hn H3 e3 => ?_, fun hn H3 e3 => ?_⟩
          · have := split_mem hum
            omega
          · refine ⟨_, e3 _ _ p3, ?_, ns ++ [n], ?_, same_mut (p2.trans e3) hD, ?_⟩
            · refine sz' ?_
              rw [List.length_map, mapM_len p1, List.length_take]
              omega
            · rw [take_more hu]
              exact mapM_more p1 hn
            · rw [upd_same, List.map_append]
              rfl
          · refine q2 ?_ H3 ((e0.trans p2).trans e3)
            unfold parseRowL
            rw [if_neg c, mapM_none hum hn]
        · obtain ⟨ns, p1, p2, p3⟩ := p
          rw [List.length_map, List.length_map, List.take_length] at p1
          refine ⟨_, rfl, rest ns D H' (e0.trans p2) (none_back e0 hD) p3 ?_ ?_⟩
          · rw [mapM_len p1]
            omega
          · unfold parseRowL
            rw [if_neg c, p1]
end
end K20
/-! K20E: parse_record. -/
namespace K20
open PySem PySem.Spec PyProof.Rows L2
theorem tAndV_same {ta tb : TE} {σ : L2.St} {H : Hp} {Q : VK} (c d : Bool) (ha : ∀ Q : VK, Q (.bl c) H → ta σ H Q) (hb : c = true → ∀ Q : VK, Q (.bl d) H → tb σ H Q) (q : Q (.bl (c && d)) H) : tAndV ta tb σ H Q := by
  refine ha _ ⟨c, rfl, ?_⟩
  cases c with
  | true => exact iteT (hb rfl _ q)
  | false => exact iteF q
theorem tIf_fresh {t : TT} {ta tb : TE} {σ : L2.St} {H : Hp} {Q : VK} (c : Bool) (o : HO) (ht : ∀ Qt : Bool → Hp → Prop, Qt c H → t σ H Qt) (ha : c = true → ∀ Q : VK, (∀ p, H p = none → Q (.ref p) (upd H p o)) → ta σ H Q) (hb : c = false → ∀ Q : VK, (∀ p, H p = none → Q (.ref p) (upd H p o)) → tb σ H Q)
    (q : ∀ p, H p = none → Q (.ref p) (upd H p o)) : tIf t ta tb σ H Q := by
  refine ht _ ?_
  cases c with
  | true => exact iteT (ha rfl _ q)
  | false => exact iteF (hb rfl _ q)
theorem cutV_tl (xs : List V) (k : Nat) : cutV xs (some (k : Int)) none = xs.drop k := by
  unfold cutV
  rw [HT.sIx_none, HT.sIx_nat]
  rcases Nat.le_total k xs.length with h | h
  · rw [Nat.min_eq_left h]
    exact List.take_of_length_le (by rw [List.length_drop]; exact Nat.le_refl _)
  · rw [Nat.min_eq_right h, List.drop_of_length_le h, List.drop_length, List.take_nil]
theorem cutV_hd (xs : List V) (k : Nat) : cutV xs none (some (k : Int)) = xs.take k := by
  unfold cutV
  rw [HT.sIx_none, HT.sIx_nat, List.drop_zero, Nat.sub_zero]
  rcases Nat.le_total k xs.length with h | h
  · rw [Nat.min_eq_left h]
  · rw [Nat.min_eq_right h, List.take_of_length_le h, List.take_length]
theorem cutV_mid (xs : List V) : cutV xs (some 1) (some (-1)) = (xs.drop 1).dropLast := by
  unfold cutV
  rw [sIx_m1]
  have e : HT.sIx xs.length 0 (some 1) = min 1 xs.length := HT.sIx_nat _ _ 1
  rw [e, List.dropLast_eq_take, List.length_drop]
  rcases Nat.le_total 1 xs.length with h | h
  · rw [Nat.min_eq_left h]
  · rw [Nat.min_eq_right h]
    cases xs with
    | nil => rfl
    | cons x r =>
      have hr : r = [] := by
        rw [List.length_cons] at h
        exact List.length_eq_zero_iff.mp (by omega)
      subst hr
      rfl
theorem LogAt.push {H H4 : Hp} {D p : Addr} {log : List Qu} {q : Qu} (h : LogAt H D log) (e : Same H H4) (hp : H p = none) (h4 : H4 p = some (.tup [.int q.1, .int q.2.1, .bl q.2.2])) :
    ∃ ts : List Addr, H4 D = some (.lst (ts.map V.ref)) ∧ ts.length = log.length ∧ LogAt (upd H4 D (.lst (ts.map V.ref ++ [.ref p]))) D (log ++ [q]) := by
  obtain ⟨ts, h1, h2, h3⟩ := h
  have hpD : p ≠ D := fun z => by
    rw [z, h1] at hp
    cases hp
  refine ⟨ts, e _ _ h1, h2, ts ++ [p], ?_, ?_, fun i t q' a b => ?_⟩
  · rw [upd_same, List.map_append]
    rfl
  · rw [List.length_append, List.length_append, h2]
    rfl
  · by_cases c : i < ts.length
    · rw [List.getElem?_append_left c] at a
      rw [List.getElem?_append_left (by omega)] at b
      have z := h3 i t q' a b
      rw [upd_ne (fun ee => by rw [ee, h1] at z; cases z)]
      exact e _ _ z
    · have l := get_lt a
      rw [List.length_append, List.length_singleton] at l
      have ei : i = ts.length := by omega
      subst ei
      rw [List.getElem?_append_right (Nat.le_refl _), Nat.sub_self] at a
      rw [h2, List.getElem?_append_right (Nat.le_refl _), Nat.sub_self] at b
      cases a
      cases b
      rw [upd_ne hpD]
      exact h4
theorem LogAt.keep {H : Hp} {D l : Addr} {xs : List V} {log : List Qu} (h : LogAt H l log) (hD : H D = none) : LogAt (upd H D (.lst xs)) l log := h.same (same_upd hD)
section
variable {P : Program} {w : World} {K : PySem.W.Frag} {mg : Str → Option Value} {base : Heap} {CS CE CT : Addr}
def spParseRec (CT : Addr) : Sp := fun vs H Q E => ∃ x, vs = [x] ∧ ((NonText H x ∧ E (.ref CT) none H) ∨ ∃ t : List Nat, x = .str (mkS t) ∧ t.length ≤ 900000 ∧
  (∀ r, parseRecL t = some r → ∀ H' a, Same H H' → H a = none → RecAt H' a r → Q (.ref a) H') ∧ (parseRecL t = none → ∀ H', Same H H' → E (.ref CT) none H'))
theorem ok_parse_record (T : Txt K mg CS CE CT) : Ok P w K mg base (L2.CX P w) 5 "parse_record" P_parse_record (spParseRec CT) := by
  refine T.d_parse_record.ok sc_parse_record (fun _ _ _ _ _ _ us hl => match us, hl with | [_], _ => rfl) (fun vs H Q E h => ?_) (fun f cdv A outer s H vs Q E hr h => ?_)
  · obtain ⟨_, rfl, _⟩ := h
    rfl
  · obtain ⟨x, rfl, h⟩ := h
    refine ⟨_, (pss_cons (ps_expr (pe_callO (ok_check_text T) (hr.mono (by decide)) (passes_call (takes_of rfl rfl rfl rfl) (fun _ _ _ _ h => h)) (pa_cons (pv 0) pa_nil)))
  (pss_cons (ps_set (i := 1) sc_parse_record.nd rfl (Or.inl rfl) (pe_split (pv 0) pe_str))
  (pss_cons (ps_set (i := 2) sc_parse_record.nd rfl (Or.inl rfl) (pe_and (pe_cmpR op_gt (pe_callB call_len (by rfl) T.f_len (by decide +kernel) (pa_cons (pv 1) pa_nil)) pe_int (nomark _)) (pe_one (pe_cmpR op_eq (pe_ix ix_list (pv 1) (pe_un un_neg pe_int) (fun _ _ => rfl)) pe_str (nomark _)))))
  (pss_cons (ps_setLcX (i := 3) (own := [("word", 4)]) rfl rfl (takes_of rfl rfl rfl rfl) rfl sc_parse_record.nd rfl rfl (sw_true rfl rfl rfl (by decide +kernel)) (pi_list (pe_ifExp (pt_val (pv 2)) (pe_slice sl_list (pv 1) (po_some pe_int) (po_some (pe_un un_neg pe_int))) (pe_slice sl_list (pv 1) (po_some pe_int) po_none))) (blkOk_by (N := N_parse_record) (sc := defScope s_parse_record) (by decide +kernel)) (fun _ _ _ _ _ _ => (pg_name (i := 4) sc_parse_record.nd rfl (Or.inl rfl))) (fun _ _ _ _ _ _ => pts_nil) (fun _ _ _ _ _ _ passE => (pe_callO (ok_answer_in T) (hr.mono (by decide)) passE (pa_cons (pv 4) pa_nil))))
  (pss_cons (ps_set (i := 5) sc_parse_record.nd rfl (Or.inl rfl) (pe_tup (pa_cons (pe_callO (ok_number_in T) (hr.mono (by decide)) (passes_call (takes_of rfl rfl rfl rfl) (fun _ _ _ _ h => h)) (pa_cons (pe_slice sl_str (pe_ix ix_list (pv 1) pe_int (fun _ _ => rfl)) po_none (po_some (pe_un un_neg pe_int))) pa_nil)) (pa_cons (pv 3) (pa_cons (pv 2) pa_nil)))))
  (pss_cons (ps_if (PW.pt (pw_or (pt_not (pt_val (pe_callO (ok_is_record T) (hr.mono (by decide)) pass0 (pa_cons (pv 5) pa_nil)))) (pw_or1 (pt_cmpR op_ne (pe_callO (ok_record_text T) (hr.mono (by decide)) pass0 (pa_cons (pv 5) pa_nil)) (pv 0) (nomark _))))) (pss_one (ps_raise rfl (takes_of rfl rfl rfl rfl) (pmk_own PySem.F.excBase_ValueError T.e_text.x T.e_text.g T.e_text.k (raises_own T.e_text.b T.e_text.t) rfl))) pss_nil)
  (pss_one (ps_ret (pv 5))))))))), ?_⟩
    rcases h with ⟨hn, q⟩ | ⟨t, rfl, hz, q1, q2⟩
    · exact ⟨_, rfl, x, rfl, .inl ⟨hn, q⟩⟩
    · refine ⟨_, rfl, _, rfl, .inr ⟨⟨_, rfl⟩, ?_⟩⟩
      refine ⟨_, rfl, ⟨_, rfl⟩, _, _, rfl, rfl, rfl, sz (by rw [mk_len]; omega), fun B hB => ?_⟩
      rw [split_mk (c := 32) rfl (by decide +kernel)]
      have e0 : Same H (upd H B (.lst (((splitL 32 t).map mkS).map V.str))) := same_upd hB
      have hB0 : (upd H B (.lst (((splitL 32 t).map mkS).map V.str))) B = some (.lst (((splitL 32 t).map mkS).map V.str)) := upd_same
      have hcnt : (splitL 32 t).length ≤ 900001 := by
        have := spl_count (s := 32) t []
        unfold splitL
        omega
      have hmem : ∀ p ∈ splitL 32 t, p.length ≤ 900000 := fun p hp => by
        have := split_mem hp
        omega
      have hne : splitL 32 t ≠ [] := spl_ne t []
      have ep : parseRecL t = (match (midW (splitL 32 t)).mapM quW with
        | none => none
        | some log => (match numW ((splitL 32 t).headD []).dropLast with
          | none => none
          | some n => if (recOk (n, log, endedW (splitL 32 t)) && decide (recL (n, log, endedW (splitL 32 t)) = t)) = true then some (n, log, endedW (splitL 32 t)) else none)) := rfl
      generalize upd H B (.lst (((splitL 32 t).map mkS).map V.str)) = H1 at *
      generalize splitL 32 t = ws at *
      dsimp only [gName, tSeq, tAsg]
      refine tAndV_same (decide (1 < ws.length)) (decide (ws.getLast? = some endW)) (fun Q' q' => ?_) (fun c Q' q' => ?_) ?_
      · refine ⟨_, rfl, _, _, rfl, .inl ⟨_, .inl (.inl hB0), rfl⟩, _, _, rfl, rfl, ?_⟩
        rw [List.length_map, List.length_map]
        have ed : decide ((1 : Int) < (ws.length : Nat)) = decide (1 < ws.length) := by
          by_cases c : 1 < ws.length
          · rw [decide_eq_true c, decide_eq_true (by omega)]
          · rw [decide_eq_false c, decide_eq_false (by omega)]
        show Q' (.bl (decide ((1 : Int) < (ws.length : Nat)))) H1
        rw [ed]
        exact q'
      · obtain ⟨lw, hlw⟩ : ∃ lw, ws.getLast? = some lw := by
          cases hh : ws.getLast? with
          | none => exact absurd (List.getLast?_eq_none_iff.mp hh) hne
          | some lw => exact ⟨lw, rfl⟩
        refine ⟨_, rfl, 1, rfl, B, _, _, _, rfl, rfl, .inl (.inl hB0), atI_last (v := .str (mkS lw)) (by rw [List.getLast?_map, List.getLast?_map, hlw]; rfl), rfl, ?_⟩
        rw [show ("end" : Str) = mkS endW from rfl, deq_mk]
        have ed : decide (ws.getLast? = some endW) = decide (lw = endW) := by
          rw [hlw]
          by_cases c : lw = endW
          · rw [c, decide_eq_true rfl, decide_eq_true rfl]
          · rw [decide_eq_false c, decide_eq_false (fun z => c (Option.some.inj z))]
        rw [ed] at q'
        exact q'
      have een : (decide (1 < ws.length) && decide (ws.getLast? = some endW)) = endedW ws := rfl
      rw [een]
      dsimp only [tLc, iList]
      refine tIf_fresh (endedW ws) (.lst (((midW ws).map mkS).map V.str)) (fun Qt qt => ⟨_, rfl, _, rfl, qt⟩) (fun c Q' q' => ?_) (fun c Q' q' => ?_) (fun C hC => ?_)
      · refine ⟨_, rfl, 1, rfl, 1, rfl, _, rfl, B, _, rfl, .inl (.inl hB0), ?_⟩
        rw [cutV_mid]
        unfold midW at q'
        rw [if_pos c] at q'
        rw [← List.map_drop, ← List.map_drop, ← List.map_dropLast, ← List.map_dropLast]
        exact q'
      · refine ⟨_, rfl, 1, rfl, B, _, rfl, .inl (.inl hB0), ?_⟩
        have e1 : cutV ((ws.map mkS).map V.str) (some 1) none = ((ws.map mkS).map V.str).drop 1 := cutV_tl _ 1
        rw [e1]
        unfold midW at q'
        rw [if_neg (by rw [c]; decide)] at q'
        rw [← List.map_drop, ← List.map_drop]
        exact q'
      have hmid : ∀ p ∈ midW ws, p ∈ ws := fun p hp => by
        unfold midW at hp
        split at hp
        · exact List.mem_of_mem_drop (List.dropLast_subset _ hp)
        · exact List.mem_of_mem_drop hp
      have hmidl : (midW ws).length ≤ 900001 := by
        unfold midW
        split
        · rw [List.length_dropLast, List.length_drop]
          omega
        · rw [List.length_drop]
          omega
      have e1 : Same H1 (upd H1 C (.lst (((midW ws).map mkS).map V.str))) := same_upd hC
      have hC1 : (upd H1 C (.lst (((midW ws).map mkS).map V.str))) C = some (.lst (((midW ws).map mkS).map V.str)) := upd_same
      generalize upd H1 C (.lst (((midW ws).map mkS).map V.str)) = H2 at *
      refine ⟨C, rfl, ⟨_, .inl (.inl hC1)⟩, fun D hD => ?_⟩
      refine lc_list (xs := ((midW ws).map mkS).map V.str) (fun i H' => ∃ log, ((midW ws).take i).mapM quW = some log ∧ Same H2 H' ∧ LogAt H' D log) ⟨[], rfl, same_upd hD, [], upd_same, rfl, fun i t q a => (nomatch a)⟩ (fun i H' hi p => ?_) (fun i xv H' hi p => ?_) (fun H' p => ?_)
      · obtain ⟨_, _, p2, _⟩ := p
        exact .inl (.inl (p2 _ _ hC1))
      · obtain ⟨log, p1, p2, p3⟩ := p
        obtain ⟨z, hz1, rfl⟩ := map_get hi
        obtain ⟨u, hu, rfl⟩ := map_get hz1
        have hum := List.mem_of_getElem? hu
        have hul := hmem u (hmid u hum)
        refine ⟨rfl, _, rfl, u, rfl, by omega, fun q hq H3 p e3 hp hp3 => ?_, fun hn H3 e3 => ?_⟩
        · obtain ⟨ts, g1, g2, g3⟩ := p3.push e3 hp hp3
          refine ⟨_, g1, ?_, log ++ [q], ?_, same_mut (p2.trans e3) hD, g3⟩
          · refine sz' ?_
            rw [List.length_map, g2, mapM_len p1, List.length_take]
            omega
          · rw [take_more hu]
            exact mapM_more p1 hq
        · refine q2 ?_ H3 (((e0.trans e1).trans p2).trans e3)
          rw [ep, mapM_none hum hn]
      · obtain ⟨log, p1, p2, p3⟩ := p
        rw [List.length_map, List.length_map, List.take_length] at p1
        rw [p1] at ep
        have e4 : Same H H' := (e0.trans e1).trans p2
        have hB4 := p2 _ _ (e1 _ _ hB0)
        obtain ⟨w0, wr, hws⟩ : ∃ w0 wr, ws = w0 :: wr := by
          cases ws with
          | nil => exact absurd rfl hne
          | cons a r => exact ⟨a, r, rfl⟩
        have h0 : (ws.headD []) = w0 := by
          rw [hws]
          rfl
        have l0 : w0.length ≤ 900000 := hmem w0 (by rw [hws]; exact List.mem_cons_self)
        rw [h0] at ep
        refine ⟨_, rfl, B, _, 0, .str (mkS w0), rfl, rfl,   .inl (.inl hB4), atI_int (by decide) (by rw [hws]; rfl), 1, rfl, _, rfl, _, rfl, sz (by rw [mk_len]; omega), ?_⟩
        rw [cut_init]
        refine ⟨w0.dropLast, rfl, by rw [List.length_dropLast]; omega, fun n hn H3 e3 => ?_, fun hn H3 e3 => q2 (by rw [ep, hn]) H3 (e4.trans e3)⟩
        rw [hn] at ep
        have ep : parseRecL t = (if (recOk (n, log, endedW ws) && decide (recL (n, log, endedW ws) = t)) = true then some (n, log, endedW ws) else none) := ep
        refine ⟨_, rfl, _, rfl, sz (show 3 ≤ 16777216 by decide), fun F hF => ?_⟩
        have hF4 := none_back (e4.trans e3) hF
        have hrec : RecAt (upd H3 F (.tup [.int n, .ref D, .bl (endedW ws)])) F (n, log, endedW ws) := ⟨D, upd_same, (p3.same e3).same (same_upd hF)⟩
        have e5 : Same H (upd H3 F (.tup [.int n, .ref D, .bl (endedW ws)])) := (e4.trans e3).trans (same_upd hF)
        generalize upd H3 F (.tup [.int n, .ref D, .bl (endedW ws)]) = H5 at *
        refine ⟨_, rfl, F, _, rfl, hrec, fun H6 e6 => ⟨_, rfl, ?_⟩⟩
        cases hok : recOk (n, log, endedW ws) with
        | false =>
          rw [hok] at ep
          refine iteT' (by rfl) ?_
          refine iteT ?_
          exact q2 ep H6 (e5.trans e6)
        | true =>
          rw [hok] at ep
          refine iteF' (by rfl) ?_
          refine ⟨_, rfl, F, _, rfl, hrec.same e6, hok, fun H7 e7 => ⟨_, rfl, rfl, _, rfl, ?_⟩⟩
          rw [deq_mk]
          by_cases c : recL (n, log, endedW ws) = t
          · rw [decide_eq_true c] at ep ⊢
            refine iteF' (by rfl) ?_
            exact ⟨_, rfl, q1 _ ep H7 F ((e5.trans e6).trans e7) hF4 ((hrec.same e6).same e7)⟩
          · rw [decide_eq_false c] at ep ⊢
            refine iteT' (by rfl) ?_
            exact q2 ep H7 ((e5.trans e6).trans e7)
end
end K20
/-! K20F: the law's draws: _law_start, _law_draw, _law_pick, _law_gaps, _law_simple, _law_way, _law_row. -/
namespace K20
open PySem PySem.Spec PyProof.Rows L2
/-! ### frames -/
theorem But.refl (l : List Addr) (H : Hp) : But l H H := fun _ _ z _ => z
theorem But.trans {l : List Addr} {H H1 H2 : Hp} (a : But l H H1) (b : But l H1 H2) : But l H H2 := fun x o z hx => b x o (a x o z hx) hx
theorem But.of {l : List Addr} {H H' : Hp} (e : Same H H') : But l H H' := fun x o z _ => e x o z
theorem But.mono {l m : List Addr} {H H' : Hp} (a : But l H H') (h : ∀ x ∈ l, x ∈ m) : But m H H' := fun x o z hx => a x o z fun y => hx (h x y)
theorem But.fresh {l : List Addr} {H : Hp} {p : Addr} {o : HO} (h : H p = none) : But l H (upd H p o) := But.of (same_upd h)
theorem But.at {l : List Addr} {H : Hp} {p : Addr} {o : HO} (h : p ∈ l) : But l H (upd H p o) := fun x o' z hx => by
  rw [upd_ne (fun e => hx (by rw [e]; exact h))]
  exact z
/-- a new thing may be changed -/
theorem But.late {l : List Addr} {H H' : Hp} {p : Addr} {o : HO} (a : But l H H') (h : H p = none) : But l H (upd H' p o) := fun x o' z hx => by
  rw [upd_ne (ne_of_none z h)]
  exact a x o' z hx
def DrawsAt (H : Hp) (d n : Addr) : Prop := ∃ (ns : List Int) (c : Int), H d = some (.lst [.ref n, .int c]) ∧ H n = some (.lst (ns.map V.int)) ∧ ns ≠ [] ∧ d ≠ n
theorem DrawsAt.same {H H' : Hp} {d n : Addr} (h : DrawsAt H d n) (e : Same H H') : DrawsAt H' d n := by
  obtain ⟨ns, c, h1, h2, h3, h4⟩ := h
  exact ⟨ns, c, e _ _ h1, e _ _ h2, h3, h4⟩
theorem DrawsAt.but {H H' : Hp} {d n : Addr} {l : List Addr} (h : DrawsAt H d n) (e : But l H H') (hd : d ∉ l) (hn : n ∉ l) : DrawsAt H' d n := by
  obtain ⟨ns, c, h1, h2, h3, h4⟩ := h
  exact ⟨ns, c, e _ _ h1 hd, e _ _ h2 hn, h3, h4⟩
/-- what isn't the draws' -/
theorem DrawsAt.off {H : Hp} {d n a : Addr} (h : DrawsAt H d n) (ha : H a = none) : a ∉ [d, n] := fun hm => by
  obtain ⟨ns, c, h1, h2, h3, h4⟩ := h
  rcases List.mem_cons.mp hm with e | hm
  · rw [e, h1] at ha
    cases ha
  · rw [List.mem_singleton.mp hm, h2] at ha
    cases ha
theorem DrawsAt.offT {H : Hp} {d n a : Addr} {xs : List V} (h : DrawsAt H d n) (ha : H a = some (.tup xs)) : a ∉ [d, n] := fun hm => by
  obtain ⟨ns, c, h1, h2, h3, h4⟩ := h
  rcases List.mem_cons.mp hm with e | hm
  · rw [e, h1] at ha
    cases ha
  · rw [List.mem_singleton.mp hm, h2] at ha
    cases ha
section
variable {P : Program} {w : World} {K : PySem.W.Frag} {mg : Str → Option Value} {base : Heap} {CS CE CT : Addr}
/-! ### _law_draw -/
def spDraw : Sp := fun vs H Q _ => ∃ (d n : Addr) (m : Int), vs = [.ref d, .int m] ∧ (1 ≤ m ∧ m < 500000000) ∧ DrawsAt H d n ∧ ∀ H' r, But [d, n] H H' → DrawsAt H' d n → 0 ≤ r → r < m → Q (.int r) H'
theorem ok_w_draw (T : Txt K mg CS CE CT) : Ok P w K mg base CX0 1 "_law_draw" P_w_draw spDraw := by
  refine T.d_w_draw.ok0 sc_w_draw (fun _ _ _ _ _ _ us hl => match us, hl with | [_, _], _ => rfl) (fun vs H Q E h => ?_) (fun f cdv A outer s H vs Q E hr h => ?_)
  · obtain ⟨_, _, _, rfl, _⟩ := h
    rfl
  · obtain ⟨d, n, m, rfl, ⟨hm1, hm2⟩, ⟨ns, c, hd, hn, hne, hdn⟩, q⟩ := h
    refine ⟨_, (pss_cons (ps_set (i := 2) sc_w_draw.nd rfl (Or.inl rfl) (pe_ix ix_list (pv 0) pe_int (fun _ _ => rfl)))
  (pss_cons (ps_asg (pe_op op_add (pe_ix ix_list (pv 0) pe_int (fun _ _ => rfl)) pe_int) (pg_sub (pv 0) pe_int set_list))
  (pss_cons (ps_set (i := 3) sc_w_draw.nd rfl (Or.inl rfl) (pe_op op_mod (pe_ix ix_list (pv 0) pe_int (fun _ _ => rfl)) (pe_callB call_len (by rfl) T.f_len (by decide +kernel) (pa_cons (pv 2) pa_nil))))
  (pss_cons (ps_set (i := 4) sc_w_draw.nd rfl (Or.inl rfl) (pe_ix ix_list (pv 2) (pv 3) (fun _ _ => rfl)))
  (pss_cons (ps_if (pt_cmpR op_ge (pv 4) pe_int (nomark _)) (pss_cons (ps_asg (pe_op op_fdiv (pv 4) (pv 1)) (pg_sub (pv 2) (pv 3) set_list))
  (pss_one (ps_ret (pe_op op_mod (pv 4) (pv 1))))) pss_nil)
  (pss_cons (ps_set (i := 5) sc_w_draw.nd rfl (Or.inl rfl) (pe_op op_mod (pe_op op_add (pv 4) (pe_op op_mul pe_int (pe_ix ix_list (pv 0) pe_int (fun _ _ => rfl)))) pe_int))
  (pss_cons (ps_set (i := 5) sc_w_draw.nd rfl (Or.inl rfl) (pe_op op_mod (pe_op op_pow (pv 5) pe_int) pe_int))
  (pss_one (ps_ret (pe_op op_mod (pe_op op_fdiv (pe_op op_mod (pe_op op_add (pe_op op_mul (pe_op op_fdiv (pv 5) pe_int) pe_int) (pv 5)) pe_int) pe_int) (pv 1))))))))))), ?_⟩
    refine ⟨_, rfl, d, _, 0, _, rfl, rfl, .inl (.inl hd), rfl, ?_⟩
    refine ⟨_, rfl, d, _, 1, _, rfl, rfl, .inl (.inl hd), rfl, c, 1, rfl, rfl, _, rfl, d, _, 1, 1, rfl, rfl, hd, rfl, ?_⟩
    have hd1 : (upd H d (.lst [.ref n, .int (c + 1)])) d = some (.lst [.ref n, .int (c + 1)]) := upd_same
    have hn1 : (upd H d (.lst [.ref n, .int (c + 1)])) n = some (.lst (ns.map V.int)) := by
      rw [upd_ne (fun e => hdn e.symm)]
      exact hn
    have b1 : But [d, n] H (upd H d (.lst [.ref n, .int (c + 1)])) := But.at List.mem_cons_self
    show tSeq _ _ _ _ (upd H d (.lst [.ref n, .int (c + 1)]))
    generalize upd H d (.lst [.ref n, .int (c + 1)]) = H1 at *
    have hl : 0 < ns.length := List.length_pos_iff.mpr hne
    refine ⟨_, rfl, d, _, 1, _, rfl, rfl, .inl (.inl hd1), rfl, _, rfl, _, _, rfl, .inl ⟨_, .inl (.inl hn1), rfl⟩, _, _, rfl, rfl, by rw [List.length_map]; omega, ?_⟩
    rw [List.length_map]
    dsimp only
    have a1 : 0 ≤ (c + 1) % (ns.length : Nat) := Int.emod_nonneg _ (by omega)
    have a2 : (c + 1) % (ns.length : Nat) < (ns.length : Nat) := Int.emod_lt_of_pos _ (by omega)
    generalize (c + 1) % ((ns.length : Nat) : Int) = at_ at *
    obtain ⟨v, hv⟩ := get_at (l := ns) (i := at_.toNat) (by omega)
    refine ⟨_, rfl, _, rfl, n, _, at_, .int v, rfl, rfl, .inl (.inl hn1), atI_int a1 (get_map hv), ?_⟩
    refine ⟨_, rfl, v, _, rfl, rfl, _, rfl, ?_⟩
    have hd1' : DrawsAt H1 d n := ⟨ns, c + 1, hd1, hn1, hne, hdn⟩
    by_cases cc : (1000000000000000000 : Int) ≤ v
    · refine iteT' (decide_eq_true cc) ?_
      refine ⟨_, rfl, _, rfl, v, m, rfl, rfl, ⟨by omega, by omega⟩, _, rfl, _, rfl, n, _, at_, at_.toNat, rfl, rfl, hn1, ixN_int a1 (by rw [List.length_map]; exact a2), ?_⟩
      refine ⟨_, rfl, _, rfl, v, m, rfl, rfl, by omega, ?_⟩
      rw [← List.map_set]
      have dn : (upd H1 n (.lst ((ns.set at_.toNat (v / m)).map V.int))) d = some (.lst [.ref n, .int (c + 1)]) := by
        rw [upd_ne hdn]
        exact hd1
      exact q _ _ (b1.trans (But.at (by simp))) ⟨_, c + 1, dn, upd_same, by simp [hne], hdn⟩ (Int.emod_nonneg _ (by omega)) (Int.emod_lt_of_pos _ (by omega))
    · refine iteF' (decide_eq_false cc) ?_
      refine ⟨_, rfl, _, rfl, d, _, 1, _, rfl, rfl, .inl (.inl hd1), rfl, 104729, _, rfl, rfl, .inl ⟨by decide, by decide⟩, _, _, rfl, rfl, _, _, rfl, rfl, by show (0 : Int) < 4294967291; decide, ?_⟩
      dsimp only
      have m1 : 0 ≤ (v + 104729 * (c + 1)) % 4294967291 := Int.emod_nonneg _ (by decide)
      have m2 : (v + 104729 * (c + 1)) % 4294967291 < 4294967291 := Int.emod_lt_of_pos _ (by decide)
      generalize (v + 104729 * (c + 1)) % 4294967291 = mx at *
      refine ⟨_, rfl, mx, 5, rfl, rfl, ⟨by decide, by decide, by omega⟩, _, _, rfl, rfl, by show (0 : Int) < 4294967279; decide, ?_⟩
      dsimp only
      have k1 : 0 ≤ mx ^ (5 : Int).toNat % 4294967279 := Int.emod_nonneg _ (by decide)
      have k2 : mx ^ (5 : Int).toNat % 4294967279 < 4294967279 := Int.emod_lt_of_pos _ (by decide)
      generalize mx ^ (5 : Int).toNat % 4294967279 = my at *
      refine ⟨_, rfl, my, 64, rfl, rfl, ⟨by decide, by decide⟩, _, _, rfl, rfl, .inl ⟨by omega, by omega⟩, _, rfl, _, _, rfl, rfl, _, _, rfl, rfl, by show (0 : Int) < 4294967231; decide, _, _, rfl, rfl, ⟨by decide, by decide⟩, _, rfl, _, _, rfl, rfl, by omega, ?_⟩
      exact q _ _ b1 hd1' (Int.emod_nonneg _ (by omega)) (Int.emod_lt_of_pos _ (by omega))
/-! ### _law_start -/
def spStart : Sp := fun vs H Q _ => ∃ (a : Addr) (ns : List Int), vs = [.ref a] ∧ H a = some (.lst (ns.map V.int)) ∧ ns.length ≤ 1000 ∧ ∀ H' d n, Same H H' → DrawsAt H' d n → Q (.ref d) H'
/-! ### _law_pick -/
def spPick : Sp := fun vs H Q _ => ∃ (d n cs : Addr) (xs : List V), vs = [.ref d, .ref cs] ∧ H cs = some (.lst xs) ∧ xs ≠ [] ∧ xs.length < 1000 ∧ cs ∉ [d, n] ∧ DrawsAt H d n ∧ ∀ H' x, But [d, n] H H' → DrawsAt H' d n → x ∈ xs → Q x H'
theorem ok_w_pick (T : Txt K mg CS CE CT) : Ok P w K mg base CX0 2 "_law_pick" P_w_pick spPick := by
  refine T.d_w_pick.ok0 sc_w_pick (fun _ _ _ _ _ _ us hl => match us, hl with | [_, _], _ => rfl) (fun vs H Q E h => ?_) (fun f cdv A outer s H vs Q E hr h => ?_)
  · obtain ⟨_, _, _, _, rfl, _⟩ := h
    rfl
  · obtain ⟨d, n, cs, xs, rfl, hcs, hne, hl, ho, hd, q⟩ := h
    have hpos : 0 < xs.length := List.length_pos_iff.mpr hne
    refine ⟨_, (pss_one (ps_ret (pe_ix ix_list (pv 1) (pe_callO (ok_w_draw T) (hr.mono (by decide)) pass0 (pa_cons (pv 0) (pa_cons (pe_callB call_len (by rfl) T.f_len (by decide +kernel) (pa_cons (pv 1) pa_nil)) pa_nil))) (fun _ _ => rfl)))), ?_⟩
    refine ⟨_, rfl, _, rfl, _, rfl, _, _, rfl, .inl ⟨_, .inl (.inl hcs), rfl⟩, d, n, _, rfl, ⟨by omega, by omega⟩, hd, fun H' r b1 d1 r1 r2 => ?_⟩
    obtain ⟨x, hx⟩ := get_at (l := xs) (i := r.toNat) (by omega)
    exact ⟨cs, xs, r, x, rfl, rfl, .inl (.inl (b1 _ _ hcs ho)), atI_int r1 hx, q H' x b1 d1 (List.mem_of_getElem? hx)⟩
/-! ### _law_gaps -/
def GapsAt (H : Hp) (g : Addr) : Prop := ∃ gs : List Int, H g = some (.tup (gs.map V.int)) ∧ gs.length ≤ 4 ∧ ∀ x ∈ gs, 1 ≤ x ∧ x ≤ 100
theorem GapsAt.same {H H' : Hp} {g : Addr} (h : GapsAt H g) (e : Same H H') : GapsAt H' g := by
  obtain ⟨gs, h1, h2⟩ := h
  exact ⟨gs, e _ _ h1, h2⟩
def spGaps : Sp := fun vs H Q _ => ∃ (d n : Addr), vs = [.ref d] ∧ DrawsAt H d n ∧ ∀ H' g, But [d, n] H H' → DrawsAt H' d n → GapsAt H' g → Q (.ref g) H'
theorem ok_w_gaps (T : Txt K mg CS CE CT) : Ok P w K mg base CX0 2 "_law_gaps" P_w_gaps spGaps := by
  refine T.d_w_gaps.ok0 sc_w_gaps (fun _ _ _ _ _ _ us hl => match us, hl with | [_], _ => rfl) (fun vs H Q E h => ?_) (fun f cdv A outer s H vs Q E hr h => ?_)
  · obtain ⟨_, _, rfl, _⟩ := h
    rfl
  · obtain ⟨d, n, rfl, hd, q⟩ := h
    refine ⟨_, (pss_cons (ps_par (i := 1) (j := 2) (by rfl) sc_w_gaps.nd rfl rfl (by decide) rfl rfl (pa_cons (pe_lst pa_nil) (pa_cons pe_int pa_nil)) (by rfl))
  (pss_cons (ps_for PassesOwn.never rfl (pi_range1 (by rfl) T.f_range (pa_cons (pe_callO (ok_w_draw T) (hr.mono (by decide)) pass0 (pa_cons (pv 0) (pa_cons pe_int pa_nil))) pa_nil)) (pg_name (i := 3) sc_w_gaps.nd rfl (Or.inl rfl)) (pss_one (ps_if (pt_cmpR op_gt (pv 2) pe_int (nomark _)) (pss_cons (ps_expr (pe_bm PySem.F.plainAttrs_list PySem.F.slot_list_append PySem.F.type_list_append mt_append (pv 1) (pa_cons (pe_op op_add pe_int (pe_callO (ok_w_draw T) (hr.mono (by decide)) pass0 (pa_cons (pv 0) (pa_cons (pe_op op_sub (pv 2) pe_int) pa_nil)))) pa_nil)))
  (pss_one (ps_set (i := 2) sc_w_gaps.nd rfl (Or.inl rfl) (pe_op op_sub (pe_ix ix_list (pv 1) (pe_un un_neg pe_int) (fun _ _ => rfl)) pe_int)))) pss_nil)))
  (pss_one (ps_ret (pe_callTy call_tuple_of (by rfl) T.f_tuple (by decide +kernel) (pa_cons (pe_op op_cat (pv 1) (pe_lst (pa_cons pe_int pa_nil))) pa_nil)))))), ?_⟩
    refine ⟨sz (show 0 ≤ 16777216 by decide), fun a ha => ?_⟩
    refine ⟨_, _, rfl, ?_⟩
    have hoff := hd.off ha
    have hd1 := hd.same (same_upd (o := .lst []) ha)
    refine ⟨_, rfl, d, n, 3, rfl, ⟨by decide, by decide⟩, hd1, fun H1 r b1 d1 r1 r2 => ?_⟩
    refine ⟨r, rfl, by omega, by omega, ?_⟩
    have b1' : But [d, n] H H1 := (But.fresh ha).trans b1
    have ha1 : H1 a = some (.lst []) := b1 _ _ upd_same hoff
    refine for_range (fun i σ' H' => ∃ (top : Int) (gs : List Int) (u : Option V), σ' = [some (.ref d), some (.ref a), some (.int top), u] ∧ But [d, n] H H' ∧ DrawsAt H' d n ∧ H' a = some (.lst (gs.map V.int)) ∧ gs.length ≤ i ∧ top ≤ 7 ∧ ∀ x ∈ gs, 1 ≤ x ∧ x ≤ 100)
      ⟨7, [], none, rfl, b1', d1, ha1, Nat.le_refl _, by omega, fun x hx => (nomatch hx)⟩ (fun i σ' H' hi p => ?_) (fun σ' H' p => ?_)
    · obtain ⟨top, gs, u, rfl, p1, p2, p3, p4, p5, p6⟩ := p
      refine ⟨_, rfl, top, 1, rfl, rfl, _, rfl, ?_⟩
      by_cases c : 1 < top
      · refine iteT' (decide_eq_true c) ?_
        refine ⟨_, rfl, .inl ⟨rfl, _, .inl (.inl p3)⟩, ?_⟩
        refine ⟨_, rfl, _, rfl, top, 1, rfl, rfl, d, n, top - 1, rfl, ⟨by omega, by omega⟩, p2, fun H2 r b2 d2 s1 s2 => ?_⟩
        have ha2 := b2 _ _ p3 hoff
        refine ⟨2, r, rfl, rfl, a, _, _, rfl, rfl, ha2, sz' (by rw [List.length_map]; omega), ?_⟩
        refine ⟨_, rfl, 1, rfl, a, _, _, .int (2 + r), rfl, rfl, .inl (.inl upd_same), atI_last (by simp), _, _, rfl, rfl, ?_⟩
        refine ⟨2 + r - 1, gs ++ [2 + r], _, rfl, (p1.trans b2).late ha, d2.but (But.at (l := [a]) List.mem_cons_self) (fun z => hoff (by rw [List.mem_singleton.mp z]; exact List.mem_cons_self)) (fun z => hoff (by rw [List.mem_singleton.mp z]; simp)), ?_, ?_, by omega, ?_⟩
        · rw [upd_same, List.map_append]
          rfl
        · rw [List.length_append, List.length_singleton]
          omega
        · intro x hx
          rcases List.mem_append.mp hx with hx | hx
          · exact p6 x hx
          · rw [List.mem_singleton.mp hx]
            omega
      · refine iteF' (decide_eq_false c) ?_
        exact ⟨top, gs, _, rfl, p1, p2, p3, by omega, p5, p6⟩
    · obtain ⟨top, gs, u, rfl, p1, p2, p3, p4, p5, p6⟩ := p
      refine ⟨_, rfl, sz (show 1 ≤ 16777216 by decide), fun b hb => ?_⟩
      refine ⟨a, b, _, _, rfl, rfl, (same_upd hb) _ _ p3, upd_same, sz (by rw [List.length_map]; simp only [List.length_singleton]; omega), fun c hc => ?_⟩
      refine ⟨c, _, rfl, .inl ⟨.inl (.inl upd_same), fun g hg => ?_⟩⟩
      have d3 := ((p2.same (same_upd (o := .lst [V.int 1]) hb)).same (same_upd (o := .lst (gs.map V.int ++ [V.int 1])) hc)).same (same_upd (o := .tup (gs.map V.int ++ [V.int 1])) hg)
      refine q _ g (((p1.trans (But.fresh hb)).trans (But.fresh hc)).trans (But.fresh hg)) d3 ⟨gs ++ [1], ?_, ?_, fun x hx => ?_⟩
      · rw [upd_same, List.map_append]
        rfl
      · rw [List.length_append, List.length_singleton]
        omega
      · rcases List.mem_append.mp hx with hx | hx
        · exact p6 x hx
        · rw [List.mem_singleton.mp hx]
          omega
/-! ### _law_simple -/
def PWord (w : Str) : Prop := w = "first" ∨ w = "last" ∨ w = "middle" ∨ w = "three"
inductive SimpleAt (H : Hp) (p : Addr) : Prop where
  | gaps (g : Addr) (h : H p = some (.tup [.str "gaps", .ref g])) (hg : GapsAt H g)
  | part (w : Str) (s : Int) (h : H p = some (.tup [.str "part", .str w, .int s])) (hw : PWord w) (hs : 1 ≤ s)
  | one (k : Str) (h : H p = some (.tup [.str k])) (hk : k = "heap" ∨ k = "tree" ∨ k = "ranks")
  | two (k w : Str) (h : H p = some (.tup [.str k, .str w])) (hk : k = "insert" ∨ k = "select" ∨ k = "bubble" ∨ k = "merge" ∨ (k = "swap" ∧ PWord w))
def spSimple : Sp := fun vs H Q _ => ∃ (d n : Addr), vs = [.ref d] ∧ DrawsAt H d n ∧ ∀ H' p, But [d, n] H H' → DrawsAt H' d n → SimpleAt H' p → Q (.ref p) H'
theorem ok_w_simple (T : Txt K mg CS CE CT) : Ok P w K mg base CX0 3 "_law_simple" P_w_simple spSimple := by
  refine T.d_w_simple.ok0 sc_w_simple (fun _ _ _ _ _ _ us hl => match us, hl with | [_], _ => rfl) (fun vs H Q E h => ?_) (fun f cdv A outer s H vs Q E hr h => ?_)
  · obtain ⟨_, _, rfl, _⟩ := h
    rfl
  · obtain ⟨d, n, rfl, hd, q⟩ := h
    have hu := hu_of hr
    refine ⟨_, (pss_cons (ps_set (i := 1) sc_w_simple.nd rfl (Or.inl rfl) (pe_callO (ok_w_pick T) (hr.mono (by decide)) pass0 (pa_cons (pv 0) (pa_cons (pe_lst (pa_cons pe_str (pa_cons pe_str (pa_cons pe_str (pa_cons pe_str (pa_cons pe_str (pa_cons pe_str (pa_cons pe_str (pa_cons pe_str (pa_cons pe_str (pa_cons pe_str pa_nil))))))))))) pa_nil))))
  (pss_cons (ps_if (pt_cmpR op_eq (pv 1) pe_str (nomark _)) (pss_one (ps_ret (pe_tup (pa_cons (pv 1) (pa_cons (pe_callO (ok_w_gaps T) (hr.mono (by decide)) pass0 (pa_cons (pv 0) pa_nil)) pa_nil))))) pss_nil)
  (pss_cons (ps_if (pt_cmpR op_eq (pv 1) pe_str (nomark _)) (pss_one (ps_ret (pe_tup (pa_cons (pv 1) (pa_cons (pe_callO (ok_w_pick T) (hr.mono (by decide)) pass0 (pa_cons (pv 0) (pa_cons (pe_lst (pa_cons pe_str (pa_cons pe_str (pa_cons pe_str (pa_cons pe_str pa_nil))))) pa_nil))) (pa_cons (pe_op op_add pe_int (pe_callO (ok_w_draw T) (hr.mono (by decide)) pass0 (pa_cons (pv 0) (pa_cons pe_int pa_nil)))) pa_nil)))))) pss_nil)
  (pss_cons (ps_if (pt_cmpR op_in_seq (pv 1) (pe_tup (pa_cons pe_str (pa_cons pe_str (pa_cons pe_str pa_nil)))) (by rfl)) (pss_one (ps_ret (pe_tup (pa_cons (pv 1) pa_nil)))) pss_nil)
  (pss_cons (ps_set (i := 2) sc_w_simple.nd rfl (Or.inl rfl) (pe_disp (pps_cons pe_str (pe_lst (pa_cons pe_str (pa_cons pe_str (pa_cons pe_str pa_nil)))) (pps_cons pe_str (pe_lst (pa_cons pe_str (pa_cons pe_str pa_nil))) (pps_cons pe_str (pe_lst (pa_cons pe_str (pa_cons pe_str (pa_cons pe_str pa_nil)))) pps_nil))) (by rfl) (by rfl) (fun z => by cases z) (by decide)))
  (pss_cons (ps_dput hu (pv 2) pe_str (pe_lst (pa_cons pe_str (pa_cons pe_str (pa_cons pe_str (pa_cons pe_str pa_nil))))) rfl)
  (pss_cons (ps_dput hu (pv 2) pe_str (pe_lst (pa_cons pe_str (pa_cons pe_str (pa_cons pe_str pa_nil)))) rfl)
  (pss_one (ps_ret (pe_tup (pa_cons (pv 1) (pa_cons (pe_callO (ok_w_pick T) (hr.mono (by decide)) pass0 (pa_cons (pv 0) (pa_cons (pe_dget hu (pv 2) (pv 1) (fun _ _ => rfl)) pa_nil))) pa_nil)))))))))))), ?_⟩
    refine ⟨_, rfl, sz (show 10 ≤ 16777216 by decide), fun a ha => ?_⟩
    refine ⟨d, n, a, _, rfl, upd_same, List.cons_ne_nil _ _, by show 10 < 1000; decide, hd.off ha, hd.same (same_upd ha), fun H1 x b1 d1 hx => ?_⟩
    have b1' : But [d, n] H H1 := (But.fresh ha).trans b1
    have rest : ∀ (k : Str) (ws : List Str) (C : Addr) (H2 : Hp), (k = "insert" ∨ k = "select" ∨ k = "bubble" ∨ k = "merge" ∨ (k = "swap" ∧ ∀ w ∈ ws, PWord w)) → But [d, n] H H2 → DrawsAt H2 d n → C ∉ [d, n] → ws ≠ [] → ws.length < 1000 → H2 C = some (.lst (ws.map V.str)) →
        spPick [.ref d, .ref C] H2 (fun x H3 => 2 ≤ sizeLine ∧ ∀ p, H3 p = none → Q (.ref p) (upd H3 p (.tup [.str k, x]))) E0 := fun k ws C H2 hk b2 d2 hC hne hl h2 => by
      refine ⟨d, n, C, _, rfl, h2, ?_, by rw [List.length_map]; exact hl, hC, d2, fun H3 x b3 d3 hx => ⟨sz (show 2 ≤ 16777216 by decide), fun p hp => ?_⟩⟩
      · intro z
        exact hne (List.map_eq_nil_iff.mp z)
      · obtain ⟨w, hw, rfl⟩ := List.mem_map.mp hx
        refine q _ p ((b2.trans b3).trans (But.fresh hp)) (d3.same (same_upd hp)) (.two k w upd_same ?_)
        rcases hk with h | h | h | h | ⟨h, h'⟩
        · exact .inl h
        · exact .inr (.inl h)
        · exact .inr (.inr (.inl h))
        · exact .inr (.inr (.inr (.inl h)))
        · exact .inr (.inr (.inr (.inr ⟨h, h' w hw⟩)))
    simp only [List.mem_cons, List.mem_nil_iff, or_false] at hx
    rcases hx with rfl | rfl | rfl | rfl | rfl | rfl | rfl | rfl | rfl | rfl
    · refine ⟨_, rfl, rfl, _, rfl, iteF' (by decide +kernel) ?_⟩
      refine ⟨_, rfl, rfl, _, rfl, iteF' (by decide +kernel) ?_⟩
      refine ⟨_, rfl, sz (show 3 ≤ 16777216 by decide), fun B hB => ?_⟩
      refine ⟨B, _, rfl, .inr (.inl (.inl upd_same)), rfl, rfl, _, rfl, iteF' (by decide +kernel) ?_⟩
      have e0 := same_upd (o := .tup [.str "heap", .str "tree", .str "ranks"]) hB
      generalize upd H1 B (.tup [.str "heap", .str "tree", .str "ranks"]) = H2 at *
      refine fun D hD => ⟨sz (show 3 ≤ 16777216 by decide), fun l1 h1 => ⟨sz (show 2 ≤ 16777216 by decide), fun l2 h2 => ⟨sz (show 3 ≤ 16777216 by decide), fun l3 h3 => ⟨(same_upd h3) _ _ ((same_upd h2) _ _ ((same_upd h1) _ _ upd_same)), [(.inr "insert", .ref l1), (.inr "select", .ref l2), (.inr "swap", .ref l3)], rfl, by show 3 ≤ 15; decide, ?_⟩⟩⟩⟩
      obtain ⟨H3, e3⟩ : ∃ z, z = (upd (upd (upd (upd H2 D (.dK [])) l1 (.lst [.str "down", .str "up", .str "halves"])) l2 (.lst [.str "least", .str "greatest"])) l3 (.lst [.str "first", .str "last", .str "middle"])) := ⟨_, rfl⟩
      have s3 : Same H2 H3 := by
        rw [e3]
        exact (((same_upd hD).trans (same_upd h1)).trans (same_upd h2)).trans (same_upd h3)
      have k1 : H3 l1 = some (.lst [.str "down", .str "up", .str "halves"]) := by
        rw [e3]
        exact (same_upd h3) _ _ ((same_upd h2) _ _ upd_same)
      have k2 : H3 l2 = some (.lst [.str "least", .str "greatest"]) := by
        rw [e3]
        exact (same_upd h3) _ _ upd_same
      have k3 : H3 l3 = some (.lst [.str "first", .str "last", .str "middle"]) := by
        rw [e3]
        exact upd_same
      have kD : H3 D = some (.dK []) := by
        rw [e3]
        exact (same_upd h3) _ _ ((same_upd h2) _ _ ((same_upd h1) _ _ upd_same))
      rw [← e3]
      clear e3 h1 h2 h3
      obtain ⟨H4, e4⟩ : ∃ z, z = upd H3 D (.dK (mergeK [] [(.inr "insert", V.ref l1), (.inr "select", V.ref l2), (.inr "swap", V.ref l3)])) := ⟨_, rfl⟩
      rw [← e4]
      have hD4 : H4 D = some (.dK (mergeK [] [(.inr "insert", V.ref l1), (.inr "select", V.ref l2), (.inr "swap", V.ref l3)])) := by
        rw [e4]
        exact upd_same
      have neD : ∀ {H' : Hp} {l : Addr} {xs : List V} {kvs : List (Key × V)}, H' l = some (.lst xs) → H' D = some (.dK kvs) → l ≠ D := fun h1 h2 z => by
        rw [z, h2] at h1
        cases h1
      have k41 : H4 l1 = some (.lst [.str "down", .str "up", .str "halves"]) := by
        rw [e4, upd_ne (neD k1 kD)]
        exact k1
      have k42 : H4 l2 = some (.lst [.str "least", .str "greatest"]) := by
        rw [e4, upd_ne (neD k2 kD)]
        exact k2
      have k43 : H4 l3 = some (.lst [.str "first", .str "last", .str "middle"]) := by
        rw [e4, upd_ne (neD k3 kD)]
        exact k3
      have s4 : Same H2 H4 := by
        rw [e4]
        exact same_mut s3 hD
      refine ⟨sz (show 4 ≤ 16777216 by decide), fun l4 h4 => ⟨_, rfl, D, _, rfl, .inl ⟨_, .inr "bubble", (same_upd h4) _ _ hD4, rfl, sz' (by show 3 < 16777216; decide), rfl⟩, ?_⟩⟩
      obtain ⟨H5, e5⟩ : ∃ z, z = upd (upd H4 l4 (.lst [.str "plain", .str "early", .str "last", .str "both"])) D (.dK (putK (mergeK [] [(.inr "insert", V.ref l1), (.inr "select", V.ref l2), (.inr "swap", V.ref l3)]) (.inr "bubble") (V.ref l4))) := ⟨_, rfl⟩
      have hD5 : H5 D = some (.dK (putK (mergeK [] [(.inr "insert", V.ref l1), (.inr "select", V.ref l2), (.inr "swap", V.ref l3)]) (.inr "bubble") (V.ref l4))) := by
        rw [e5]
        exact upd_same
      have n4 : ∀ {l : Addr} {xs : List V}, H4 l = some (.lst xs) → H5 l = some (.lst xs) := fun {l xs} h => by
        rw [e5, upd_ne (neD h hD4)]
        exact (same_upd h4) _ _ h
      have k54 : H5 l4 = some (.lst [.str "plain", .str "early", .str "last", .str "both"]) := by
        rw [e5, upd_ne (fun z => by rw [z, hD4] at h4; cases h4)]
        exact upd_same
      have s5 : Same H2 H5 := by
        rw [e5]
        exact same_mut (s4.trans (same_upd h4)) hD
      rw [← e5]
      refine ⟨sz (show 3 ≤ 16777216 by decide), fun l5 h5 => ⟨_, rfl, D, _, rfl, .inl ⟨_, .inr "merge", (same_upd h5) _ _ hD5, rfl, sz' (by show 4 < 16777216; decide), rfl⟩, ?_⟩⟩
      obtain ⟨H6, e6⟩ : ∃ z, z = upd (upd H5 l5 (.lst [.str "above", .str "below", .str "runs"])) D (.dK (putK (putK (mergeK [] [(.inr "insert", V.ref l1), (.inr "select", V.ref l2), (.inr "swap", V.ref l3)]) (.inr "bubble") (V.ref l4)) (.inr "merge") (V.ref l5))) := ⟨_, rfl⟩
      have hD6 : H6 D = some (.dK (putK (putK (mergeK [] [(.inr "insert", V.ref l1), (.inr "select", V.ref l2), (.inr "swap", V.ref l3)]) (.inr "bubble") (V.ref l4)) (.inr "merge") (V.ref l5))) := by
        rw [e6]
        exact upd_same
      have n5 : ∀ {l : Addr} {xs : List V}, H5 l = some (.lst xs) → H6 l = some (.lst xs) := fun {l xs} h => by
        rw [e6, upd_ne (neD h hD5)]
        exact (same_upd h5) _ _ h
      have k65 : H6 l5 = some (.lst [.str "above", .str "below", .str "runs"]) := by
        rw [e6, upd_ne (fun z => by rw [z, hD5] at h5; cases h5)]
        exact upd_same
      have s6 : Same H2 H6 := by
        rw [e6]
        exact same_mut (s5.trans (same_upd h5)) hD
      rw [← e6]
      have b6 : But [d, n] H H6 := b1'.trans (But.of (e0.trans s6))
      have d6 : DrawsAt H6 d n := d1.same (e0.trans s6)
      refine ⟨_, rfl, _, rfl, _, rfl, _, rfl, D, .ref l1, rfl, .inl ⟨_, .inr "insert", .inl hD6, rfl, rfl⟩, rest "insert" ["down", "up", "halves"] l1 H6 (.inl rfl) b6 d6 (fun hm => ?_) (List.cons_ne_nil _ _) (by show 3 < 1000; decide) (n5 (n4 k41))⟩
      obtain ⟨ns, c, g1, g2, _⟩ := d6
      have hh : H6 l1 = some (.lst ((["down", "up", "halves"] : List Str).map V.str)) := (n5 (n4 k41))
      rcases List.mem_cons.mp hm with e | hm
      · rw [e, g1] at hh
        simp at hh
      · rw [List.mem_singleton.mp hm, g2] at hh
        cases ns <;> simp at hh
    · refine ⟨_, rfl, rfl, _, rfl, iteF' (by decide +kernel) ?_⟩
      refine ⟨_, rfl, rfl, _, rfl, iteF' (by decide +kernel) ?_⟩
      refine ⟨_, rfl, sz (show 3 ≤ 16777216 by decide), fun B hB => ?_⟩
      refine ⟨B, _, rfl, .inr (.inl (.inl upd_same)), rfl, rfl, _, rfl, iteF' (by decide +kernel) ?_⟩
      have e0 := same_upd (o := .tup [.str "heap", .str "tree", .str "ranks"]) hB
      generalize upd H1 B (.tup [.str "heap", .str "tree", .str "ranks"]) = H2 at *
      refine fun D hD => ⟨sz (show 3 ≤ 16777216 by decide), fun l1 h1 => ⟨sz (show 2 ≤ 16777216 by decide), fun l2 h2 => ⟨sz (show 3 ≤ 16777216 by decide), fun l3 h3 => ⟨(same_upd h3) _ _ ((same_upd h2) _ _ ((same_upd h1) _ _ upd_same)), [(.inr "insert", .ref l1), (.inr "select", .ref l2), (.inr "swap", .ref l3)], rfl, by show 3 ≤ 15; decide, ?_⟩⟩⟩⟩
      obtain ⟨H3, e3⟩ : ∃ z, z = (upd (upd (upd (upd H2 D (.dK [])) l1 (.lst [.str "down", .str "up", .str "halves"])) l2 (.lst [.str "least", .str "greatest"])) l3 (.lst [.str "first", .str "last", .str "middle"])) := ⟨_, rfl⟩
      have s3 : Same H2 H3 := by
        rw [e3]
        exact (((same_upd hD).trans (same_upd h1)).trans (same_upd h2)).trans (same_upd h3)
      have k1 : H3 l1 = some (.lst [.str "down", .str "up", .str "halves"]) := by
        rw [e3]
        exact (same_upd h3) _ _ ((same_upd h2) _ _ upd_same)
      have k2 : H3 l2 = some (.lst [.str "least", .str "greatest"]) := by
        rw [e3]
        exact (same_upd h3) _ _ upd_same
      have k3 : H3 l3 = some (.lst [.str "first", .str "last", .str "middle"]) := by
        rw [e3]
        exact upd_same
      have kD : H3 D = some (.dK []) := by
        rw [e3]
        exact (same_upd h3) _ _ ((same_upd h2) _ _ ((same_upd h1) _ _ upd_same))
      rw [← e3]
      clear e3 h1 h2 h3
      obtain ⟨H4, e4⟩ : ∃ z, z = upd H3 D (.dK (mergeK [] [(.inr "insert", V.ref l1), (.inr "select", V.ref l2), (.inr "swap", V.ref l3)])) := ⟨_, rfl⟩
      rw [← e4]
      have hD4 : H4 D = some (.dK (mergeK [] [(.inr "insert", V.ref l1), (.inr "select", V.ref l2), (.inr "swap", V.ref l3)])) := by
        rw [e4]
        exact upd_same
      have neD : ∀ {H' : Hp} {l : Addr} {xs : List V} {kvs : List (Key × V)}, H' l = some (.lst xs) → H' D = some (.dK kvs) → l ≠ D := fun h1 h2 z => by
        rw [z, h2] at h1
        cases h1
      have k41 : H4 l1 = some (.lst [.str "down", .str "up", .str "halves"]) := by
        rw [e4, upd_ne (neD k1 kD)]
        exact k1
      have k42 : H4 l2 = some (.lst [.str "least", .str "greatest"]) := by
        rw [e4, upd_ne (neD k2 kD)]
        exact k2
      have k43 : H4 l3 = some (.lst [.str "first", .str "last", .str "middle"]) := by
        rw [e4, upd_ne (neD k3 kD)]
        exact k3
      have s4 : Same H2 H4 := by
        rw [e4]
        exact same_mut s3 hD
      refine ⟨sz (show 4 ≤ 16777216 by decide), fun l4 h4 => ⟨_, rfl, D, _, rfl, .inl ⟨_, .inr "bubble", (same_upd h4) _ _ hD4, rfl, sz' (by show 3 < 16777216; decide), rfl⟩, ?_⟩⟩
      obtain ⟨H5, e5⟩ : ∃ z, z = upd (upd H4 l4 (.lst [.str "plain", .str "early", .str "last", .str "both"])) D (.dK (putK (mergeK [] [(.inr "insert", V.ref l1), (.inr "select", V.ref l2), (.inr "swap", V.ref l3)]) (.inr "bubble") (V.ref l4))) := ⟨_, rfl⟩
      have hD5 : H5 D = some (.dK (putK (mergeK [] [(.inr "insert", V.ref l1), (.inr "select", V.ref l2), (.inr "swap", V.ref l3)]) (.inr "bubble") (V.ref l4))) := by
        rw [e5]
        exact upd_same
      have n4 : ∀ {l : Addr} {xs : List V}, H4 l = some (.lst xs) → H5 l = some (.lst xs) := fun {l xs} h => by
        rw [e5, upd_ne (neD h hD4)]
        exact (same_upd h4) _ _ h
      have k54 : H5 l4 = some (.lst [.str "plain", .str "early", .str "last", .str "both"]) := by
        rw [e5, upd_ne (fun z => by rw [z, hD4] at h4; cases h4)]
        exact upd_same
      have s5 : Same H2 H5 := by
        rw [e5]
        exact same_mut (s4.trans (same_upd h4)) hD
      rw [← e5]
      refine ⟨sz (show 3 ≤ 16777216 by decide), fun l5 h5 => ⟨_, rfl, D, _, rfl, .inl ⟨_, .inr "merge", (same_upd h5) _ _ hD5, rfl, sz' (by show 4 < 16777216; decide), rfl⟩, ?_⟩⟩
      obtain ⟨H6, e6⟩ : ∃ z, z = upd (upd H5 l5 (.lst [.str "above", .str "below", .str "runs"])) D (.dK (putK (putK (mergeK [] [(.inr "insert", V.ref l1), (.inr "select", V.ref l2), (.inr "swap", V.ref l3)]) (.inr "bubble") (V.ref l4)) (.inr "merge") (V.ref l5))) := ⟨_, rfl⟩
      have hD6 : H6 D = some (.dK (putK (putK (mergeK [] [(.inr "insert", V.ref l1), (.inr "select", V.ref l2), (.inr "swap", V.ref l3)]) (.inr "bubble") (V.ref l4)) (.inr "merge") (V.ref l5))) := by
        rw [e6]
        exact upd_same
      have n5 : ∀ {l : Addr} {xs : List V}, H5 l = some (.lst xs) → H6 l = some (.lst xs) := fun {l xs} h => by
        rw [e6, upd_ne (neD h hD5)]
        exact (same_upd h5) _ _ h
      have k65 : H6 l5 = some (.lst [.str "above", .str "below", .str "runs"]) := by
        rw [e6, upd_ne (fun z => by rw [z, hD5] at h5; cases h5)]
        exact upd_same
      have s6 : Same H2 H6 := by
        rw [e6]
        exact same_mut (s5.trans (same_upd h5)) hD
      rw [← e6]
      have b6 : But [d, n] H H6 := b1'.trans (But.of (e0.trans s6))
      have d6 : DrawsAt H6 d n := d1.same (e0.trans s6)
      refine ⟨_, rfl, _, rfl, _, rfl, _, rfl, D, .ref l2, rfl, .inl ⟨_, .inr "select", .inl hD6, rfl, rfl⟩, rest "select" ["least", "greatest"] l2 H6 (.inr (.inl rfl)) b6 d6 (fun hm => ?_) (List.cons_ne_nil _ _) (by show 2 < 1000; decide) (n5 (n4 k42))⟩
      obtain ⟨ns, c, g1, g2, _⟩ := d6
      have hh : H6 l2 = some (.lst ((["least", "greatest"] : List Str).map V.str)) := (n5 (n4 k42))
      rcases List.mem_cons.mp hm with e | hm
      · rw [e, g1] at hh
        simp at hh
      · rw [List.mem_singleton.mp hm, g2] at hh
        cases ns <;> simp at hh
    · refine ⟨_, rfl, rfl, _, rfl, iteF' (by decide +kernel) ?_⟩
      refine ⟨_, rfl, rfl, _, rfl, iteF' (by decide +kernel) ?_⟩
      refine ⟨_, rfl, sz (show 3 ≤ 16777216 by decide), fun B hB => ?_⟩
      refine ⟨B, _, rfl, .inr (.inl (.inl upd_same)), rfl, rfl, _, rfl, iteF' (by decide +kernel) ?_⟩
      have e0 := same_upd (o := .tup [.str "heap", .str "tree", .str "ranks"]) hB
      generalize upd H1 B (.tup [.str "heap", .str "tree", .str "ranks"]) = H2 at *
      refine fun D hD => ⟨sz (show 3 ≤ 16777216 by decide), fun l1 h1 => ⟨sz (show 2 ≤ 16777216 by decide), fun l2 h2 => ⟨sz (show 3 ≤ 16777216 by decide), fun l3 h3 => ⟨(same_upd h3) _ _ ((same_upd h2) _ _ ((same_upd h1) _ _ upd_same)), [(.inr "insert", .ref l1), (.inr "select", .ref l2), (.inr "swap", .ref l3)], rfl, by show 3 ≤ 15; decide, ?_⟩⟩⟩⟩
      obtain ⟨H3, e3⟩ : ∃ z, z = (upd (upd (upd (upd H2 D (.dK [])) l1 (.lst [.str "down", .str "up", .str "halves"])) l2 (.lst [.str "least", .str "greatest"])) l3 (.lst [.str "first", .str "last", .str "middle"])) := ⟨_, rfl⟩
      have s3 : Same H2 H3 := by
        rw [e3]
        exact (((same_upd hD).trans (same_upd h1)).trans (same_upd h2)).trans (same_upd h3)
      have k1 : H3 l1 = some (.lst [.str "down", .str "up", .str "halves"]) := by
        rw [e3]
        exact (same_upd h3) _ _ ((same_upd h2) _ _ upd_same)
      have k2 : H3 l2 = some (.lst [.str "least", .str "greatest"]) := by
        rw [e3]
        exact (same_upd h3) _ _ upd_same
      have k3 : H3 l3 = some (.lst [.str "first", .str "last", .str "middle"]) := by
        rw [e3]
        exact upd_same
      have kD : H3 D = some (.dK []) := by
        rw [e3]
        exact (same_upd h3) _ _ ((same_upd h2) _ _ ((same_upd h1) _ _ upd_same))
      rw [← e3]
      clear e3 h1 h2 h3
      obtain ⟨H4, e4⟩ : ∃ z, z = upd H3 D (.dK (mergeK [] [(.inr "insert", V.ref l1), (.inr "select", V.ref l2), (.inr "swap", V.ref l3)])) := ⟨_, rfl⟩
      rw [← e4]
      have hD4 : H4 D = some (.dK (mergeK [] [(.inr "insert", V.ref l1), (.inr "select", V.ref l2), (.inr "swap", V.ref l3)])) := by
        rw [e4]
        exact upd_same
      have neD : ∀ {H' : Hp} {l : Addr} {xs : List V} {kvs : List (Key × V)}, H' l = some (.lst xs) → H' D = some (.dK kvs) → l ≠ D := fun h1 h2 z => by
        rw [z, h2] at h1
        cases h1
      have k41 : H4 l1 = some (.lst [.str "down", .str "up", .str "halves"]) := by
        rw [e4, upd_ne (neD k1 kD)]
        exact k1
      have k42 : H4 l2 = some (.lst [.str "least", .str "greatest"]) := by
        rw [e4, upd_ne (neD k2 kD)]
        exact k2
      have k43 : H4 l3 = some (.lst [.str "first", .str "last", .str "middle"]) := by
        rw [e4, upd_ne (neD k3 kD)]
        exact k3
      have s4 : Same H2 H4 := by
        rw [e4]
        exact same_mut s3 hD
      refine ⟨sz (show 4 ≤ 16777216 by decide), fun l4 h4 => ⟨_, rfl, D, _, rfl, .inl ⟨_, .inr "bubble", (same_upd h4) _ _ hD4, rfl, sz' (by show 3 < 16777216; decide), rfl⟩, ?_⟩⟩
      obtain ⟨H5, e5⟩ : ∃ z, z = upd (upd H4 l4 (.lst [.str "plain", .str "early", .str "last", .str "both"])) D (.dK (putK (mergeK [] [(.inr "insert", V.ref l1), (.inr "select", V.ref l2), (.inr "swap", V.ref l3)]) (.inr "bubble") (V.ref l4))) := ⟨_, rfl⟩
      have hD5 : H5 D = some (.dK (putK (mergeK [] [(.inr "insert", V.ref l1), (.inr "select", V.ref l2), (.inr "swap", V.ref l3)]) (.inr "bubble") (V.ref l4))) := by
        rw [e5]
        exact upd_same
      have n4 : ∀ {l : Addr} {xs : List V}, H4 l = some (.lst xs) → H5 l = some (.lst xs) := fun {l xs} h => by
        rw [e5, upd_ne (neD h hD4)]
        exact (same_upd h4) _ _ h
      have k54 : H5 l4 = some (.lst [.str "plain", .str "early", .str "last", .str "both"]) := by
        rw [e5, upd_ne (fun z => by rw [z, hD4] at h4; cases h4)]
        exact upd_same
      have s5 : Same H2 H5 := by
        rw [e5]
        exact same_mut (s4.trans (same_upd h4)) hD
      rw [← e5]
      refine ⟨sz (show 3 ≤ 16777216 by decide), fun l5 h5 => ⟨_, rfl, D, _, rfl, .inl ⟨_, .inr "merge", (same_upd h5) _ _ hD5, rfl, sz' (by show 4 < 16777216; decide), rfl⟩, ?_⟩⟩
      obtain ⟨H6, e6⟩ : ∃ z, z = upd (upd H5 l5 (.lst [.str "above", .str "below", .str "runs"])) D (.dK (putK (putK (mergeK [] [(.inr "insert", V.ref l1), (.inr "select", V.ref l2), (.inr "swap", V.ref l3)]) (.inr "bubble") (V.ref l4)) (.inr "merge") (V.ref l5))) := ⟨_, rfl⟩
      have hD6 : H6 D = some (.dK (putK (putK (mergeK [] [(.inr "insert", V.ref l1), (.inr "select", V.ref l2), (.inr "swap", V.ref l3)]) (.inr "bubble") (V.ref l4)) (.inr "merge") (V.ref l5))) := by
        rw [e6]
        exact upd_same
      have n5 : ∀ {l : Addr} {xs : List V}, H5 l = some (.lst xs) → H6 l = some (.lst xs) := fun {l xs} h => by
        rw [e6, upd_ne (neD h hD5)]
        exact (same_upd h5) _ _ h
      have k65 : H6 l5 = some (.lst [.str "above", .str "below", .str "runs"]) := by
        rw [e6, upd_ne (fun z => by rw [z, hD5] at h5; cases h5)]
        exact upd_same
      have s6 : Same H2 H6 := by
        rw [e6]
        exact same_mut (s5.trans (same_upd h5)) hD
      rw [← e6]
      have b6 : But [d, n] H H6 := b1'.trans (But.of (e0.trans s6))
      have d6 : DrawsAt H6 d n := d1.same (e0.trans s6)
      refine ⟨_, rfl, _, rfl, _, rfl, _, rfl, D, .ref l4, rfl, .inl ⟨_, .inr "bubble", .inl hD6, rfl, rfl⟩, rest "bubble" ["plain", "early", "last", "both"] l4 H6 (.inr (.inr (.inl rfl))) b6 d6 (fun hm => ?_) (List.cons_ne_nil _ _) (by show 4 < 1000; decide) (n5 k54)⟩
      obtain ⟨ns, c, g1, g2, _⟩ := d6
      have hh : H6 l4 = some (.lst ((["plain", "early", "last", "both"] : List Str).map V.str)) := (n5 k54)
      rcases List.mem_cons.mp hm with e | hm
      · rw [e, g1] at hh
        simp at hh
      · rw [List.mem_singleton.mp hm, g2] at hh
        cases ns <;> simp at hh
    · refine ⟨_, rfl, rfl, _, rfl, iteT' (by decide +kernel) ?_⟩
      refine ⟨_, rfl, _, rfl, d, n, rfl, d1, fun H2 g b2 d2 hg => ⟨sz (show 2 ≤ 16777216 by decide), fun p hp => ?_⟩⟩
      exact q _ p ((b1'.trans b2).trans (But.fresh hp)) (d2.same (same_upd hp)) (.gaps g upd_same (hg.same (same_upd hp)))
    · refine ⟨_, rfl, rfl, _, rfl, iteF' (by decide +kernel) ?_⟩
      refine ⟨_, rfl, rfl, _, rfl, iteF' (by decide +kernel) ?_⟩
      refine ⟨_, rfl, sz (show 3 ≤ 16777216 by decide), fun B hB => ?_⟩
      refine ⟨B, _, rfl, .inr (.inl (.inl upd_same)), rfl, rfl, _, rfl, iteF' (by decide +kernel) ?_⟩
      have e0 := same_upd (o := .tup [.str "heap", .str "tree", .str "ranks"]) hB
      generalize upd H1 B (.tup [.str "heap", .str "tree", .str "ranks"]) = H2 at *
      refine fun D hD => ⟨sz (show 3 ≤ 16777216 by decide), fun l1 h1 => ⟨sz (show 2 ≤ 16777216 by decide), fun l2 h2 => ⟨sz (show 3 ≤ 16777216 by decide), fun l3 h3 => ⟨(same_upd h3) _ _ ((same_upd h2) _ _ ((same_upd h1) _ _ upd_same)), [(.inr "insert", .ref l1), (.inr "select", .ref l2), (.inr "swap", .ref l3)], rfl, by show 3 ≤ 15; decide, ?_⟩⟩⟩⟩
      obtain ⟨H3, e3⟩ : ∃ z, z = (upd (upd (upd (upd H2 D (.dK [])) l1 (.lst [.str "down", .str "up", .str "halves"])) l2 (.lst [.str "least", .str "greatest"])) l3 (.lst [.str "first", .str "last", .str "middle"])) := ⟨_, rfl⟩
      have s3 : Same H2 H3 := by
        rw [e3]
        exact (((same_upd hD).trans (same_upd h1)).trans (same_upd h2)).trans (same_upd h3)
      have k1 : H3 l1 = some (.lst [.str "down", .str "up", .str "halves"]) := by
        rw [e3]
        exact (same_upd h3) _ _ ((same_upd h2) _ _ upd_same)
      have k2 : H3 l2 = some (.lst [.str "least", .str "greatest"]) := by
        rw [e3]
        exact (same_upd h3) _ _ upd_same
      have k3 : H3 l3 = some (.lst [.str "first", .str "last", .str "middle"]) := by
        rw [e3]
        exact upd_same
      have kD : H3 D = some (.dK []) := by
        rw [e3]
        exact (same_upd h3) _ _ ((same_upd h2) _ _ ((same_upd h1) _ _ upd_same))
      rw [← e3]
      clear e3 h1 h2 h3
      obtain ⟨H4, e4⟩ : ∃ z, z = upd H3 D (.dK (mergeK [] [(.inr "insert", V.ref l1), (.inr "select", V.ref l2), (.inr "swap", V.ref l3)])) := ⟨_, rfl⟩
      rw [← e4]
      have hD4 : H4 D = some (.dK (mergeK [] [(.inr "insert", V.ref l1), (.inr "select", V.ref l2), (.inr "swap", V.ref l3)])) := by
        rw [e4]
        exact upd_same
      have neD : ∀ {H' : Hp} {l : Addr} {xs : List V} {kvs : List (Key × V)}, H' l = some (.lst xs) → H' D = some (.dK kvs) → l ≠ D := fun h1 h2 z => by
        rw [z, h2] at h1
        cases h1
      have k41 : H4 l1 = some (.lst [.str "down", .str "up", .str "halves"]) := by
        rw [e4, upd_ne (neD k1 kD)]
        exact k1
      have k42 : H4 l2 = some (.lst [.str "least", .str "greatest"]) := by
        rw [e4, upd_ne (neD k2 kD)]
        exact k2
      have k43 : H4 l3 = some (.lst [.str "first", .str "last", .str "middle"]) := by
        rw [e4, upd_ne (neD k3 kD)]
        exact k3
      have s4 : Same H2 H4 := by
        rw [e4]
        exact same_mut s3 hD
      refine ⟨sz (show 4 ≤ 16777216 by decide), fun l4 h4 => ⟨_, rfl, D, _, rfl, .inl ⟨_, .inr "bubble", (same_upd h4) _ _ hD4, rfl, sz' (by show 3 < 16777216; decide), rfl⟩, ?_⟩⟩
      obtain ⟨H5, e5⟩ : ∃ z, z = upd (upd H4 l4 (.lst [.str "plain", .str "early", .str "last", .str "both"])) D (.dK (putK (mergeK [] [(.inr "insert", V.ref l1), (.inr "select", V.ref l2), (.inr "swap", V.ref l3)]) (.inr "bubble") (V.ref l4))) := ⟨_, rfl⟩
      have hD5 : H5 D = some (.dK (putK (mergeK [] [(.inr "insert", V.ref l1), (.inr "select", V.ref l2), (.inr "swap", V.ref l3)]) (.inr "bubble") (V.ref l4))) := by
        rw [e5]
        exact upd_same
      have n4 : ∀ {l : Addr} {xs : List V}, H4 l = some (.lst xs) → H5 l = some (.lst xs) := fun {l xs} h => by
        rw [e5, upd_ne (neD h hD4)]
        exact (same_upd h4) _ _ h
      have k54 : H5 l4 = some (.lst [.str "plain", .str "early", .str "last", .str "both"]) := by
        rw [e5, upd_ne (fun z => by rw [z, hD4] at h4; cases h4)]
        exact upd_same
      have s5 : Same H2 H5 := by
        rw [e5]
        exact same_mut (s4.trans (same_upd h4)) hD
      rw [← e5]
      refine ⟨sz (show 3 ≤ 16777216 by decide), fun l5 h5 => ⟨_, rfl, D, _, rfl, .inl ⟨_, .inr "merge", (same_upd h5) _ _ hD5, rfl, sz' (by show 4 < 16777216; decide), rfl⟩, ?_⟩⟩
      obtain ⟨H6, e6⟩ : ∃ z, z = upd (upd H5 l5 (.lst [.str "above", .str "below", .str "runs"])) D (.dK (putK (putK (mergeK [] [(.inr "insert", V.ref l1), (.inr "select", V.ref l2), (.inr "swap", V.ref l3)]) (.inr "bubble") (V.ref l4)) (.inr "merge") (V.ref l5))) := ⟨_, rfl⟩
      have hD6 : H6 D = some (.dK (putK (putK (mergeK [] [(.inr "insert", V.ref l1), (.inr "select", V.ref l2), (.inr "swap", V.ref l3)]) (.inr "bubble") (V.ref l4)) (.inr "merge") (V.ref l5))) := by
        rw [e6]
        exact upd_same
      have n5 : ∀ {l : Addr} {xs : List V}, H5 l = some (.lst xs) → H6 l = some (.lst xs) := fun {l xs} h => by
        rw [e6, upd_ne (neD h hD5)]
        exact (same_upd h5) _ _ h
      have k65 : H6 l5 = some (.lst [.str "above", .str "below", .str "runs"]) := by
        rw [e6, upd_ne (fun z => by rw [z, hD5] at h5; cases h5)]
        exact upd_same
      have s6 : Same H2 H6 := by
        rw [e6]
        exact same_mut (s5.trans (same_upd h5)) hD
      rw [← e6]
      have b6 : But [d, n] H H6 := b1'.trans (But.of (e0.trans s6))
      have d6 : DrawsAt H6 d n := d1.same (e0.trans s6)
      refine ⟨_, rfl, _, rfl, _, rfl, _, rfl, D, .ref l5, rfl, .inl ⟨_, .inr "merge", .inl hD6, rfl, rfl⟩, rest "merge" ["above", "below", "runs"] l5 H6 (.inr (.inr (.inr (.inl rfl)))) b6 d6 (fun hm => ?_) (List.cons_ne_nil _ _) (by show 3 < 1000; decide) k65⟩
      obtain ⟨ns, c, g1, g2, _⟩ := d6
      have hh : H6 l5 = some (.lst ((["above", "below", "runs"] : List Str).map V.str)) := k65
      rcases List.mem_cons.mp hm with e | hm
      · rw [e, g1] at hh
        simp at hh
      · rw [List.mem_singleton.mp hm, g2] at hh
        cases ns <;> simp at hh
    · refine ⟨_, rfl, rfl, _, rfl, iteF' (by decide +kernel) ?_⟩
      refine ⟨_, rfl, rfl, _, rfl, iteT' (by decide +kernel) ?_⟩
      refine ⟨_, rfl, _, rfl, sz (show 4 ≤ 16777216 by decide), fun B hB => ?_⟩
      refine ⟨d, n, B, _, rfl, upd_same, List.cons_ne_nil _ _, by show 4 < 1000; decide, d1.off hB, d1.same (same_upd hB), fun H2 y b2 d2 hy => ?_⟩
      refine ⟨_, rfl, d, n, 3, rfl, ⟨by decide, by decide⟩, d2, fun H3 r b3 d3 r1 r2 => ?_⟩
      refine ⟨1, r, rfl, rfl, sz (show 3 ≤ 16777216 by decide), fun p hp => ?_⟩
      simp only [List.mem_cons, List.mem_nil_iff, or_false] at hy
      have b4 := (((b1'.trans (But.fresh hB)).trans b2).trans b3).trans (But.fresh (o := .tup [.str "part", y, .int (1 + r)]) hp)
      rcases hy with rfl | rfl | rfl | rfl
      · exact q _ p b4 (d3.same (same_upd hp)) (.part _ _ upd_same (.inl rfl) (by omega))
      · exact q _ p b4 (d3.same (same_upd hp)) (.part _ _ upd_same (.inr (.inl rfl)) (by omega))
      · exact q _ p b4 (d3.same (same_upd hp)) (.part _ _ upd_same (.inr (.inr (.inl rfl))) (by omega))
      · exact q _ p b4 (d3.same (same_upd hp)) (.part _ _ upd_same (.inr (.inr (.inr rfl))) (by omega))
    · refine ⟨_, rfl, rfl, _, rfl, iteF' (by decide +kernel) ?_⟩
      refine ⟨_, rfl, rfl, _, rfl, iteF' (by decide +kernel) ?_⟩
      refine ⟨_, rfl, sz (show 3 ≤ 16777216 by decide), fun B hB => ?_⟩
      refine ⟨B, _, rfl, .inr (.inl (.inl upd_same)), rfl, rfl, _, rfl, iteF' (by decide +kernel) ?_⟩
      have e0 := same_upd (o := .tup [.str "heap", .str "tree", .str "ranks"]) hB
      generalize upd H1 B (.tup [.str "heap", .str "tree", .str "ranks"]) = H2 at *
      refine fun D hD => ⟨sz (show 3 ≤ 16777216 by decide), fun l1 h1 => ⟨sz (show 2 ≤ 16777216 by decide), fun l2 h2 => ⟨sz (show 3 ≤ 16777216 by decide), fun l3 h3 => ⟨(same_upd h3) _ _ ((same_upd h2) _ _ ((same_upd h1) _ _ upd_same)), [(.inr "insert", .ref l1), (.inr "select", .ref l2), (.inr "swap", .ref l3)], rfl, by show 3 ≤ 15; decide, ?_⟩⟩⟩⟩
      obtain ⟨H3, e3⟩ : ∃ z, z = (upd (upd (upd (upd H2 D (.dK [])) l1 (.lst [.str "down", .str "up", .str "halves"])) l2 (.lst [.str "least", .str "greatest"])) l3 (.lst [.str "first", .str "last", .str "middle"])) := ⟨_, rfl⟩
      have s3 : Same H2 H3 := by
        rw [e3]
        exact (((same_upd hD).trans (same_upd h1)).trans (same_upd h2)).trans (same_upd h3)
      have k1 : H3 l1 = some (.lst [.str "down", .str "up", .str "halves"]) := by
        rw [e3]
        exact (same_upd h3) _ _ ((same_upd h2) _ _ upd_same)
      have k2 : H3 l2 = some (.lst [.str "least", .str "greatest"]) := by
        rw [e3]
        exact (same_upd h3) _ _ upd_same
      have k3 : H3 l3 = some (.lst [.str "first", .str "last", .str "middle"]) := by
        rw [e3]
        exact upd_same
      have kD : H3 D = some (.dK []) := by
        rw [e3]
        exact (same_upd h3) _ _ ((same_upd h2) _ _ ((same_upd h1) _ _ upd_same))
      rw [← e3]
      clear e3 h1 h2 h3
      obtain ⟨H4, e4⟩ : ∃ z, z = upd H3 D (.dK (mergeK [] [(.inr "insert", V.ref l1), (.inr "select", V.ref l2), (.inr "swap", V.ref l3)])) := ⟨_, rfl⟩
      rw [← e4]
      have hD4 : H4 D = some (.dK (mergeK [] [(.inr "insert", V.ref l1), (.inr "select", V.ref l2), (.inr "swap", V.ref l3)])) := by
        rw [e4]
        exact upd_same
      have neD : ∀ {H' : Hp} {l : Addr} {xs : List V} {kvs : List (Key × V)}, H' l = some (.lst xs) → H' D = some (.dK kvs) → l ≠ D := fun h1 h2 z => by
        rw [z, h2] at h1
        cases h1
      have k41 : H4 l1 = some (.lst [.str "down", .str "up", .str "halves"]) := by
        rw [e4, upd_ne (neD k1 kD)]
        exact k1
      have k42 : H4 l2 = some (.lst [.str "least", .str "greatest"]) := by
        rw [e4, upd_ne (neD k2 kD)]
        exact k2
      have k43 : H4 l3 = some (.lst [.str "first", .str "last", .str "middle"]) := by
        rw [e4, upd_ne (neD k3 kD)]
        exact k3
      have s4 : Same H2 H4 := by
        rw [e4]
        exact same_mut s3 hD
      refine ⟨sz (show 4 ≤ 16777216 by decide), fun l4 h4 => ⟨_, rfl, D, _, rfl, .inl ⟨_, .inr "bubble", (same_upd h4) _ _ hD4, rfl, sz' (by show 3 < 16777216; decide), rfl⟩, ?_⟩⟩
      obtain ⟨H5, e5⟩ : ∃ z, z = upd (upd H4 l4 (.lst [.str "plain", .str "early", .str "last", .str "both"])) D (.dK (putK (mergeK [] [(.inr "insert", V.ref l1), (.inr "select", V.ref l2), (.inr "swap", V.ref l3)]) (.inr "bubble") (V.ref l4))) := ⟨_, rfl⟩
      have hD5 : H5 D = some (.dK (putK (mergeK [] [(.inr "insert", V.ref l1), (.inr "select", V.ref l2), (.inr "swap", V.ref l3)]) (.inr "bubble") (V.ref l4))) := by
        rw [e5]
        exact upd_same
      have n4 : ∀ {l : Addr} {xs : List V}, H4 l = some (.lst xs) → H5 l = some (.lst xs) := fun {l xs} h => by
        rw [e5, upd_ne (neD h hD4)]
        exact (same_upd h4) _ _ h
      have k54 : H5 l4 = some (.lst [.str "plain", .str "early", .str "last", .str "both"]) := by
        rw [e5, upd_ne (fun z => by rw [z, hD4] at h4; cases h4)]
        exact upd_same
      have s5 : Same H2 H5 := by
        rw [e5]
        exact same_mut (s4.trans (same_upd h4)) hD
      rw [← e5]
      refine ⟨sz (show 3 ≤ 16777216 by decide), fun l5 h5 => ⟨_, rfl, D, _, rfl, .inl ⟨_, .inr "merge", (same_upd h5) _ _ hD5, rfl, sz' (by show 4 < 16777216; decide), rfl⟩, ?_⟩⟩
      obtain ⟨H6, e6⟩ : ∃ z, z = upd (upd H5 l5 (.lst [.str "above", .str "below", .str "runs"])) D (.dK (putK (putK (mergeK [] [(.inr "insert", V.ref l1), (.inr "select", V.ref l2), (.inr "swap", V.ref l3)]) (.inr "bubble") (V.ref l4)) (.inr "merge") (V.ref l5))) := ⟨_, rfl⟩
      have hD6 : H6 D = some (.dK (putK (putK (mergeK [] [(.inr "insert", V.ref l1), (.inr "select", V.ref l2), (.inr "swap", V.ref l3)]) (.inr "bubble") (V.ref l4)) (.inr "merge") (V.ref l5))) := by
        rw [e6]
        exact upd_same
      have n5 : ∀ {l : Addr} {xs : List V}, H5 l = some (.lst xs) → H6 l = some (.lst xs) := fun {l xs} h => by
        rw [e6, upd_ne (neD h hD5)]
        exact (same_upd h5) _ _ h
      have k65 : H6 l5 = some (.lst [.str "above", .str "below", .str "runs"]) := by
        rw [e6, upd_ne (fun z => by rw [z, hD5] at h5; cases h5)]
        exact upd_same
      have s6 : Same H2 H6 := by
        rw [e6]
        exact same_mut (s5.trans (same_upd h5)) hD
      rw [← e6]
      have b6 : But [d, n] H H6 := b1'.trans (But.of (e0.trans s6))
      have d6 : DrawsAt H6 d n := d1.same (e0.trans s6)
      refine ⟨_, rfl, _, rfl, _, rfl, _, rfl, D, .ref l3, rfl, .inl ⟨_, .inr "swap", .inl hD6, rfl, rfl⟩, rest "swap" ["first", "last", "middle"] l3 H6 (.inr (.inr (.inr (.inr ⟨rfl, fun w hw => by simp only [List.mem_cons, List.mem_nil_iff, or_false] at hw; unfold PWord; rcases hw with h | h | h <;> simp [h]⟩)))) b6 d6 (fun hm => ?_) (List.cons_ne_nil _ _) (by show 3 < 1000; decide) (n5 (n4 k43))⟩
      obtain ⟨ns, c, g1, g2, _⟩ := d6
      have hh : H6 l3 = some (.lst ((["first", "last", "middle"] : List Str).map V.str)) := (n5 (n4 k43))
      rcases List.mem_cons.mp hm with e | hm
      · rw [e, g1] at hh
        simp at hh
      · rw [List.mem_singleton.mp hm, g2] at hh
        cases ns <;> simp at hh
    · refine ⟨_, rfl, rfl, _, rfl, iteF' (by decide +kernel) ?_⟩
      refine ⟨_, rfl, rfl, _, rfl, iteF' (by decide +kernel) ?_⟩
      refine ⟨_, rfl, sz (show 3 ≤ 16777216 by decide), fun B hB => ?_⟩
      refine ⟨B, _, rfl, .inr (.inl (.inl upd_same)), rfl, rfl, _, rfl, iteT' (by decide +kernel) ?_⟩
      refine ⟨_, rfl, sz (show 1 ≤ 16777216 by decide), fun p hp => ?_⟩
      exact q _ p ((b1'.trans (But.fresh hB)).trans (But.fresh hp)) ((d1.same (same_upd hB)).same (same_upd hp)) (.one _ upd_same (by simp))
    · refine ⟨_, rfl, rfl, _, rfl, iteF' (by decide +kernel) ?_⟩
      refine ⟨_, rfl, rfl, _, rfl, iteF' (by decide +kernel) ?_⟩
      refine ⟨_, rfl, sz (show 3 ≤ 16777216 by decide), fun B hB => ?_⟩
      refine ⟨B, _, rfl, .inr (.inl (.inl upd_same)), rfl, rfl, _, rfl, iteT' (by decide +kernel) ?_⟩
      refine ⟨_, rfl, sz (show 1 ≤ 16777216 by decide), fun p hp => ?_⟩
      exact q _ p ((b1'.trans (But.fresh hB)).trans (But.fresh hp)) ((d1.same (same_upd hB)).same (same_upd hp)) (.one _ upd_same (by simp))
    · refine ⟨_, rfl, rfl, _, rfl, iteF' (by decide +kernel) ?_⟩
      refine ⟨_, rfl, rfl, _, rfl, iteF' (by decide +kernel) ?_⟩
      refine ⟨_, rfl, sz (show 3 ≤ 16777216 by decide), fun B hB => ?_⟩
      refine ⟨B, _, rfl, .inr (.inl (.inl upd_same)), rfl, rfl, _, rfl, iteT' (by decide +kernel) ?_⟩
      refine ⟨_, rfl, sz (show 1 ≤ 16777216 by decide), fun p hp => ?_⟩
      exact q _ p ((b1'.trans (But.fresh hB)).trans (But.fresh hp)) ((d1.same (same_upd hB)).same (same_upd hp)) (.one _ upd_same (by simp))
/-! ### _law_way -/
def WayAt (H : Hp) (p : Addr) : Prop := SimpleAt H p ∨ ∃ q, H p = some (.tup [.str "sparing", .ref q]) ∧ SimpleAt H q
theorem SimpleAt.same {H H' : Hp} {p : Addr} (h : SimpleAt H p) (e : Same H H') : SimpleAt H' p := by
  cases h with
  | gaps g h hg => exact .gaps g (e _ _ h) (hg.same e)
  | part w s h hw hs => exact .part w s (e _ _ h) hw hs
  | one k h hk => exact .one k (e _ _ h) hk
  | two k w h hk => exact .two k w (e _ _ h) hk
def spWay : Sp := fun vs H Q _ => ∃ (d n : Addr), vs = [.ref d] ∧ DrawsAt H d n ∧ ∀ H' p, But [d, n] H H' → DrawsAt H' d n → WayAt H' p → Q (.ref p) H'
theorem ok_w_way (T : Txt K mg CS CE CT) : Ok P w K mg base CX0 4 "_law_way" P_w_way spWay := by
  refine T.d_w_way.ok0 sc_w_way (fun _ _ _ _ _ _ us hl => match us, hl with | [_], _ => rfl) (fun vs H Q E h => ?_) (fun f cdv A outer s H vs Q E hr h => ?_)
  · obtain ⟨_, _, rfl, _⟩ := h
    rfl
  · obtain ⟨d, n, rfl, hd, q⟩ := h
    refine ⟨_, (pss_one (ps_ret (pe_ifExp (pt_cmpR op_eq (pe_callO (ok_w_draw T) (hr.mono (by decide)) pass0 (pa_cons (pv 0) (pa_cons pe_int pa_nil))) pe_int (nomark _)) (pe_tup (pa_cons pe_str (pa_cons (pe_callO (ok_w_simple T) (hr.mono (by decide)) pass0 (pa_cons (pv 0) pa_nil)) pa_nil))) (pe_callO (ok_w_simple T) (hr.mono (by decide)) pass0 (pa_cons (pv 0) pa_nil))))), ?_⟩
    refine ⟨_, rfl, d, n, 5, rfl, ⟨by decide, by decide⟩, hd, fun H1 r b1 d1 r1 r2 => ⟨rfl, _, rfl, ?_⟩⟩
    refine ite2 (fun _ => ?_) (fun _ => ?_)
    · refine ⟨_, rfl, d, n, rfl, d1, fun H2 p b2 d2 hp => ⟨sz (show 2 ≤ 16777216 by decide), fun a ha => ?_⟩⟩
      exact q _ a ((b1.trans b2).trans (But.fresh ha)) (d2.same (same_upd ha)) (.inr ⟨p, upd_same, hp.same (same_upd ha)⟩)
    · exact ⟨_, rfl, d, n, rfl, d1, fun H2 p b2 d2 hp => q _ p (b1.trans b2) d2 (.inl hp)⟩
/-! ### _law_row -/
def spRow : Sp := fun vs H Q _ => ∃ (d n : Addr), vs = [.ref d, .int 12] ∧ DrawsAt H d n ∧ ∀ H' a (ns : List Int), But [d, n] H H' → DrawsAt H' d n → H a = none → a ∉ [d, n] → H' a = some (.lst (ns.map V.int)) → ns.length ≤ 12 → (∀ x ∈ ns, -99 ≤ x ∧ x ≤ 99) → Q (.ref a) H'
theorem ok_w_row (T : Txt K mg CS CE CT) : Ok P w K mg base CX0 3 "_law_row" P_w_row spRow := by
  refine T.d_w_row.ok0 sc_w_row (fun _ _ _ _ _ _ us hl => match us, hl with | [_, _], _ => rfl) (fun vs H Q E h => ?_) (fun f cdv A outer s H vs Q E hr h => ?_)
  · obtain ⟨_, _, rfl, _⟩ := h
    rfl
  · obtain ⟨d, n, rfl, hd, q⟩ := h
    refine ⟨_, (pss_cons (ps_asg (pe_tup (pa_cons (pe_callO (ok_w_draw T) (hr.mono (by decide)) pass0 (pa_cons (pv 0) (pa_cons (pe_op op_add (pv 1) pe_int) pa_nil))) (pa_cons (pe_callO (ok_w_pick T) (hr.mono (by decide)) pass0 (pa_cons (pv 0) (pa_cons (pe_lst (pa_cons pe_int (pa_cons pe_int (pa_cons pe_int (pa_cons pe_int (pa_cons pe_int pa_nil)))))) pa_nil))) pa_nil))) (pg_tup rfl (pgs_cons (pg_name (i := 2) sc_w_row.nd rfl (Or.inl rfl)) (pgs_cons (pg_name (i := 3) sc_w_row.nd rfl (Or.inr rfl)) pgs_nil))))
  (pss_cons (ps_setLc (i := 4) (own := [("_law_k", 5)]) rfl sc_w_row.nd rfl rfl (sw_true rfl rfl rfl (by decide +kernel)) (pi_range1 (by rfl) T.f_range (pa_cons (pv 2) pa_nil)) (blkOk_by (N := N_w_row) (sc := defScope s_w_row) (by decide +kernel)) (fun _ _ _ _ _ => (pg_name (i := 5) sc_w_row.nd rfl (Or.inl rfl))) (fun _ _ _ _ _ => pts_nil) (fun _ _ _ _ _ => (pe_op op_sub (pe_callO (ok_w_draw T) (hr.mono (by decide)) pass0 (pa_cons (pv 0) (pa_cons (pv 3) pa_nil))) (pe_op op_fdiv (pv 3) pe_int))))
  (pss_cons (ps_set (i := 6) sc_w_row.nd rfl (Or.inl rfl) (pe_callO (ok_w_draw T) (hr.mono (by decide)) pass0 (pa_cons (pv 0) (pa_cons pe_int pa_nil))))
  (pss_cons (ps_if (pt_cmpR op_eq (pv 6) pe_int (nomark _)) (pss_one (ps_set (i := 4) sc_w_row.nd rfl (Or.inl rfl) (pe_callB cr_sortedI (by rfl) T.f_sorted (by decide +kernel) (pa_cons (pv 4) pa_nil)))) pss_nil)
  (pss_cons (ps_if (pt_cmpR op_eq (pv 6) pe_int (nomark _)) (pss_one (ps_set (i := 4) sc_w_row.nd rfl (Or.inl rfl) (pe_revL (pe_callB cr_sortedI (by rfl) T.f_sorted (by decide +kernel) (pa_cons (pv 4) pa_nil))))) pss_nil)
  (pss_one (ps_ret (pv 4)))))))), ?_⟩
    refine ⟨_, rfl, _, rfl, 12, 1, rfl, rfl, d, n, 13, rfl, ⟨by decide, by decide⟩, hd, fun H1 size b1 d1 z1 z2 => ?_⟩
    refine ⟨_, rfl, sz (show 5 ≤ 16777216 by decide), fun l hl => ?_⟩
    refine ⟨d, n, l, _, rfl, upd_same, List.cons_ne_nil _ _, by show 5 < 1000; decide, d1.off hl, d1.same (same_upd hl), fun H2 x b2 d2 hx => ?_⟩
    have hw : ∃ wide : Int, x = .int wide ∧ 1 ≤ wide ∧ wide ≤ 199 := by
      simp only [List.mem_cons, List.mem_nil_iff, or_false] at hx
      rcases hx with h | h | h | h | h <;> exact ⟨_, h, by decide, by decide⟩
    obtain ⟨wide, rfl, w1, w2⟩ := hw
    refine ⟨sz (show 2 ≤ 16777216 by decide), fun t ht => ?_⟩
    refine ⟨_, _, rfl, .inl (.inl upd_same), rfl, _, _, rfl, _, _, rfl, rfl, ?_⟩
    have b3 : But [d, n] H (upd H2 t (.tup [.int size, .int wide])) := ((b1.trans (But.fresh hl)).trans b2).trans (But.fresh ht)
    have d3 := d2.same (same_upd (o := .tup [.int size, .int wide]) ht)
    generalize upd H2 t (.tup [.int size, .int wide]) = H3 at *
    refine ⟨_, rfl, size, rfl, by omega, by omega, fun D hD => ?_⟩
    have hDo := d3.off hD
    have mem_of : ∀ a : Addr, a ∈ [d, n] → a = d ∨ a = n := fun a h => by simpa using h
    have dD : ∀ {H' : Hp} {o : HO}, DrawsAt H' d n → DrawsAt (upd H' D o) d n := fun {H' o} dd => dd.but (But.at (l := [D]) List.mem_cons_self) (fun z => hDo (by rw [← List.mem_singleton.mp z]; exact List.mem_cons_self)) (fun z => hDo (by rw [← List.mem_singleton.mp z]; simp))
    refine lc_range (fun i H' => ∃ ns : List Int, ns.length = i ∧ (∀ x ∈ ns, -99 ≤ x ∧ x ≤ 99) ∧ But [d, n] H3 H' ∧ DrawsAt H' d n ∧ H' D = some (.lst (ns.map V.int))) ⟨[], rfl, fun x hx => (nomatch hx), But.fresh hD, d3.same (same_upd hD), upd_same⟩ (fun i H' hi p => ?_) (fun H' p => ?_)
    · obtain ⟨ns, p1, p2, p3, p4, p5⟩ := p
      refine ⟨rfl, _, rfl, _, rfl, d, n, wide, rfl, ⟨by omega, by omega⟩, p4, fun H4 r b4 d4 r1 r2 => ?_⟩
      refine ⟨_, rfl, wide, 2, rfl, rfl, ⟨by decide, by decide⟩, _, _, rfl, rfl, ?_⟩
      refine ⟨ns.map V.int, b4 _ _ p5 hDo, sz' (by rw [List.length_map]; omega), ns ++ [r - wide / 2], by rw [List.length_append, p1]; rfl, ?_, (p3.trans b4).late hD, dD d4, ?_⟩
      · intro x hx
        rcases List.mem_append.mp hx with hx | hx
        · exact p2 x hx
        · rw [List.mem_singleton.mp hx]
          omega
      · rw [upd_same, List.map_append]
        rfl
    · obtain ⟨ns, p1, p2, p3, p4, p5⟩ := p
      have hlen : ns.length ≤ 12 := by omega
      refine ⟨_, rfl, d, n, 6, rfl, ⟨by decide, by decide⟩, p4, fun H4 r b4 d4 r1 r2 => ?_⟩
      have h4 := b4 _ _ p5 hDo
      have b5 : But [d, n] H H4 := (b3.trans p3).trans b4
      have hDn : H D = none := by
        cases hh : H D with
        | none => rfl
        | some o =>
          rw [b3 _ _ hh hDo] at hD
          cases hD
      refine ⟨_, rfl, rfl, _, rfl, ?_⟩
      by_cases c0 : r = 0
      · subst c0
        refine iteT' (by decide +kernel) ?_
        refine ⟨_, rfl, D, ns, rfl, .inl (.inl h4), fun ns' p hperm hs hp => ?_⟩
        refine ⟨_, rfl, rfl, _, rfl, iteF' (by decide +kernel) ?_⟩
        have ho := d4.off hp
        refine ⟨_, rfl, q _ p ns' (b5.trans (But.fresh hp)) (d4.same (same_upd hp)) ?_ ho upd_same (by rw [hperm.length_eq]; exact hlen) (fun x hx => p2 x (hperm.mem_iff.mp hx))⟩
        cases hh : H p with
        | none => rfl
        | some o =>
          rw [b5 _ _ hh ho] at hp
          cases hp
      · refine iteF' (decide_eq_false (fun z => c0 (by injection z))) ?_
        refine ⟨_, rfl, rfl, _, rfl, ?_⟩
        by_cases c1 : r = 1
        · subst c1
          refine iteT' (by decide +kernel) ?_
          refine ⟨_, rfl, D, ns, rfl, .inl (.inl h4), fun ns' p hperm hs hp => ?_⟩
          refine ⟨p, _, rfl, .inl (.inl upd_same), fun p2' hp2 => ?_⟩
          have d5 := d4.same (same_upd (o := .lst (ns'.map V.int)) hp)
          have ho := d5.off hp2
          have b6 := b5.trans (But.fresh (o := .lst (ns'.map V.int)) hp)
          refine ⟨_, rfl, q _ p2' ns'.reverse (b6.trans (But.fresh hp2)) (d5.same (same_upd hp2)) ?_ ho ?_ (by rw [List.length_reverse, hperm.length_eq]; exact hlen) (fun x hx => p2 x (hperm.mem_iff.mp (List.mem_reverse.mp hx)))⟩
          · cases hh : H p2' with
            | none => rfl
            | some o =>
              rw [b6 _ _ hh ho] at hp2
              cases hp2
          · rw [upd_same, List.map_reverse]
        · refine iteF' (decide_eq_false (fun z => c1 (by injection z))) ?_
          exact ⟨_, rfl, q H4 D ns b5 d4 hDn hDo h4 hlen p2⟩
end
end K20
/-! K20G: _law_tells, _law_less. -/
namespace K20
open PySem PySem.Spec PyProof.Rows L2
/-! ### counting -/
theorem nodup_le : ∀ (N : Nat) (l : List Nat), l.Nodup → (∀ x ∈ l, x < N) → l.length ≤ N
  | 0, l, _, h => by
    cases l with
    | nil => exact Nat.le_refl _
    | cons x r => exact absurd (h x List.mem_cons_self) (by omega)
  | N + 1, l, hn, h => by
    have ih := nodup_le N (l.erase N) (hn.erase N) (fun x hx => by
      have h1 := h x (List.mem_of_mem_erase hx)
      have h2 : x ≠ N := fun e => by
        rw [e] at hx
        exact hn.not_mem_erase hx
      omega)
    have := List.length_erase (a := N) (l := l)
    split at this <;> omega
theorem nodup_map {α β : Type} {f : α → β} (hf : ∀ x y, f x = f y → x = y) : ∀ {l : List α}, l.Nodup → (l.map f).Nodup
  | [], _ => List.nodup_nil
  | x :: r, h => by
    obtain ⟨h1, h2⟩ := List.nodup_cons.mp h
    rw [List.map_cons]
    refine List.nodup_cons.mpr ⟨fun hm => ?_, nodup_map hf h2⟩
    obtain ⟨y, hy, e⟩ := List.mem_map.mp hm
    exact h1 (by rw [← hf y x e]; exact hy)
theorem nodup_mapOn {α β : Type} {f : α → β} : ∀ {l : List α}, (∀ x ∈ l, ∀ y ∈ l, f x = f y → x = y) → l.Nodup → (l.map f).Nodup
  | [], _, _ => List.nodup_nil
  | x :: r, hf, h => by
    obtain ⟨h1, h2⟩ := List.nodup_cons.mp h
    rw [List.map_cons]
    refine List.nodup_cons.mpr ⟨fun hm => ?_, nodup_mapOn (fun a ha b hb => hf a (List.mem_cons_of_mem _ ha) b (List.mem_cons_of_mem _ hb)) h2⟩
    obtain ⟨y, hy, e⟩ := List.mem_map.mp hm
    exact h1 (by rw [← hf y (List.mem_cons_of_mem _ hy) x List.mem_cons_self e]; exact hy)
/-! ### things, the state -/
/-- things of a row: each once -/
structure Th (row ts : List Int) : Prop where
  nd : ts.Nodup
  lt : ∀ t ∈ ts, 0 ≤ t ∧ t < row.length
theorem Th.len {row ts : List Int} (h : Th row ts) (hr : row.length ≤ 12) : ts.length ≤ 12 := by
  have z := nodup_le row.length (ts.map Int.toNat) (nodup_mapOn (fun x hx y hy e => by
    have := h.lt x hx
    have := h.lt y hy
    omega) h.nd) (fun x hx => by
    obtain ⟨t, ht, rfl⟩ := List.mem_map.mp hx
    have := h.lt t ht
    omega)
  rw [List.length_map] at z
  omega
theorem Th.perm {row ts us : List Int} (h : Th row ts) (p : us.Perm ts) : Th row us := ⟨p.symm.nodup h.nd, fun t ht => h.lt t (p.mem_iff.mp ht)⟩
theorem Th.sub {row ts us : List Int} (h : Th row ts) (p : us.Sublist ts) : Th row us := ⟨h.nd.sublist p, fun t ht => h.lt t (p.subset ht)⟩
structure SAt (H : Hp) (st r g : Addr) (row : List Int) (m : Nat) : Prop where
  n12 : row.length ≤ 12
  stt : ∃ sp, H st = some (.lst [.ref r, .ref g, .bl sp])
  rr : H r = some (.lst (row.map V.int))
  gg : ∃ log, LogAt H g log ∧ (∀ q ∈ log, Good row q) ∧ log.length ≤ m
  sg : st ≠ g
  rg : r ≠ g
theorem SAt.mono {H : Hp} {st r g : Addr} {row : List Int} {m m' : Nat} (h : SAt H st r g row m) (l : m ≤ m') : SAt H st r g row m' := by
  obtain ⟨log, h1, h2, h3⟩ := h.gg
  exact ⟨h.n12, h.stt, h.rr, ⟨log, h1, h2, Nat.le_trans h3 l⟩, h.sg, h.rg⟩
theorem SAt.same {H H' : Hp} {st r g : Addr} {row : List Int} {m : Nat} (h : SAt H st r g row m) (e : Same H H') : SAt H' st r g row m := by
  obtain ⟨sp, h0⟩ := h.stt
  obtain ⟨log, h1, h2, h3⟩ := h.gg
  exact ⟨h.n12, ⟨sp, e _ _ h0⟩, e _ _ h.rr, ⟨log, h1.same e, h2, h3⟩, h.sg, h.rg⟩
def Off (D st r g : Addr) : Prop := D ≠ st ∧ D ≠ r ∧ D ≠ g
theorem SAt.off {H : Hp} {st r g D : Addr} {row : List Int} {m : Nat} (h : SAt H st r g row m) (hD : H D = none) : Off D st r g := by
  obtain ⟨sp, h0⟩ := h.stt
  obtain ⟨log, ⟨ts, h1, _⟩, _⟩ := h.gg
  exact ⟨(ne_of_none h0 hD).symm, (ne_of_none h.rr hD).symm, (ne_of_none h1 hD).symm⟩
/-- a list that isn't the state's is changed -/
theorem SAt.put {H : Hp} {st r g D : Addr} {row : List Int} {m : Nat} {xs ys : List V} (h : SAt H st r g row m) (hD : H D = some (.lst xs)) (o : Off D st r g) : SAt (upd H D (.lst ys)) st r g row m := by
  obtain ⟨sp, h0⟩ := h.stt
  obtain ⟨log, ⟨ts, h1, h2, h3⟩, g2, g3⟩ := h.gg
  refine ⟨h.n12, ⟨sp, ?_⟩, ?_, ⟨log, ⟨ts, ?_, h2, fun i t q a b => ?_⟩, g2, g3⟩, h.sg, h.rg⟩
  · rw [upd_ne o.1.symm]
    exact h0
  · rw [upd_ne o.2.1.symm]
    exact h.rr
  · rw [upd_ne o.2.2.symm]
    exact h1
  · have z := h3 i t q a b
    rw [upd_ne (fun e => by rw [e, hD] at z; cases z)]
    exact z
/-! ### pairs as data -/
def pdd (p : Int × Int) : PyData := .tuple [.int p.1, .int p.2]
def PsAt (H : Hp) (R : Addr) (ps : List (Int × Int)) : Prop := ∃ as : List Addr, H R = some (.lst (as.map V.ref)) ∧ as.length = ps.length ∧ ∀ (i : Nat) (a : Addr) (p : Int × Int), as[i]? = some a → ps[i]? = some p → H a = some (.tup [.int p.1, .int p.2])
theorem PsAt.same {H H' : Hp} {R : Addr} {ps : List (Int × Int)} (h : PsAt H R ps) (e : Same H H') : PsAt H' R ps := by
  obtain ⟨as, h1, h2, h3⟩ := h
  exact ⟨as, e _ _ h1, h2, fun i a p x y => e _ _ (h3 i a p x y)⟩
theorem PsAt.push {H : Hp} {R a : Addr} {ps : List (Int × Int)} {p : Int × Int} (h : PsAt H R ps) (ha : H a = some (.tup [.int p.1, .int p.2])) :
    ∃ as : List Addr, H R = some (.lst (as.map V.ref)) ∧ as.length = ps.length ∧ PsAt (upd H R (.lst (as.map V.ref ++ [.ref a]))) R (ps ++ [p]) := by
  obtain ⟨as, h1, h2, h3⟩ := h
  have ne : ∀ {b : Addr} {xs : List V}, H b = some (.tup xs) → b ≠ R := fun hb e => by
    rw [e, h1] at hb
    cases hb
  refine ⟨as, h1, h2, as ++ [a], ?_, ?_, fun i b q x y => ?_⟩
  · rw [upd_same, List.map_append]
    rfl
  · rw [List.length_append, List.length_append, h2]
    rfl
  · by_cases c : i < as.length
    · rw [List.getElem?_append_left c] at x
      rw [List.getElem?_append_left (by omega)] at y
      have z := h3 i b q x y
      rw [upd_ne (ne z)]
      exact z
    · have l := get_lt x
      rw [List.length_append, List.length_singleton] at l
      have ei : i = as.length := by omega
      subst ei
      rw [List.getElem?_append_right (Nat.le_refl _), Nat.sub_self] at x
      rw [h2, List.getElem?_append_right (Nat.le_refl _), Nat.sub_self] at y
      cases x
      cases y
      rw [upd_ne (ne ha)]
      exact ha
theorem dp_pair {K : PySem.W.Frag} {H : Hp} {a : Addr} {p : Int × Int} (h : H a = some (.tup [.int p.1, .int p.2])) : Dp K H (.ref a) (pdd p) := .tup (.inl (.inl h)) (.cons (.int _) (.cons (.int _) .nil))
theorem dp_pairs {K : PySem.W.Frag} {H : Hp} : ∀ {as : List Addr} {ps : List (Int × Int)}, as.length = ps.length → (∀ (i : Nat) (a : Addr) (p : Int × Int), as[i]? = some a → ps[i]? = some p → H a = some (.tup [.int p.1, .int p.2])) → DpAll K H (as.map V.ref) (ps.map pdd)
  | [], [], _, _ => .nil
  | a :: as, p :: ps, hl, h => .cons (dp_pair (h 0 a p rfl rfl)) (dp_pairs (Nat.succ.inj hl) fun i b q x y => h (i + 1) b q x y)
theorem PsAt.dp {K : PySem.W.Frag} {H : Hp} {R : Addr} {ps : List (Int × Int)} (h : PsAt H R ps) : Dp K H (.ref R) (.list (ps.map pdd)) := by
  obtain ⟨as, h1, h2, h3⟩ := h
  exact .lst (.inl (.inl h1)) (dp_pairs h2 h3)
theorem pdd_shaped (p : Int × Int) : SeqAt.shaped (pdd p) = true := rfl
theorem pdds_lay : ∀ ps : List (Int × Int), PyData.canLayAll0 (ps.map pdd) = true
  | [] => rfl
  | p :: r => by
    rw [List.map_cons]
    show (PyData.canLay0 (pdd p) && PyData.canLayAll0 (r.map pdd)) = true
    rw [pdds_lay r]
    rfl
theorem pdds_depth : ∀ ps : List (Int × Int), PyData.depthAll (ps.map pdd) ≤ 1
  | [] => by
    show 0 ≤ 1
    omega
  | p :: r => by
    rw [List.map_cons]
    show max (PyData.depth (pdd p)) (PyData.depthAll (r.map pdd)) ≤ 1
    have h1 := pdds_depth r
    have h2 : PyData.depth (pdd p) = 1 := rfl
    omega
theorem pdds_shaped (ps : List (Int × Int)) : SeqAt.shaped (.list (ps.map pdd)) = true := by
  show (PyData.canLayAll0 (ps.map pdd) && decide (PyData.depthAll (ps.map pdd) + 1 ≤ 64)) = true
  rw [pdds_lay, decide_eq_true (by have := pdds_depth ps; omega)]
  rfl
theorem pdd_eqv (p q : Int × Int) : PyData.eqv (pdd p) (pdd q) = decide (p = q) := by
  obtain ⟨a, b⟩ := p
  obtain ⟨c, d⟩ := q
  show ((a == c) && ((b == d) && true)) = decide ((a, b) = (c, d))
  by_cases h1 : a = c
  · by_cases h2 : b = d
    · subst h1 h2
      simp
    · simp [h2]
  · simp [h1]
theorem pdd_any (ps : List (Int × Int)) (q : Int × Int) : (ps.map pdd).any (fun z => PyData.eqv z (pdd q)) = decide (q ∈ ps) := by
  rw [List.any_map]
  induction ps with
  | nil => rfl
  | cons p r ih =>
    rw [List.any_cons, ih]
    show (PyData.eqv (pdd p) (pdd q) || decide (q ∈ r)) = _
    rw [pdd_eqv]
    by_cases h : p = q
    · simp [h]
    · by_cases h2 : q ∈ r
      · simp [h2]
      · have h3 : ¬ q = p := fun z => h z.symm
        simp [h, h2, h3]
/-- what the walk over the log has reached -/
structure Rch (row : List Int) (ps : List (Int × Int)) : Prop where
  nd : ps.Nodup
  ok : ∀ p ∈ ps, (0 ≤ p.1 ∧ p.1 < row.length) ∧ (p.2 = 0 ∨ p.2 = 1)
theorem Rch.len {row : List Int} {ps : List (Int × Int)} (h : Rch row ps) (hr : row.length ≤ 12) : ps.length ≤ 24 := by
  have z := nodup_le 24 (ps.map fun p => 2 * p.1.toNat + p.2.toNat) (nodup_mapOn (fun x hx y hy e => by
    obtain ⟨a1, a2⟩ := h.ok x hx
    obtain ⟨b1, b2⟩ := h.ok y hy
    obtain ⟨x1, x2⟩ := x
    obtain ⟨y1, y2⟩ := y
    have e : 2 * x1.toNat + x2.toNat = 2 * y1.toNat + y2.toNat := e
    have a1 : 0 ≤ x1 ∧ x1 < row.length := a1
    have a2 : x2 = 0 ∨ x2 = 1 := a2
    have b1 : 0 ≤ y1 ∧ y1 < row.length := b1
    have b2 : y2 = 0 ∨ y2 = 1 := b2
    have e1 : x1 = y1 := by omega
    have e2 : x2 = y2 := by omega
    rw [e1, e2]) h.nd) (fun x hx => by
    obtain ⟨p, hp, rfl⟩ := List.mem_map.mp hx
    obtain ⟨a1, a2⟩ := h.ok p hp
    show 2 * p.1.toNat + p.2.toNat < 24
    omega)
  rw [List.length_map] at z
  exact z
theorem Rch.push {row : List Int} {ps : List (Int × Int)} {p : Int × Int} (h : Rch row ps) (hp : p ∉ ps) (ok : (0 ≤ p.1 ∧ p.1 < row.length) ∧ (p.2 = 0 ∨ p.2 = 1)) : Rch row (ps ++ [p]) := by
  refine ⟨List.nodup_append.mpr ⟨h.nd, List.nodup_cons.mpr ⟨List.not_mem_nil, List.nodup_nil⟩, fun a ha b hb z => ?_⟩, fun q hq => ?_⟩
  · rw [List.mem_singleton.mp hb] at z
    exact hp (z ▸ ha)
  · rcases List.mem_append.mp hq with hq | hq
    · exact h.ok q hq
    · rw [List.mem_singleton.mp hq]
      exact ok
theorem flat_ints : ∀ ks : List Int, (ks.map V.int).all flatV = true
  | [] => rfl
  | k :: r => by
    rw [List.map_cons, List.all_cons, flat_ints r]
    rfl
theorem dp_ints {K : PySem.W.Frag} {H : Hp} : ∀ ks : List Int, DpAll K H (ks.map V.int) (ks.map PyData.int)
  | [] => .nil
  | k :: r => .cons (.int k) (dp_ints r)
theorem ints_lay : ∀ ps : List Int, PyData.canLayAll0 (ps.map PyData.int) = true
  | [] => rfl
  | p :: r => by
    rw [List.map_cons]
    show (PyData.canLay0 (PyData.int p) && PyData.canLayAll0 (r.map PyData.int)) = true
    rw [ints_lay r]
    rfl
theorem ints_depth : ∀ ps : List Int, PyData.depthAll (ps.map PyData.int) ≤ 1
  | [] => by
    show 0 ≤ 1
    omega
  | p :: r => by
    rw [List.map_cons]
    show max (PyData.depth (PyData.int p)) (PyData.depthAll (r.map PyData.int)) ≤ 1
    have h1 := ints_depth r
    have h2 : PyData.depth (PyData.int p) = 0 := rfl
    omega
theorem ints_shaped (ps : List Int) : SeqAt.shaped (.list (ps.map PyData.int)) = true := by
  show (PyData.canLayAll0 (ps.map PyData.int) && decide (PyData.depthAll (ps.map PyData.int) + 1 ≤ 64)) = true
  rw [ints_lay, decide_eq_true (by have := ints_depth ps; omega)]
  rfl
section
variable {P : Program} {w : World} {K : PySem.W.Frag} {mg : Str → Option Value} {base : Heap} {CS CE CT : Addr}
/-! ### _law_tells -/
def spWTells : Sp := fun vs H Q _ => ∃ (g : Addr) (log : List Qu) (row : List Int) (x y : Int), vs = [.ref g, .int x, .int y] ∧ row.length ≤ 12 ∧ LogAt H g log ∧ (∀ q ∈ log, Good row q) ∧ (0 ≤ x ∧ x < row.length) ∧ (0 ≤ y ∧ y < row.length) ∧
  ∀ H' v, Same H H' → (v = .non ∨ ∃ b, v = .bl b) → Q v H'
theorem ok_w_tells (T : Txt K mg CS CE CT) : Ok P w K mg base CX0 1 "_law_tells" P_w_tells spWTells := by
  refine T.d_w_tells.ok0 sc_w_tells (fun _ _ _ _ _ _ us hl => match us, hl with | [_, _, _], _ => rfl) (fun vs H Q E h => ?_) (fun f cdv A outer s H vs Q E hr h => ?_)
  · obtain ⟨_, _, _, _, _, rfl, _⟩ := h
    rfl
  · obtain ⟨g, log, row, x, y, rfl, hr12, hlog, hgood, hx, hy, q⟩ := h
    refine ⟨_, (pss_cons (ps_set (i := 3) sc_w_tells.nd rfl (Or.inl rfl) (pe_lst pa_nil))
  (pss_cons (ps_for PassesOwn.never rfl (pi_list (pe_lst (pa_cons (pe_tup (pa_cons (pv 1) (pa_cons (pv 2) pa_nil))) (pa_cons (pe_tup (pa_cons (pv 2) (pa_cons (pv 1) pa_nil))) pa_nil)))) (pg_tup rfl (pgs_cons (pg_name (i := 4) sc_w_tells.nd rfl (Or.inl rfl)) (pgs_cons (pg_name (i := 5) sc_w_tells.nd rfl (Or.inr rfl)) pgs_nil))) (pss_cons (ps_par (i := 6) (j := 7) (by rfl) sc_w_tells.nd rfl rfl (by decide) rfl rfl (pa_cons (pe_lst (pa_cons (pe_tup (pa_cons (pv 4) (pa_cons pe_int pa_nil))) pa_nil)) (pa_cons pe_int pa_nil)) (by rfl))
  (pss_cons (ps_while PassesOwn.never (pt_cmpR op_lt (pv 7) (pe_callB call_len (by rfl) T.f_len (by decide +kernel) (pa_cons (pv 6) pa_nil)) (nomark _)) (pss_cons (ps_asg (pe_ix ix_list (pv 6) (pv 7) (fun _ _ => rfl)) (pg_tup rfl (pgs_cons (pg_name (i := 8) sc_w_tells.nd rfl (Or.inl rfl)) (pgs_cons (pg_name (i := 9) sc_w_tells.nd rfl (Or.inl rfl)) pgs_nil))))
  (pss_cons (ps_for PassesOwn.never rfl (pi_list (pv 0)) (pg_tup rfl (pgs_cons (pg_name (i := 10) sc_w_tells.nd rfl (Or.inl rfl)) (pgs_cons (pg_name (i := 11) sc_w_tells.nd rfl (Or.inl rfl)) (pgs_cons (pg_name (i := 12) sc_w_tells.nd rfl (Or.inl rfl)) pgs_nil)))) (pss_cons (ps_set (i := 13) sc_w_tells.nd rfl (Or.inl rfl) (pe_ifExp (pt_val (pv 12)) (pe_tup (pa_cons (pv 11) (pa_cons pe_int pa_nil))) (pe_tup (pa_cons (pv 10) (pa_cons (pv 9) pa_nil)))))
  (pss_one (ps_if (PW.pt (pw_and (pt_cmpR op_eq (pv 8) (pe_ifExp (pt_val (pv 12)) (pv 10) (pv 11)) (nomark _)) (pw_and1 (pt_cmpR (op_notInD (hu65 hr)) (pv 13) (pv 6) (by rfl))))) (pss_one (ps_expr (pe_bm PySem.F.plainAttrs_list PySem.F.slot_list_append PySem.F.type_list_append mt_append (pv 6) (pa_cons (pv 13) pa_nil)))) pss_nil))))
  (pss_one (ps_set (i := 7) sc_w_tells.nd rfl (Or.inl rfl) (pe_op op_add (pv 7) pe_int))))))
  (pss_one (ps_expr (pe_bm PySem.F.plainAttrs_list PySem.F.slot_list_append PySem.F.type_list_append mt_append (pv 3) (pa_cons (pe_lc (own := [("_law_thing", 8), ("_law_strict", 9)]) rfl sc_w_tells.nd (pi_list (pv 6)) (blkOk_by (N := N_w_tells) (sc := defScope s_w_tells) (by decide +kernel)) (fun _ _ _ _ _ => (pg_tupK (n := 2) K rfl rfl (pgs_cons (pg_name (i := 8) sc_w_tells.nd rfl (Or.inl rfl)) (pgs_cons (pg_name (i := 9) sc_w_tells.nd rfl (Or.inl rfl)) pgs_nil)))) (fun _ _ _ _ _ => (pts_one (pt_cmpR op_eq (pv 8) (pv 5) (nomark _)))) (fun _ _ _ _ _ => (pv 9))) pa_nil)))))))
  (pss_cons (ps_if (pt_cmpR op_in_seq pe_int (pe_ix ix_list (pv 3) pe_int (fun _ _ => rfl)) (by rfl)) (pss_one (ps_ret pe_bl)) pss_nil)
  (pss_one (ps_ret (pe_ifExp (pt_cmpR (op_neD hr.units) (pe_ix ix_list (pv 3) pe_int (fun _ _ => rfl)) (pe_lst pa_nil) (nomark _)) pe_bl pe_non)))))), ?_⟩
    refine ⟨sz (show 0 ≤ 16777216 by decide), fun E1 hE1 => ?_⟩
    refine ⟨_, rfl, _, rfl, sz (show 2 ≤ 16777216 by decide), fun t1 ht1 => ?_⟩
    refine ⟨_, rfl, _, rfl, sz (show 2 ≤ 16777216 by decide), fun t2 ht2 => ?_⟩
    refine ⟨sz (show 2 ≤ 16777216 by decide), fun L hL => ?_⟩
    obtain ⟨H1, e1⟩ : ∃ z, z = upd (upd (upd (upd H E1 (.lst [])) t1 (.tup [.int x, .int y])) t2 (.tup [.int y, .int x])) L (.lst [.ref t1, .ref t2]) := ⟨_, rfl⟩
    have s1 : Same H H1 := by
      rw [e1]
      exact (((same_upd hE1).trans (same_upd ht1)).trans (same_upd ht2)).trans (same_upd hL)
    have kE : H1 E1 = some (.lst []) := by
      rw [e1]
      exact (same_upd hL) _ _ ((same_upd ht2) _ _ ((same_upd ht1) _ _ upd_same))
    have k1 : H1 t1 = some (.tup [.int x, .int y]) := by
      rw [e1]
      exact (same_upd hL) _ _ ((same_upd ht2) _ _ upd_same)
    have k2 : H1 t2 = some (.tup [.int y, .int x]) := by
      rw [e1]
      exact (same_upd hL) _ _ upd_same
    have kL : H1 L = some (.lst [.ref t1, .ref t2]) := by
      rw [e1]
      exact upd_same
    have nL : L ≠ E1 := fun z => by
      rw [z, kE] at kL
      cases kL
    have n1 : t1 ≠ E1 := fun z => by
      rw [z, kE] at k1
      cases k1
    have n2 : t2 ≠ E1 := fun z => by
      rw [z, kE] at k2
      cases k2
    rw [← e1]
    clear e1 ht1 ht2 hL
    refine ⟨_, rfl, ⟨_, .inl (.inl kL)⟩, ?_⟩
    refine for_list (xs := [.ref t1, .ref t2]) (fun i σ' H' => ∃ u4 u5 u6 u7 u8 u9 u10 u11 u12 u13, σ' = [some (.ref g), some (.int x), some (.int y), some (.ref E1), u4, u5, u6, u7, u8, u9, u10, u11, u12, u13] ∧ Same H H' ∧ But [E1] H1 H' ∧
        ∃ es : List Addr, es.length = i ∧ H' E1 = some (.lst (es.map V.ref)) ∧ ∀ e ∈ es, e ≠ E1 ∧ ∃ ks : List Int, H' e = some (.lst (ks.map V.int)))
      ⟨none, none, none, none, none, none, none, none, none, none, rfl, s1, But.refl _ _, [], rfl, kE, fun e he => (nomatch he)⟩ (fun i σ' H' hi p => ?_) (fun i xv σ' H' hi p => ?_) (fun σ' H' p => ?_)
    · obtain ⟨_, _, _, _, _, _, _, _, _, _, _, _, p2, _⟩ := p
      exact .inl (.inl (p2 _ _ kL (fun z => nL (List.mem_singleton.mp z))))
    · obtain ⟨u4, u5, u6, u7, u8, u9, u10, u11, u12, u13, rfl, p1, p2, es, p3, p4, p5⟩ := p
      have hxy : ∃ (t : Addr) (x1 y1 : Int), xv = .ref t ∧ H' t = some (.tup [.int x1, .int y1]) ∧ (0 ≤ x1 ∧ x1 < row.length) := by
        rcases i with _ | _ | i
        · cases hi
          exact ⟨t1, x, y, rfl, p2 _ _ k1 (fun z => n1 (List.mem_singleton.mp z)), hx⟩
        · cases hi
          exact ⟨t2, y, x, rfl, p2 _ _ k2 (fun z => n2 (List.mem_singleton.mp z)), hy⟩
        · cases hi
      obtain ⟨t, x1, y1, rfl, ht, hx1⟩ := hxy
      refine ⟨_, _, rfl, .inl (.inl ht), rfl, _, _, rfl, _, _, rfl, rfl, ?_⟩
      refine ⟨_, rfl, sz (show 2 ≤ 16777216 by decide), fun a0 ha0 => ⟨sz (show 1 ≤ 16777216 by decide), fun R hR => ?_⟩⟩
      refine ⟨_, _, rfl, ?_⟩
      obtain ⟨H2, e2⟩ : ∃ z, z = upd (upd H' a0 (.tup [.int x1, .int 0])) R (.lst [.ref a0]) := ⟨_, rfl⟩
      have s2 : Same H' H2 := by
        rw [e2]
        exact (same_upd ha0).trans (same_upd hR)
      have hR' : H' R = none := none_back (same_upd ha0) hR
      have ps2 : PsAt H2 R [(x1, 0)] := by
        rw [e2]
        refine ⟨[a0], upd_same, rfl, fun i a p ha hp => ?_⟩
        rcases i with _ | i
        · cases ha
          cases hp
          exact (same_upd hR) _ _ upd_same
        · cases ha
      rw [← e2]
      clear e2
      have hgR : g ≠ R := fun z => by
        obtain ⟨ts, g1, _⟩ := hlog
        have := p1 _ _ g1
        rw [z, hR'] at this
        cases this
      -- the walk
      refine ⟨fun m σ H3 => ∃ (at_ : Nat) (ps : List (Int × Int)) (v8 v9 v10 v11 v12 v13 : Option V), m = 30 - at_ ∧ at_ ≤ 24 ∧ σ = [some (.ref g), some (.int x), some (.int y), some (.ref E1), some (.int x1), some (.int y1), some (.ref R), some (.int at_), v8, v9, v10, v11, v12, v13] ∧ Same H' H3 ∧ PsAt H3 R ps ∧ Rch row ps,
        ⟨_, 0, [(x1, 0)], _, _, _, _, _, _, rfl, by decide, rfl, s2, ps2, ⟨List.nodup_cons.mpr ⟨List.not_mem_nil, List.nodup_nil⟩, fun p hp => by rw [List.mem_singleton.mp hp]; exact ⟨hx1, .inl rfl⟩⟩⟩, fun m σ H3 w => ?_⟩
      obtain ⟨at_, ps, v8, v9, v10, v11, v12, v13, rfl, hat, rfl, w1, w2, w3⟩ := w
      obtain ⟨as, a1, a2, a3⟩ := id w2
      refine ⟨_, rfl, _, rfl, _, _, rfl, .inl ⟨_, .inl (.inl a1), rfl⟩, _, _, rfl, rfl, _, rfl, ?_⟩
      rw [List.length_map, a2]
      have l24 := w3.len hr12
      by_cases cw : at_ < ps.length
      · refine iteT' (decide_eq_true (by omega)) ?_
        refine ⟨fun σ' H'' => ∃ m', m' < 30 - at_ ∧ ∃ (at_ : Nat) (ps : List (Int × Int)) (v8 v9 v10 v11 v12 v13 : Option V), m' = 30 - at_ ∧ at_ ≤ 24 ∧ σ' = [some (.ref g), some (.int x), some (.int y), some (.ref E1), some (.int x1), some (.int y1), some (.ref R), some (.int at_), v8, v9, v10, v11, v12, v13] ∧ Same H' H'' ∧ PsAt H'' R ps ∧ Rch row ps, fun _ _ h => h, ?_⟩
        obtain ⟨a, ha⟩ := get_at (l := as) (i := at_) (by omega)
        obtain ⟨p, hp⟩ := get_at (l := ps) (i := at_) cw
        obtain ⟨th, str⟩ := p
        have hat3 := a3 at_ a _ ha hp
        obtain ⟨okp1, okp2⟩ := w3.ok _ (List.mem_of_getElem? hp)
        refine ⟨_, rfl, _, rfl, R, _, _, .ref a, rfl, rfl, .inl (.inl a1), atI_nat (get_map ha), ?_⟩
        refine ⟨_, _, rfl, .inl (.inl hat3), rfl, _, _, rfl, _, _, rfl, rfl, ?_⟩
        obtain ⟨ts, g1, g2, g3⟩ := id (hlog.same (p1.trans w1))
        refine ⟨_, rfl, g, rfl, ⟨_, .inl (.inl g1)⟩, ?_⟩
        refine for_list (xs := ts.map V.ref) (fun k σ' H4 => ∃ (ps : List (Int × Int)) (v10 v11 v12 v13 : Option V), σ' = [some (.ref g), some (.int x), some (.int y), some (.ref E1), some (.int x1), some (.int y1), some (.ref R), some (.int at_), some (.int th), some (.int str), v10, v11, v12, v13] ∧ Same H' H4 ∧ But [R] H3 H4 ∧ PsAt H4 R ps ∧ Rch row ps)
          ⟨ps, _, _, _, _, rfl, w1, But.refl _ _, w2, w3⟩ (fun k σ' H4 hk z => ?_) (fun k xv σ' H4 hk z => ?_) (fun σ' H4 z => ?_)
        · obtain ⟨_, _, _, _, _, _, _, z1, _⟩ := z
          exact .inl (.inl (z1 _ _ g1 (fun z => hgR (List.mem_singleton.mp z))))
        · obtain ⟨ps, v10, v11, v12, v13, rfl, z1, z2, z3, z4⟩ := z
          obtain ⟨t, ht, rfl⟩ := map_get hk
          obtain ⟨⟨qx, qy, qb⟩, hq⟩ := get_at (l := log) (i := k) (by rw [← g2]; exact get_lt ht)
          have h3t := g3 k t _ ht hq
          have htR : t ≠ R := fun z => by
            rw [z, a1] at h3t
            cases h3t
          have htq := z2 _ _ h3t (fun z => htR (List.mem_singleton.mp z))
          obtain ⟨gq1, gq2, gq3, gq4, _, _⟩ := hgood _ (List.mem_of_getElem? hq)
          have gq1 : 0 ≤ qx := gq1
          have gq2 : qx < row.length := gq2
          have gq3 : 0 ≤ qy := gq3
          have gq4 : qy < row.length := gq4
          refine ⟨_, _, rfl, .inl (.inl htq), rfl, _, _, rfl, _, _, rfl, _, _, rfl, rfl, ?_⟩
          refine tIf_fresh qb (.tup [.int (if qb then qy else qx), .int (if qb then 1 else str)]) (fun Qt qt => ⟨_, rfl, _, rfl, qt⟩) (fun c Q' q' => ?_) (fun c Q' q' => ?_) (fun pp hpp => ?_)
          · subst c
            exact ⟨_, rfl, sz (show 2 ≤ 16777216 by decide), q'⟩
          · subst c
            exact ⟨_, rfl, _, rfl, sz (show 2 ≤ 16777216 by decide), q'⟩
          have s5 : Same H4 (upd H4 pp (.tup [.int (if qb then qy else qx), .int (if qb then 1 else str)])) := same_upd hpp
          have h5 : (upd H4 pp (.tup [.int (if qb then qy else qx), .int (if qb then 1 else str)])) pp = some (.tup [.int (if qb then qy else qx), .int (if qb then 1 else str)]) := upd_same
          generalize upd H4 pp (.tup [.int (if qb then qy else qx), .int (if qb then 1 else str)]) = H5 at *
          refine ⟨_, rfl, tIf_same qb (.int (if qb then qx else qy)) (fun Qt qt => ⟨_, rfl, _, rfl, qt⟩) (fun c Q' q' => ?_) (fun c Q' q' => ?_) ⟨rfl, _, rfl, ?_⟩⟩
          · subst c
            exact ⟨_, rfl, q'⟩
          · subst c
            exact ⟨_, rfl, q'⟩
          refine ite2 (fun _ => ?_) (fun _ => ?_)
          · refine ⟨_, rfl, _, rfl, pdd (if qb then qy else qx, if qb then 1 else str), ps.map pdd, dp_pair h5, (z3.same s5).dp, pdd_shaped _, pdds_shaped _, _, rfl, ?_⟩
            rw [pdd_any]
            by_cases cm : (if qb then qy else qx, if qb then 1 else str) ∈ ps
            · refine iteF' (by rw [decide_eq_true cm]; rfl) ?_
              exact ⟨ps, _, _, _, _, rfl, z1.trans s5, z2.trans (But.of s5), z3.same s5, z4⟩
            · refine iteT' (by rw [decide_eq_false cm]; rfl) ?_
              obtain ⟨as', b1, b2, b3⟩ := (z3.same s5).push (p := (if qb then qy else qx, if qb then 1 else str)) h5
              refine ⟨_, rfl, .inl ⟨rfl, _, .inl (.inl b1)⟩, _, rfl, R, _, _, rfl, rfl, b1, sz' (by rw [List.length_map, b2]; have := z4.len hr12; omega), ?_⟩
              refine ⟨_, _, _, _, _, rfl, same_mut (z1.trans s5) hR', (z2.trans (But.of s5)).trans (But.at List.mem_cons_self), b3, z4.push cm ⟨?_, ?_⟩⟩
              · show 0 ≤ (if qb then qy else qx) ∧ (if qb then qy else qx) < row.length
                split <;> exact ⟨by assumption, by assumption⟩
              · show (if qb then (1 : Int) else str) = 0 ∨ (if qb then (1 : Int) else str) = 1
                split
                · exact .inr rfl
                · exact okp2
          · refine iteF' (by rfl) ?_
            exact ⟨ps, _, _, _, _, rfl, z1.trans s5, z2.trans (But.of s5), z3.same s5, z4⟩
        · obtain ⟨ps, v10, v11, v12, v13, rfl, z1, z2, z3, z4⟩ := z
          refine ⟨_, rfl, _, _, rfl, rfl, 30 - (at_ + 1), by omega, at_ + 1, ps, _, _, _, _, _, _, rfl, by omega, rfl, z1, z3, z4⟩
      · refine iteF' (decide_eq_false (by omega)) ?_
        have hE3 := w1 _ _ p4
        refine ⟨_, rfl, .inl ⟨rfl, _, .inl (.inl hE3)⟩, _, rfl, R, rfl, ⟨_, .inl (.inl a1)⟩, fun D hD => ?_⟩
        refine lc_list (xs := as.map V.ref) (fun j H4 => ∃ ks : List Int, Same H3 H4 ∧ H4 D = some (.lst (ks.map V.int)) ∧ ks.length ≤ j) ⟨[], same_upd hD, upd_same, Nat.le_refl _⟩ (fun j H4 hj z => ?_) (fun j xv H4 hj z => ?_) (fun H4 z => ?_)
        · obtain ⟨_, z1, _⟩ := z
          exact .inl (.inl (z1 _ _ a1))
        · obtain ⟨ks, z1, z2, z3⟩ := z
          obtain ⟨a, ha, rfl⟩ := map_get hj
          obtain ⟨⟨th, str⟩, hp⟩ := get_at (l := ps) (i := j) (by rw [← a2]; exact get_lt ha)
          have hjl := get_lt hp
          refine ⟨_, _, rfl, .inl (.inl (z1 _ _ (a3 j a _ ha hp))), rfl, _, _, rfl, _, _, rfl, rfl, rfl, ?_⟩
          refine ⟨_, rfl, _, rfl, rfl, _, rfl, ?_⟩
          refine ite2 (fun _ => ?_) (fun _ => ?_)
          · refine ⟨_, rfl, _, z2, sz' (by rw [List.length_map]; omega), ks ++ [str], same_mut z1 hD, ?_, ?_⟩
            · rw [upd_same, List.map_append]
              rfl
            · rw [List.length_append, List.length_singleton]
              omega
          · exact ⟨ks, z1, z2, by omega⟩
        · obtain ⟨ks, z1, z2, z3⟩ := z
          have hE4 := z1 _ _ hE3
          have hDE : D ≠ E1 := fun z => by
            rw [z, hE3] at hD
            cases hD
          have li := get_lt hi
          refine ⟨E1, _, _, rfl, rfl, hE4, sz' (by rw [List.length_map]; simp only [List.length_cons, List.length_nil] at li; omega), ?_⟩
          refine ⟨_, _, _, _, _, _, _, _, _, _, rfl, same_mut ((p1.trans w1).trans z1) hE1, (p2.trans (But.of (w1.trans z1))).trans (But.at List.mem_cons_self), es ++ [D], by rw [List.length_append, p3]; rfl, ?_, fun e he => ?_⟩
          · rw [upd_same, List.map_append]
            rfl
          · rcases List.mem_append.mp he with he | he
            · obtain ⟨m1, ks', m2⟩ := p5 e he
              refine ⟨m1, ks', ?_⟩
              rw [upd_ne m1]
              exact z1 _ _ (w1 _ _ m2)
            · rw [List.mem_singleton.mp he]
              refine ⟨hDE, ks, ?_⟩
              rw [upd_ne hDE]
              exact z2
    · obtain ⟨u4, u5, u6, u7, u8, u9, u10, u11, u12, u13, rfl, p1, p2, es, p3, p4, p5⟩ := p
      obtain ⟨f1, f2, rfl⟩ := two_of p3
      obtain ⟨_, ks1, hk1⟩ := p5 f1 List.mem_cons_self
      obtain ⟨_, ks2, hk2⟩ := p5 f2 (List.mem_cons_of_mem _ List.mem_cons_self)
      refine ⟨_, rfl, E1, _, 0, _, rfl, rfl, .inl (.inl p4), rfl, f1, _, rfl, .inl (.inl (.inl hk1)), rfl, flat_ints _, _, rfl, ?_⟩
      refine ite2 (fun _ => ?_) (fun _ => ?_)
      · exact q _ _ p1 (.inr ⟨true, rfl⟩)
      · refine ⟨_, rfl, E1, _, 1, _, rfl, rfl, .inl (.inl p4), rfl, sz (show 0 ≤ 16777216 by decide), fun pp hpp => ?_⟩
        refine ⟨.list (ks2.map PyData.int), .list [], .lst (.inl (.inl ((same_upd hpp) _ _ hk2))) (dp_ints _), .lst (.inl (.inl upd_same)) .nil, ints_shaped _, rfl, _, rfl, ?_⟩
        refine ite2 (fun _ => ?_) (fun _ => ?_)
        · exact q _ _ (p1.trans (same_upd hpp)) (.inr ⟨false, rfl⟩)
        · exact q _ _ (p1.trans (same_upd hpp)) (.inl rfl)
end
end K20
/-! K20H: _law_less, _law_into, _law_inserted. -/
namespace K20
open PySem PySem.Spec PyProof.Rows L2
theorem flat_mem {ts : List Int} {i : Nat} {t : Int} (h : ts[i]? = some t) : t ∈ ts := List.mem_of_getElem? h
theorem ins_perm (ts : List Int) (t : Int) (i : Nat) : (ts.take i ++ [t] ++ ts.drop i).Perm (t :: ts) := by
  have h : (ts.take i ++ t :: ts.drop i).Perm (t :: (ts.take i ++ ts.drop i)) := List.perm_middle
  rw [List.take_append_drop] at h
  rw [List.append_assoc]
  exact h
theorem rd_ins {K : PySem.W.Frag} {σ : L2.St} {H : Hp} {Q : VK} {ka kb : Nat} {tk : TE} {a : Addr} {ts : List Int} {t : Int} {i : Nat} (ha : σ[ka]? = some (some (.ref a))) (hb : σ[kb]? = some (some (.int t))) (hk : ∀ H' (Q : VK), Q (.int i) H' → tk σ H' Q)
    (h : H a = some (.lst (ts.map V.int))) (hl : ts.length ≤ 1000) (q : ∀ H' p, Same H H' → H p = none → H' p = some (.lst ((ts.take i ++ [t] ++ ts.drop i).map V.int)) → Q (.ref p) H') :
    tOp rCat (tOp rCat (tSl (rSlL K) (tVar ka) tNoPart (tPart tk)) (tLst (tCons (tVar kb) tNil))) (tSl (rSlL K) (tVar ka) (tPart tk) tNoPart) σ H Q := by
  refine ⟨_, ha, hk _ _ ⟨i, rfl, a, _, rfl, .inl (.inl h), fun p1 h1 => ?_⟩⟩
  rw [cutV_hd]
  refine ⟨_, hb, sz (show 1 ≤ 16777216 by decide), fun p2 h2 => ?_⟩
  refine ⟨p1, p2, _, _, rfl, rfl, (same_upd h2) _ _ upd_same, upd_same, sz (by simp; omega), fun p3 h3 => ?_⟩
  have s3 : Same H (upd (upd (upd H p1 (.lst ((ts.map V.int).take i))) p2 (.lst [.int t])) p3 (.lst ((ts.map V.int).take i ++ [.int t]))) := ((same_upd h1).trans (same_upd h2)).trans (same_upd h3)
  have k3 : (upd (upd (upd H p1 (.lst ((ts.map V.int).take i))) p2 (.lst [.int t])) p3 (.lst ((ts.map V.int).take i ++ [.int t]))) p3 = some (.lst ((ts.map V.int).take i ++ [.int t])) := upd_same
  generalize (upd (upd (upd H p1 (.lst ((ts.map V.int).take i))) p2 (.lst [.int t])) p3 (.lst ((ts.map V.int).take i ++ [.int t]))) = H3 at *
  refine ⟨_, ha, hk _ _ ⟨i, rfl, a, _, rfl, .inl (.inl (s3 _ _ h)), fun p4 h4 => ?_⟩⟩
  rw [cutV_tl]
  refine ⟨p3, p4, _, _, rfl, rfl, (same_upd h4) _ _ k3, upd_same, sz (by simp; omega), fun p5 h5 => ?_⟩
  refine q _ p5 ((s3.trans (same_upd h4)).trans (same_upd h5)) (none_back (s3.trans (same_upd h4)) h5) ?_
  rw [upd_same]
  simp
section
variable {P : Program} {w : World} {K : PySem.W.Frag} {mg : Str → Option Value} {base : Heap} {CS CE CT : Addr}
/-! ### _law_less -/
def spLess : Sp := fun vs H Q _ => ∃ (st r g : Addr) (row : List Int) (m : Nat) (x y : Int), vs = [.ref st, .int x, .int y] ∧ SAt H st r g row m ∧ m < 1000000 ∧ (0 ≤ x ∧ x < row.length) ∧ (0 ≤ y ∧ y < row.length) ∧ x ≠ y ∧
  ∀ H' b, But [g] H H' → SAt H' st r g row (m + 1) → Q (.bl b) H'
theorem ok_w_less (T : Txt K mg CS CE CT) : Ok P w K mg base CX0 2 "_law_less" P_w_less spLess := by
  refine T.d_w_less.ok0 sc_w_less (fun _ _ _ _ _ _ us hl => match us, hl with | [_, _, _], _ => rfl) (fun vs H Q E h => ?_) (fun f cdv A outer s H vs Q E hr h => ?_)
  · obtain ⟨_, _, _, _, _, _, _, rfl, _⟩ := h
    rfl
  · obtain ⟨st, r, g, row, m, x, y, rfl, hs, hm, hx, hy, hxy, q⟩ := h
    obtain ⟨sp, hst⟩ := hs.stt
    obtain ⟨log, hlog, hgood, hlm⟩ := hs.gg
    refine ⟨_, (Evl.pss_cut (ps_if (pt_val (pe_ix ix_list (pv 0) pe_int (fun _ _ => rfl))) (pss_cons (ps_set (i := 3) sc_w_less.nd rfl (Or.inl rfl) (pe_callO (ok_w_tells T) (hr.mono (by decide)) pass0 (pa_cons (pe_ix ix_list (pv 0) pe_int (fun _ _ => rfl)) (pa_cons (pv 1) (pa_cons (pv 2) pa_nil)))))
  (pss_one (ps_if (pt_cmpR op_notN (pv 3) pe_non (nomark _)) (pss_one (ps_ret (pv 3))) pss_nil))) pss_nil)
  (pss_cons (ps_set (i := 4) sc_w_less.nd rfl (Or.inl rfl) (pe_cmpR op_lt (pe_ix ix_list (pe_ix ix_list (pv 0) pe_int (fun _ _ => rfl)) (pv 1) (fun _ _ => rfl)) (pe_ix ix_list (pe_ix ix_list (pv 0) pe_int (fun _ _ => rfl)) (pv 2) (fun _ _ => rfl)) (nomark _)))
  (pss_cons (ps_expr (pe_bm PySem.F.plainAttrs_list PySem.F.slot_list_append PySem.F.type_list_append mt_append (pe_ix ix_list (pv 0) pe_int (fun _ _ => rfl)) (pa_cons (pe_tup (pa_cons (pv 1) (pa_cons (pv 2) (pa_cons (pv 4) pa_nil)))) pa_nil)))
  (pss_one (ps_ret (pv 4)))))), ?_⟩
    refine ⟨fun σ' H' => ∃ u, σ' = [some (.ref st), some (.int x), some (.int y), u, none] ∧ Same H H', ?_, fun σ' H' p => ?_⟩
    · refine ⟨_, rfl, st, _, 2, .bl sp, rfl, rfl, .inl (.inl hst), rfl, _, rfl, ?_⟩
      refine ite2 (fun _ => ?_) (fun _ => ⟨none, rfl, Same.refl _⟩)
      refine ⟨_, rfl, st, _, 1, .ref g, rfl, rfl, .inl (.inl hst), rfl, _, rfl, _, rfl, g, log, row, x, y, rfl, hs.n12, hlog, hgood, hx, hy, fun H1 v e hv => ?_⟩
      rcases hv with rfl | ⟨b, rfl⟩
      · exact ⟨_, rfl, rfl, _, rfl, iteF' (by rfl) ⟨_, rfl, e⟩⟩
      · exact ⟨_, rfl, rfl, _, rfl, iteT' (by rfl) ⟨_, rfl, q H1 b (But.of e) ((hs.same e).mono (by omega))⟩⟩
    · obtain ⟨u, rfl, e⟩ := p
      obtain ⟨rx, hrx⟩ := get_at (l := row) (i := x.toNat) (by omega)
      obtain ⟨ry, hry⟩ := get_at (l := row) (i := y.toNat) (by omega)
      have hst' := e _ _ hst
      have hr' := e _ _ hs.rr
      obtain ⟨ts, g1, g2, g3⟩ := id (hlog.same e)
      refine ⟨_, rfl, st, _, 0, .ref r, rfl, rfl, .inl (.inl hst'), rfl, _, rfl, r, _, x, .int rx, rfl, rfl, .inl (.inl hr'), atI_int hx.1 (get_map hrx), ?_⟩
      refine ⟨_, rfl, st, _, 0, .ref r, rfl, rfl, .inl (.inl hst'), rfl, _, rfl, r, _, y, .int ry, rfl, rfl, .inl (.inl hr'), atI_int hy.1 (get_map hry), rx, ry, rfl, rfl, ?_⟩
      refine ⟨_, rfl, st, _, 1, .ref g, rfl, rfl, .inl (.inl hst'), rfl, .inl ⟨rfl, _, .inl (.inl g1)⟩, _, rfl, _, rfl, _, rfl, sz (show 3 ≤ 16777216 by decide), fun p hp => ?_⟩
      obtain ⟨ts', k1, k2, k3⟩ := (hlog.same e).push (q := (x, y, decide (rx < ry))) (same_upd (o := .tup [.int x, .int y, .bl (decide (rx < ry))]) hp) hp upd_same
      refine ⟨g, _, _, rfl, rfl, k1, sz' (by rw [List.length_map, k2]; omega), _, rfl, ?_⟩
      have s2 : Same H (upd H' p (.tup [.int x, .int y, .bl (decide (rx < ry))])) := e.trans (same_upd hp)
      refine q _ _ ((But.of s2).trans (But.at List.mem_cons_self)) ⟨hs.n12, ⟨sp, ?_⟩, ?_, ⟨log ++ [(x, y, decide (rx < ry))], k3, fun q0 hq0 => ?_, by rw [List.length_append, List.length_singleton]; omega⟩, hs.sg, hs.rg⟩
      · rw [upd_ne hs.sg]
        exact s2 _ _ hst
      · rw [upd_ne hs.rg]
        exact s2 _ _ hs.rr
      · rcases List.mem_append.mp hq0 with h | h
        · exact hgood q0 h
        · rw [List.mem_singleton.mp h]
          refine ⟨hx.1, hx.2, hy.1, hy.2, hxy, ?_⟩
          show decide (rx < ry) = decide (row.getD x.toNat 0 < row.getD y.toNat 0)
          rw [getD_of hrx, getD_of hry]
/-! ### _law_into -/
/-- what a sort's part leaves: a new list -/
def OutL (H : Hp) (st r g : Addr) (row : List Int) (m : Nat) (R : List Int → Prop) (Q : VK) : Prop := ∀ H' p us, But [g] H H' → H p = none → H' p = some (.lst (us.map V.int)) → SAt H' st r g row m → R us → Q (.ref p) H'
def spInto : Sp := fun vs H Q _ => ∃ (st r g a : Addr) (row ts : List Int) (m : Nat) (t : Int) (wd : Str), vs = [.ref st, .ref a, .int t, .str wd] ∧ SAt H st r g row m ∧ m < 900000 ∧ a ≠ g ∧ H a = some (.lst (ts.map V.int)) ∧ Th row (t :: ts) ∧ OutL H st r g row (m + 13) (fun us => us.Perm (t :: ts)) Q
theorem ok_w_into (T : Txt K mg CS CE CT) : Ok P w K mg base CX0 3 "_law_into" P_w_into spInto := by
  refine T.d_w_into.ok0 sc_w_into (fun _ _ _ _ _ _ us hl => match us, hl with | [_, _, _, _], _ => rfl) (fun vs H Q E h => ?_) (fun f cdv A outer s H vs Q E hr h => ?_)
  · obtain ⟨_, _, _, _, _, _, _, _, _, rfl, _⟩ := h
    rfl
  · obtain ⟨st, r, g, a, row, ts, m, t, wd, rfl, hs, hm, hag, ha, hth, q⟩ := h
    have hl := hth.len hs.n12
    rw [List.length_cons] at hl
    obtain ⟨hnt, hnd⟩ := List.nodup_cons.mp hth.nd
    have ht := hth.lt t List.mem_cons_self
    have hts : ∀ {i : Nat} {x : Int}, ts[i]? = some x → (0 ≤ x ∧ x < row.length) ∧ t ≠ x := fun {i x} h => ⟨hth.lt x (List.mem_cons_of_mem _ (flat_mem h)), fun e => hnt (by rw [e]; exact flat_mem h)⟩
    have keep : ∀ {H' : Hp}, But [g] H H' → H' a = some (.lst (ts.map V.int)) := fun b => b _ _ ha (fun z => hag (List.mem_singleton.mp z))
    have fin : ∀ {H' H2 : Hp} {p : Addr} {k i : Nat}, But [g] H H' → SAt H' st r g row (m + k) → k ≤ 13 → Same H' H2 → H' p = none → H2 p = some (.lst ((ts.take i ++ [t] ++ ts.drop i).map V.int)) → Q (.ref p) H2 := fun {H' H2 p k i} b hs' hk e hp h2 => by
      refine q H2 p _ (b.trans (But.of e)) ?_ h2 ((hs'.same e).mono (by omega)) (ins_perm ts t i)
      cases hh : H p with
      | none => rfl
      | some o =>
        by_cases hg : p = g
        · obtain ⟨log, ⟨ts', g1, _⟩, _⟩ := hs'.gg
          rw [hg, g1] at hp
          cases hp
        · rw [b _ _ hh (fun z => hg (List.mem_singleton.mp z))] at hp
          cases hp
    refine ⟨_, (pss_cons (ps_par (i := 4) (j := 5) (by rfl) sc_w_into.nd rfl rfl (by decide) rfl rfl (pa_cons pe_int (pa_cons (pe_callB call_len (by rfl) T.f_len (by decide +kernel) (pa_cons (pv 1) pa_nil)) pa_nil)) (by rfl))
  (pss_cons (ps_if (pt_cmpR op_eq (pv 3) pe_str (nomark _)) (pss_cons (ps_while PassesOwn.never (PW.pt (pw_and (pt_cmpR op_gt (pv 5) pe_int (nomark _)) (pw_and1 (pt_val (pe_callO (ok_w_less T) (hr.mono (by decide)) pass0 (pa_cons (pv 0) (pa_cons (pv 2) (pa_cons (pe_ix ix_list (pv 1) (pe_op op_sub (pv 5) pe_int) (fun _ _ => rfl)) pa_nil)))))))) (pss_one (ps_set (i := 5) sc_w_into.nd rfl (Or.inl rfl) (pe_op op_sub (pv 5) pe_int))))
  (pss_one (ps_ret (pe_op op_cat (pe_op op_cat (pe_slice sl_list (pv 1) po_none (po_some (pv 5))) (pe_lst (pa_cons (pv 2) pa_nil))) (pe_slice sl_list (pv 1) (po_some (pv 5)) po_none))))) pss_nil)
  (pss_cons (ps_while PassesOwn.never (pt_cmpR op_lt (pv 4) (pv 5) (nomark _)) (pss_cons (ps_set (i := 6) sc_w_into.nd rfl (Or.inl rfl) (pe_ifExp (pt_cmpR op_eq (pv 3) pe_str (nomark _)) (pv 4) (pe_op op_fdiv (pe_op op_add (pv 4) (pv 5)) pe_int)))
  (pss_one (ps_if (pt_val (pe_callO (ok_w_less T) (hr.mono (by decide)) pass0 (pa_cons (pv 0) (pa_cons (pv 2) (pa_cons (pe_ix ix_list (pv 1) (pv 6) (fun _ _ => rfl)) pa_nil))))) (pss_one (ps_set (i := 5) sc_w_into.nd rfl (Or.inl rfl) (pv 6))) (pss_one (ps_set (i := 4) sc_w_into.nd rfl (Or.inl rfl) (pe_op op_add (pv 6) pe_int)))))))
  (pss_one (ps_ret (pe_op op_cat (pe_op op_cat (pe_slice sl_list (pv 1) po_none (po_some (pv 4))) (pe_lst (pa_cons (pv 2) pa_nil))) (pe_slice sl_list (pv 1) (po_some (pv 4)) po_none))))))), ?_⟩
    refine ⟨_, rfl, _, _, rfl, .inl ⟨_, .inl (.inl ha), rfl⟩, ?_⟩
    refine ⟨_, _, rfl, ?_⟩
    rw [List.length_map]
    refine ⟨_, rfl, rfl, _, rfl, ?_⟩
    refine ite2 (fun _ => ?_) (fun _ => ?_)
    · refine ⟨fun k σ' H' => ∃ u, σ' = [some (.ref st), some (.ref a), some (.int t), some (.str wd), some (.int 0), some (.int k), u] ∧ k ≤ ts.length ∧ But [g] H H' ∧ SAt H' st r g row (m + (ts.length - k)), ⟨ts.length, none, rfl, Nat.le_refl _, But.refl _ _, hs.mono (by omega)⟩, fun k σ' H' p => ?_⟩
      obtain ⟨u, rfl, hk, b, hs'⟩ := p
      refine ⟨_, rfl, k, 0, rfl, rfl, _, rfl, ?_⟩
      by_cases c : 0 < k
      · refine iteT' (decide_eq_true (by omega)) ?_
        obtain ⟨x, hx⟩ := get_at (l := ts) (i := k - 1) (by omega)
        obtain ⟨x1, x2⟩ := hts hx
        have ek : ((k : Int) - 1) = ((k - 1 : Nat) : Int) := by omega
        refine ⟨_, rfl, _, rfl, _, rfl, _, rfl, k, 1, rfl, rfl, a, _, _, .int x, rfl, rfl, .inl (.inl (keep b)), by rw [ek]; exact atI_nat (get_map hx), st, r, g, row, _, t, x, rfl, hs', by omega, ht, x1, x2, fun H2 bb b2 s2 => ⟨_, rfl, ?_⟩⟩
        cases bb with
        | true =>
          refine iteT ⟨fun σ' H' => ∃ m', m' < k ∧ _, fun _ _ h => h, ?_⟩
          refine ⟨_, rfl, k, 1, rfl, rfl, k - 1, by omega, u, by rw [← ek]; rfl, by omega, b.trans b2, s2.mono (by omega)⟩
        | false =>
          refine iteF ?_
          refine rd_ins rfl rfl (fun H' Q' q' => ⟨_, rfl, q'⟩) (keep (b.trans b2)) (by omega) (fun H3 p e hp h3 => fin (k := ts.length - k + 1) (b.trans b2) (s2.mono (by omega)) (by omega) e hp h3)
      · refine iteF' (decide_eq_false (by omega)) ?_
        refine iteF ?_
        refine rd_ins rfl rfl (fun H' Q' q' => ⟨_, rfl, q'⟩) (keep b) (by omega) (fun H3 p e hp h3 => fin b hs' (by omega) e hp h3)
    · refine ⟨fun k σ' H' => ∃ (lo hi : Nat) (u : Option V), σ' = [some (.ref st), some (.ref a), some (.int t), some (.str wd), some (.int lo), some (.int hi), u] ∧ k = hi - lo ∧ lo ≤ hi ∧ hi ≤ ts.length ∧ But [g] H H' ∧ SAt H' st r g row (m + (ts.length - (hi - lo))), ⟨_, 0, ts.length, none, rfl, rfl, Nat.zero_le _, Nat.le_refl _, But.refl _ _, hs.mono (by omega)⟩, fun k σ' H' p => ?_⟩
      obtain ⟨lo, hi, u, rfl, rfl, hlh, hhl, b, hs'⟩ := p
      refine ⟨_, rfl, _, rfl, lo, hi, rfl, rfl, _, rfl, ?_⟩
      by_cases c : lo < hi
      · refine iteT' (decide_eq_true (by omega)) ?_
        refine ⟨fun σ' H' => ∃ m', m' < hi - lo ∧ _, fun _ _ h => h, ?_⟩
        have mid : ∀ (at_ : Nat), lo ≤ at_ → at_ < hi → ∃ x, ts[at_]? = some x ∧ (0 ≤ x ∧ x < row.length) ∧ t ≠ x := fun at_ h1 h2 => by
          obtain ⟨x, hx⟩ := get_at (l := ts) (i := at_) (by omega)
          exact ⟨x, hx, hts hx⟩
        refine tIf_same (decide (wd = "up")) (.int (((if wd = "up" then lo else (lo + hi) / 2) : Nat) : Int)) (fun Qt qt => ?_) (fun c Q' q' => ?_) (fun c Q' q' => ?_) ?_
        · refine ⟨_, rfl, rfl, _, rfl, ?_⟩
          have e : decide (V.str wd = V.str "up") = decide (wd = "up") := by
            by_cases h : wd = "up"
            · rw [h, decide_eq_true rfl, decide_eq_true rfl]
            · rw [decide_eq_false h, decide_eq_false fun z => h (V.str.inj z)]
          rw [e]
          exact qt
        · rw [if_pos (of_decide_eq_true c)] at q'
          exact ⟨_, rfl, q'⟩
        · rw [if_neg (of_decide_eq_false c)] at q'
          refine ⟨_, rfl, _, rfl, lo, hi, rfl, rfl, _, 2, rfl, rfl, ⟨by decide, by decide⟩, ?_⟩
          exact q'
        have h1 : lo ≤ (if wd = "up" then lo else (lo + hi) / 2) ∧ (if wd = "up" then lo else (lo + hi) / 2) < hi := by
          split <;> omega
        generalize (if wd = "up" then lo else (lo + hi) / 2) = at_ at *
        obtain ⟨x, hx, x1, x2⟩ := mid at_ h1.1 h1.2
        refine ⟨_, rfl, _, rfl, _, rfl, _, rfl, a, _, _, .int x, rfl, rfl, .inl (.inl (keep b)), atI_nat (get_map hx), st, r, g, row, _, t, x, rfl, hs', by omega, ht, x1, x2, fun H2 bb b2 s2 => ⟨_, rfl, ?_⟩⟩
        cases bb with
        | true => exact iteT ⟨_, rfl, at_ - lo, by omega, lo, at_, _, rfl, rfl, by omega, by omega, b.trans b2, s2.mono (by omega)⟩
        | false => exact iteF ⟨_, rfl, at_, 1, rfl, rfl, hi - (at_ + 1), by omega, at_ + 1, hi, _, rfl, rfl, by omega, by omega, b.trans b2, s2.mono (by omega)⟩
      · refine iteF' (decide_eq_false (by omega)) ?_
        refine rd_ins rfl rfl (fun H' Q' q' => ⟨_, rfl, q'⟩) (keep b) (by omega) (fun H3 p e hp h3 => fin b hs' (by omega) e hp h3)
/-! ### _law_inserted -/
def spInserted : Sp := fun vs H Q _ => ∃ (st r g a : Addr) (row ts : List Int) (m : Nat) (wd : Str), vs = [.ref st, .ref a, .str wd] ∧ SAt H st r g row m ∧ m < 800000 ∧ a ≠ g ∧ H a = some (.lst (ts.map V.int)) ∧ Th row ts ∧ OutL H st r g row (m + 200) (fun us => us.Perm ts) Q
theorem ok_w_inserted (T : Txt K mg CS CE CT) : Ok P w K mg base CX0 4 "_law_inserted" P_w_inserted spInserted := by
  refine T.d_w_inserted.ok0 sc_w_inserted (fun _ _ _ _ _ _ us hl => match us, hl with | [_, _, _], _ => rfl) (fun vs H Q E h => ?_) (fun f cdv A outer s H vs Q E hr h => ?_)
  · obtain ⟨_, _, _, _, _, _, _, _, rfl, _⟩ := h
    rfl
  · obtain ⟨st, r, g, a, row, ts, m, wd, rfl, hs, hm, hag, ha, hth, q⟩ := h
    have hl := hth.len hs.n12
    have keep : ∀ {H' : Hp}, But [g] H H' → H' a = some (.lst (ts.map V.int)) := fun b => b _ _ ha (fun z => hag (List.mem_singleton.mp z))
    refine ⟨_, (pss_cons (ps_set (i := 3) sc_w_inserted.nd rfl (Or.inl rfl) (pe_lst pa_nil))
  (pss_cons (ps_for PassesOwn.never rfl (pi_list (pv 1)) (pg_name (i := 4) sc_w_inserted.nd rfl (Or.inl rfl)) (pss_one (ps_set (i := 3) sc_w_inserted.nd rfl (Or.inl rfl) (pe_callO (ok_w_into T) (hr.mono (by decide)) pass0 (pa_cons (pv 0) (pa_cons (pv 3) (pa_cons (pv 4) (pa_cons (pv 2) pa_nil))))))))
  (pss_one (ps_ret (pv 3))))), ?_⟩
    refine ⟨sz (show 0 ≤ 16777216 by decide), fun F hF => ?_⟩
    have b0 : But [g] H (upd H F (.lst [])) := But.fresh hF
    refine ⟨_, rfl, a, rfl, ⟨_, .inl (.inl (keep b0))⟩, ?_⟩
    refine for_list (xs := ts.map V.int) (fun i σ' H' => ∃ (p : Addr) (us : List Int) (u : Option V), σ' = [some (.ref st), some (.ref a), some (.str wd), some (.ref p), u] ∧ But [g] H H' ∧ SAt H' st r g row (m + 13 * i) ∧ H p = none ∧ p ≠ g ∧ H' p = some (.lst (us.map V.int)) ∧ us.Perm (ts.take i))
      ⟨F, [], none, rfl, b0, hs.same (same_upd hF), hF, (hs.off hF).2.2, upd_same, List.Perm.refl _⟩ (fun i σ' H' hi p => ?_) (fun i xv σ' H' hi p => ?_) (fun σ' H' p => ?_)
    · obtain ⟨_, _, _, _, b, _⟩ := p
      exact .inl (.inl (keep b))
    · obtain ⟨p, us, u, rfl, b, hs', hp0, hpg, hp, hperm⟩ := p
      obtain ⟨t, ht, rfl⟩ := map_get hi
      have hil := get_lt ht
      have hth2 : Th row (t :: us) := by
        have h1 : Th row (ts.take (i + 1)) := hth.sub (List.take_sublist _ _)
        rw [take_more ht] at h1
        exact h1.perm (((hperm.cons t).trans (List.perm_append_comm (l₁ := [t]))))
      refine ⟨_, rfl, _, rfl, _, rfl, _, rfl, st, r, g, p, row, us, _, t, wd, rfl, hs', by omega, hpg, hp, hth2, fun H2 p2 us2 b2 hp2 h2 s2 hperm2 => ?_⟩
      refine ⟨p2, us2, _, rfl, b.trans b2, s2.mono (by omega), ?_, ?_, h2, ?_⟩
      · cases hh : H p2 with
        | none => rfl
        | some o =>
          by_cases hg : p2 = g
          · obtain ⟨log, ⟨ts', g1, _⟩, _⟩ := hs'.gg
            rw [hg, g1] at hp2
            cases hp2
          · rw [b _ _ hh (fun z => hg (List.mem_singleton.mp z))] at hp2
            cases hp2
      · exact (hs'.off hp2).2.2
      · rw [take_more ht]
        exact hperm2.trans ((hperm.cons t).trans (List.perm_append_comm (l₁ := [t])))
    · obtain ⟨p, us, u, rfl, b, hs', hp0, hpg, hp, hperm⟩ := p
      rw [List.length_map] at hs' hperm
      rw [List.take_length] at hperm
      exact ⟨_, rfl, q H' p us b hp0 hp (hs'.mono (by omega)) hperm⟩
end
end K20
/-! K20I: _law_select, _law_pass, _law_bubble, _law_gapped. -/
namespace K20
open PySem PySem.Spec PyProof.Rows L2
theorem SAt.fresh {H0 H : Hp} {st r g p : Addr} {row : List Int} {m : Nat} (h : SAt H st r g row m) (b : But [g] H0 H) (hp : H p = none) : H0 p = none := by
  cases hh : H0 p with
  | none => rfl
  | some o =>
    by_cases hg : p = g
    · obtain ⟨log, ⟨ts', g1, _⟩, _⟩ := h.gg
      rw [hg, g1] at hp
      cases hp
    · rw [b _ _ hh (fun z => hg (List.mem_singleton.mp z))] at hp
      cases hp
theorem But.get {H H' : Hp} {a g : Addr} {o : HO} (b : But [g] H H') (ha : H a = some o) (h : a ≠ g) : H' a = some o := b _ _ ha (fun z => h (List.mem_singleton.mp z))
theorem tIf_any {t : TT} {ta tb : TE} {σ : L2.St} {H : Hp} {Q : VK} (c : Bool) (M : V → Hp → Prop) (ht : ∀ Qt : Bool → Hp → Prop, Qt c H → t σ H Qt) (ha : c = true → ∀ Q : VK, (∀ v H', M v H' → Q v H') → ta σ H Q) (hb : c = false → ∀ Q : VK, (∀ v H', M v H' → Q v H') → tb σ H Q)
    (q : ∀ v H', M v H' → Q v H') : tIf t ta tb σ H Q := by
  refine ht _ ?_
  cases c with
  | true => exact iteT (ha rfl _ q)
  | false => exact iteF (hb rfl _ q)
theorem deq_str (a b : Str) : decide (V.str a = V.str b) = decide (a = b) := by
  by_cases h : a = b
  · rw [h, decide_eq_true rfl, decide_eq_true rfl]
  · rw [decide_eq_false h, decide_eq_false fun z => h (V.str.inj z)]
theorem Th.at {row ts : List Int} (h : Th row ts) {i j : Nat} {x y : Int} (hi : ts[i]? = some x) (hj : ts[j]? = some y) (ne : i ≠ j) : (0 ≤ x ∧ x < row.length) ∧ (0 ≤ y ∧ y < row.length) ∧ x ≠ y :=
  ⟨h.lt x (flat_mem hi), h.lt y (flat_mem hj), fun e => ne (nd_get h.nd hi (by rw [e]; exact hj))⟩
theorem swap_perm {ts : List Int} {i j : Nat} {x y : Int} (hi : ts[i]? = some x) (hj : ts[j]? = some y) : ((ts.set i y).set j x).Perm ts := by
  have h1 := get_lt hi
  have h2 := get_lt hj
  have e1 : ts[i] = x := by
    rw [List.getElem?_eq_getElem h1] at hi
    exact Option.some.inj hi
  have e2 : ts[j] = y := by
    rw [List.getElem?_eq_getElem h2] at hj
    exact Option.some.inj hj
  have z := List.set_set_perm h1 h2
  rw [e1, e2] at z
  exact z
section
variable {P : Program} {w : World} {K : PySem.W.Frag} {mg : Str → Option Value} {base : Heap} {CS CE CT : Addr}
/-! ### _law_select -/
def spSelect : Sp := fun vs H Q _ => ∃ (st r g a : Addr) (row ts : List Int) (m : Nat) (wd : Str), vs = [.ref st, .ref a, .str wd] ∧ SAt H st r g row m ∧ m < 700000 ∧ a ≠ g ∧ H a = some (.lst (ts.map V.int)) ∧ Th row ts ∧ OutL H st r g row (m + 200) (fun _ => True) Q
theorem ok_w_select (T : Txt K mg CS CE CT) : Ok P w K mg base CX0 3 "_law_select" P_w_select spSelect := by
  refine T.d_w_select.ok0 sc_w_select (fun _ _ _ _ _ _ us hl => match us, hl with | [_, _, _], _ => rfl) (fun vs H Q E h => ?_) (fun f cdv A outer s H vs Q E hr h => ?_)
  · obtain ⟨_, _, _, _, _, _, _, _, rfl, _⟩ := h
    rfl
  · obtain ⟨st, r, g, a, row, ts, m, wd, rfl, hs, hm, hag, ha, hth, q⟩ := h
    have hl := hth.len hs.n12
    refine ⟨_, (pss_cons (ps_par (i := 3) (j := 4) (by rfl) sc_w_select.nd rfl rfl (by decide) rfl rfl (pa_cons (pe_lst pa_nil) (pa_cons (pe_callTy call_list_of (by rfl) T.f_list (by decide +kernel) (pa_cons (pv 1) pa_nil)) pa_nil)) (by rfl))
  (pss_cons (ps_for PassesOwn.never rfl (pi_range1 (by rfl) T.f_range (pa_cons (pe_callB call_len (by rfl) T.f_len (by decide +kernel) (pa_cons (pv 1) pa_nil)) pa_nil)) (pg_name (i := 5) sc_w_select.nd rfl (Or.inl rfl)) (pss_cons (ps_set (i := 6) sc_w_select.nd rfl (Or.inl rfl) pe_int)
  (pss_cons (ps_for PassesOwn.never rfl (pi_range2 (by rfl) T.f_range (pa_cons pe_int (pa_cons (pe_callB call_len (by rfl) T.f_len (by decide +kernel) (pa_cons (pv 4) pa_nil)) pa_nil))) (pg_name (i := 7) sc_w_select.nd rfl (Or.inl rfl)) (pss_one (ps_if (pt_cmpR op_eq (pe_callO (ok_w_less T) (hr.mono (by decide)) pass0 (pa_cons (pv 0) (pa_cons (pe_ix ix_list (pv 4) (pv 7) (fun _ _ => rfl)) (pa_cons (pe_ix ix_list (pv 4) (pv 6) (fun _ _ => rfl)) pa_nil)))) (pe_cmpR op_eq (pv 2) pe_str (nomark _)) (nomark _)) (pss_one (ps_set (i := 6) sc_w_select.nd rfl (Or.inl rfl) (pv 7))) pss_nil)))
  (pss_cons (ps_set (i := 3) sc_w_select.nd rfl (Or.inl rfl) (pe_ifExp (pt_cmpR op_eq (pv 2) pe_str (nomark _)) (pe_op op_cat (pv 3) (pe_lst (pa_cons (pe_ix ix_list (pv 4) (pv 6) (fun _ _ => rfl)) pa_nil))) (pe_op op_cat (pe_lst (pa_cons (pe_ix ix_list (pv 4) (pv 6) (fun _ _ => rfl)) pa_nil)) (pv 3))))
  (pss_one (ps_set (i := 4) sc_w_select.nd rfl (Or.inl rfl) (pe_op op_cat (pe_slice sl_list (pv 4) po_none (po_some (pv 6))) (pe_slice sl_list (pv 4) (po_some (pe_op op_add (pv 6) pe_int)) po_none))))))))
  (pss_one (ps_ret (pv 3))))), ?_⟩
    refine ⟨sz (show 0 ≤ 16777216 by decide), fun F0 hF0 => ⟨_, rfl, a, _, rfl, .inl (.inl (.inl ((same_upd hF0) _ _ ha))), fun L0 hL0 => ⟨_, _, rfl, ?_⟩⟩⟩
    have s0 : Same H (upd (upd H F0 (.lst [])) L0 (.lst (ts.map V.int))) := (same_upd hF0).trans (same_upd hL0)
    have kF0 : (upd (upd H F0 (.lst [])) L0 (.lst (ts.map V.int))) F0 = some (.lst []) := (same_upd hL0) _ _ upd_same
    have kL0 : (upd (upd H F0 (.lst [])) L0 (.lst (ts.map V.int))) L0 = some (.lst (ts.map V.int)) := upd_same
    have nF0 := (hs.off hF0).2.2
    have hL0' := none_back (same_upd hF0) hL0
    have nL0 := (hs.off hL0').2.2
    generalize upd (upd H F0 (.lst [])) L0 (.lst (ts.map V.int)) = H1 at *
    refine ⟨_, rfl, _, _, rfl, .inl ⟨_, .inl (.inl (s0 _ _ ha)), rfl⟩, _, rfl, by omega, by rw [List.length_map]; omega, ?_⟩
    rw [List.length_map]
    refine for_range (n := ts.length) (fun i σ' H' => ∃ (F L : Addr) (fs ls : List Int) (u5 u6 u7 : Option V), σ' = [some (.ref st), some (.ref a), some (.str wd), some (.ref F), some (.ref L), u5, u6, u7] ∧ But [g] H H' ∧ SAt H' st r g row (m + 12 * i) ∧ H F = none ∧ F ≠ g ∧ H' F = some (.lst (fs.map V.int)) ∧ fs.length = i ∧ L ≠ g ∧ H' L = some (.lst (ls.map V.int)) ∧ Th row ls ∧ ls.length = ts.length - i)
      ⟨F0, L0, [], ts, none, none, none, rfl, But.of s0, (hs.same s0).mono (by omega), hF0, nF0, kF0, rfl, nL0, kL0, hth, rfl⟩ (fun i σ' H' hi p => ?_) (fun σ' H' p => ?_)
    · obtain ⟨F, L, fs, ls, u5, u6, u7, rfl, b, hs', hF, nF, kF, lF, nL, kL, hls, lL⟩ := p
      refine ⟨_, rfl, _, _, rfl, .inl ⟨_, .inl (.inl kL), rfl⟩, 1, _, rfl, ⟨by decide, by decide, by omega, by rw [List.length_map]; omega⟩, ?_⟩
      have e1 : (((ls.map V.int).length : Nat) : Int) - 1 = ((ls.length - 1 : Nat) : Int) := by
        rw [List.length_map]
        omega
      rw [e1, Int.toNat_natCast]
      refine for_range (n := ls.length - 1) (fun j σ' H2 => ∃ (bt : Nat) (u7 : Option V), σ' = [some (.ref st), some (.ref a), some (.str wd), some (.ref F), some (.ref L), some (.int (0 + (i : Nat))), some (.int bt), u7] ∧ bt ≤ j ∧ But [g] H' H2 ∧ SAt H2 st r g row (m + 12 * i + j))
        ⟨0, u7, rfl, Nat.le_refl _, But.refl _ _, hs'⟩ (fun j σ' H2 hj p => ?_) (fun σ' H2 p => ?_)
      · obtain ⟨bt, u7, rfl, hbt, b2, s2⟩ := p
        have ek : (1 : Int) + (j : Nat) = ((j + 1 : Nat) : Int) := by omega
        obtain ⟨x, hx⟩ := get_at (l := ls) (i := j + 1) (by omega)
        obtain ⟨y, hy⟩ := get_at (l := ls) (i := bt) (by omega)
        obtain ⟨o1, o2, o3⟩ := hls.at hx hy (by omega)
        have kL2 := b2.get kL nL
        refine ⟨_, rfl, _, rfl, _, rfl, L, _, _, .int x, rfl, rfl, .inl (.inl kL2), by rw [ek]; exact atI_nat (get_map hx), _, rfl, _, rfl, L, _, _, .int y, rfl, rfl, .inl (.inl kL2), atI_nat (get_map hy), st, r, g, row, _, x, y, rfl, s2, by omega, o1, o2, o3, fun H3 bb b3 s3 => ?_⟩
        refine ⟨_, rfl, rfl, rfl, _, rfl, ?_⟩
        refine ite2 (fun _ => ?_) (fun _ => ?_)
        · exact ⟨_, rfl, j + 1, _, by rw [ek]; rfl, by omega, b2.trans b3, s3⟩
        · exact ⟨bt, _, rfl, by omega, b2.trans b3, s3⟩
      · obtain ⟨bt, u7, rfl, hbt, b2, s2⟩ := p
        obtain ⟨y, hy⟩ := get_at (l := ls) (i := bt) (by omega)
        have kL2 := b2.get kL nL
        have kF2 := b2.get kF nF
        dsimp only [tSeq, tAsg]
        refine tIf_any (decide (wd = "least")) (fun v H3 => ∃ (p : Addr) (fs' : List Int), v = .ref p ∧ Same H2 H3 ∧ H2 p = none ∧ H3 p = some (.lst (fs'.map V.int)) ∧ fs'.length = i + 1) (fun Qt qt => ?_) (fun c Q' q' => ?_) (fun c Q' q' => ?_) (fun v H3 z => ?_)
        · refine ⟨_, rfl, rfl, _, rfl, ?_⟩
          rw [deq_str]
          exact qt
        · refine ⟨_, rfl, _, rfl, _, rfl, L, _, _, .int y, rfl, rfl, .inl (.inl kL2), atI_nat (get_map hy), sz (show 1 ≤ 16777216 by decide), fun p1 h1 => ?_⟩
          refine ⟨F, p1, _, _, rfl, rfl, (same_upd h1) _ _ kF2, upd_same, sz (by rw [List.length_map]; simp only [List.length_singleton]; omega), fun p2 h2 => ?_⟩
          refine q' _ _ ⟨p2, fs ++ [y], rfl, (same_upd h1).trans (same_upd h2), none_back (same_upd h1) h2, ?_, by rw [List.length_append, lF]; rfl⟩
          rw [upd_same, List.map_append]
          rfl
        · refine ⟨_, rfl, _, rfl, L, _, _, .int y, rfl, rfl, .inl (.inl kL2), atI_nat (get_map hy), sz (show 1 ≤ 16777216 by decide), fun p1 h1 => ?_⟩
          refine ⟨_, rfl, p1, F, _, _, rfl, rfl, upd_same, (same_upd h1) _ _ kF2, sz (by rw [List.length_map]; simp only [List.length_singleton]; omega), fun p2 h2 => ?_⟩
          refine q' _ _ ⟨p2, y :: fs, rfl, (same_upd h1).trans (same_upd h2), none_back (same_upd h1) h2, ?_, by rw [List.length_cons, lF]⟩
          rw [upd_same]
          rfl
        · obtain ⟨F2, fs2, rfl, e3, hF2, kF3, lF3⟩ := z
          have kL3 := e3 _ _ kL2
          have s3 := s2.same e3
          have eb : ((bt : Int) + 1) = ((bt + 1 : Nat) : Int) := by omega
          refine ⟨_, rfl, _, rfl, bt, rfl, L, _, rfl, .inl (.inl kL3), fun p1 h1 => ?_⟩
          rw [cutV_hd]
          refine ⟨_, rfl, _, rfl, bt, 1, rfl, rfl, _, rfl, L, _, rfl, .inl (.inl ((same_upd h1) _ _ kL3)), fun p2 h2 => ?_⟩
          rw [eb, cutV_tl]
          refine ⟨p1, p2, _, _, rfl, rfl, (same_upd h2) _ _ upd_same, upd_same, sz (by simp; omega), fun p3 h3 => ?_⟩
          have e4 : Same H3 (upd (upd (upd H3 p1 (.lst ((ls.map V.int).take bt))) p2 (.lst ((ls.map V.int).drop (bt + 1)))) p3 (.lst ((ls.map V.int).take bt ++ (ls.map V.int).drop (bt + 1)))) := ((same_upd h1).trans (same_upd h2)).trans (same_upd h3)
          have hp3 := none_back ((same_upd h1).trans (same_upd h2)) h3
          have h2' : Same H' H' := Same.refl _
          refine ⟨F2, p3, fs2, ls.eraseIdx bt, _, _, _, rfl, (b.trans b2).trans (But.of (e3.trans e4)), (s3.same e4).mono (by omega), ?_, (s2.off hF2).2.2, e4 _ _ kF3, lF3, (s3.off hp3).2.2, ?_, hls.sub (List.eraseIdx_sublist _ _), ?_⟩
          · exact s2.fresh (b.trans b2) hF2
          · rw [upd_same, List.eraseIdx_eq_take_drop_succ, List.map_append, List.map_take, List.map_drop]
          · rw [List.length_eraseIdx]
            split <;> omega
    · obtain ⟨F, L, fs, ls, u5, u6, u7, rfl, b, hs', hF, nF, kF, lF, nL, kL, hls, lL⟩ := p
      exact ⟨_, rfl, q H' F fs b hF kF (hs'.mono (by omega)) trivial⟩
/-! ### _law_pass -/
def spPass : Sp := fun vs H Q _ => ∃ (st r g a c : Addr) (row ts ks : List Int) (m : Nat), vs = [.ref st, .ref a, .ref c] ∧ SAt H st r g row m ∧ m < 800000 ∧ Off a st r g ∧ H a = some (.lst (ts.map V.int)) ∧ Th row ts ∧ c ≠ g ∧ c ≠ a ∧ H c = some (.lst (ks.map V.int)) ∧ ks.length ≤ 12 ∧ (∀ k ∈ ks, 0 ≤ k ∧ k + 1 < ts.length) ∧
  ∀ H' p (hs ts' : List Int), But [g, a] H H' → H p = none → H' p = some (.lst (hs.map V.int)) → (∀ k ∈ hs, k ∈ ks) → H' a = some (.lst (ts'.map V.int)) → ts'.Perm ts → SAt H' st r g row (m + 12) → Q (.ref p) H'
theorem ok_w_pass (T : Txt K mg CS CE CT) : Ok P w K mg base CX0 3 "_law_pass" P_w_pass spPass := by
  refine T.d_w_pass.ok0 sc_w_pass (fun _ _ _ _ _ _ us hl => match us, hl with | [_, _, _], _ => rfl) (fun vs H Q E h => ?_) (fun f cdv A outer s H vs Q E hr h => ?_)
  · obtain ⟨_, _, _, _, _, _, _, _, _, rfl, _⟩ := h
    rfl
  · obtain ⟨st, r, g, a, c, row, ts, ks, m, rfl, hs, hm, ho, ha, hth, hcg, hca, hc, hkl, hks, q⟩ := h
    refine ⟨_, (pss_cons (ps_set (i := 3) sc_w_pass.nd rfl (Or.inl rfl) (pe_lst pa_nil))
  (pss_cons (ps_for PassesOwn.never rfl (pi_list (pv 2)) (pg_name (i := 4) sc_w_pass.nd rfl (Or.inl rfl)) (pss_one (ps_if (pt_val (pe_callO (ok_w_less T) (hr.mono (by decide)) pass0 (pa_cons (pv 0) (pa_cons (pe_ix ix_list (pv 1) (pe_op op_add (pv 4) pe_int) (fun _ _ => rfl)) (pa_cons (pe_ix ix_list (pv 1) (pv 4) (fun _ _ => rfl)) pa_nil))))) (pss_cons (ps_set (i := 5) sc_w_pass.nd rfl (Or.inl rfl) (pe_ix ix_list (pv 1) (pv 4) (fun _ _ => rfl)))
  (pss_cons (ps_asg (pe_ix ix_list (pv 1) (pe_op op_add (pv 4) pe_int) (fun _ _ => rfl)) (pg_sub (pv 1) (pv 4) set_list))
  (pss_cons (ps_asg (pv 5) (pg_sub (pv 1) (pe_op op_add (pv 4) pe_int) set_list))
  (pss_one (ps_expr (pe_bm PySem.F.plainAttrs_list PySem.F.slot_list_append PySem.F.type_list_append mt_append (pv 3) (pa_cons (pv 4) pa_nil))))))) pss_nil)))
  (pss_one (ps_ret (pv 3))))), ?_⟩
    refine ⟨sz (show 0 ≤ 16777216 by decide), fun F hF => ?_⟩
    have oF := hs.off hF
    have nFa : F ≠ a := fun z => by
      rw [z, ha] at hF
      cases hF
    have nFc : F ≠ c := fun z => by
      rw [z, hc] at hF
      cases hF
    refine ⟨_, rfl, c, rfl, ⟨_, .inl (.inl ((same_upd hF) _ _ hc))⟩, ?_⟩
    refine for_list (xs := ks.map V.int) (fun i σ' H' => ∃ (us hs : List Int) (u4 u5 : Option V), σ' = [some (.ref st), some (.ref a), some (.ref c), some (.ref F), u4, u5] ∧ But [g, a, F] H H' ∧ But [g, a] H H' ∧ SAt H' st r g row (m + i) ∧ H' a = some (.lst (us.map V.int)) ∧ us.Perm ts ∧ H' c = some (.lst (ks.map V.int)) ∧ H' F = some (.lst (hs.map V.int)) ∧ hs.length ≤ i ∧ ∀ k ∈ hs, k ∈ ks)
      ⟨ts, [], none, none, rfl, But.fresh hF, But.fresh hF, hs.same (same_upd hF), (same_upd hF) _ _ ha, List.Perm.refl _, (same_upd hF) _ _ hc, upd_same, Nat.le_refl _, fun k hk => (nomatch hk)⟩ (fun i σ' H' hi p => ?_) (fun i xv σ' H' hi p => ?_) (fun σ' H' p => ?_)
    · obtain ⟨_, _, _, _, _, _, _, _, _, _, p6, _⟩ := p
      exact .inl (.inl p6)
    · obtain ⟨us, hs1, u4, u5, rfl, b1, b2, s1, k1, k2, k3, k4, k5, k6⟩ := p
      obtain ⟨k, hk, rfl⟩ := map_get hi
      have hil := get_lt hk
      have hkm := flat_mem hk
      obtain ⟨kk1, kk2⟩ := hks k hkm
      have hlen := k2.length_eq
      have hth' := hth.perm k2
      obtain ⟨kn, rfl⟩ : ∃ kn : Nat, k = (kn : Int) := ⟨k.toNat, by omega⟩
      have ek : ((kn : Int) + 1) = ((kn + 1 : Nat) : Int) := by omega
      obtain ⟨x, hx⟩ := get_at (l := us) (i := kn + 1) (by omega)
      obtain ⟨y, hy⟩ := get_at (l := us) (i := kn) (by omega)
      obtain ⟨o1, o2, o3⟩ := hth'.at hx hy (by omega)
      refine ⟨_, rfl, _, rfl, _, rfl, kn, 1, rfl, rfl, a, _, _, .int x, rfl, rfl, .inl (.inl k1), by rw [ek]; exact atI_nat (get_map hx), _, rfl, _, rfl, a, _, _, .int y, rfl, rfl, .inl (.inl k1), atI_nat (get_map hy), st, r, g, row, _, x, y, rfl, s1, by omega, o1, o2, o3, fun H2 bb b3 s2 => ⟨_, rfl, ?_⟩⟩
      have j1 := b3.get k1 ho.2.2
      have j3 := b3.get k3 hcg
      have j4 := b3.get k4 oF.2.2
      have b3' : But [g, a, F] H' H2 := b3.mono (by simp)
      have b3'' : But [g, a] H' H2 := b3.mono (by simp)
      refine ite2 (fun _ => ?_) (fun _ => ?_)
      · refine ⟨_, rfl, _, rfl, a, _, _, .int y, rfl, rfl, .inl (.inl j1), atI_nat (get_map hy), ?_⟩
        refine ⟨_, rfl, _, rfl, kn, 1, rfl, rfl, a, _, _, .int x, rfl, rfl, .inl (.inl j1), by rw [ek]; exact atI_nat (get_map hx), ?_⟩
        refine ⟨_, rfl, _, rfl, a, _, kn, kn, rfl, rfl, j1, ixN_int (by omega) (by rw [List.length_map]; have := get_lt hy; omega), ?_⟩
        refine ⟨_, rfl, _, rfl, _, rfl, kn, 1, rfl, rfl, a, _, _, kn + 1, rfl, rfl, upd_same, by rw [ek]; exact ixN_int (by omega) (by rw [List.length_set, List.length_map]; have := get_lt hx; omega), ?_⟩
        have e1 : (((us.map V.int).set kn (V.int x)).set (kn + 1) (V.int y)) = ((us.set kn x).set (kn + 1) y).map V.int := by
          rw [List.map_set, List.map_set]
        rw [e1]
        have s3 : SAt (upd (upd H2 a (.lst ((us.map V.int).set kn (V.int x)))) a (.lst (((us.set kn x).set (kn + 1) y).map V.int))) st r g row (m + i + 1) := (s2.put j1 ho).put upd_same ho
        have b4 : But [g, a, F] H2 (upd (upd H2 a (.lst ((us.map V.int).set kn (V.int x)))) a (.lst (((us.set kn x).set (kn + 1) y).map V.int))) := (But.at (by simp)).trans (But.at (by simp))
        have b5 : But [g, a] H2 (upd (upd H2 a (.lst ((us.map V.int).set kn (V.int x)))) a (.lst (((us.set kn x).set (kn + 1) y).map V.int))) := (But.at (by simp)).trans (But.at (by simp))
        have i1 : (upd (upd H2 a (.lst ((us.map V.int).set kn (V.int x)))) a (.lst (((us.set kn x).set (kn + 1) y).map V.int))) a = some (.lst (((us.set kn x).set (kn + 1) y).map V.int)) := upd_same
        have i3 : (upd (upd H2 a (.lst ((us.map V.int).set kn (V.int x)))) a (.lst (((us.set kn x).set (kn + 1) y).map V.int))) c = some (.lst (ks.map V.int)) := by
          rw [upd_ne hca, upd_ne hca]
          exact j3
        have i4 : (upd (upd H2 a (.lst ((us.map V.int).set kn (V.int x)))) a (.lst (((us.set kn x).set (kn + 1) y).map V.int))) F = some (.lst (hs1.map V.int)) := by
          rw [upd_ne nFa, upd_ne nFa]
          exact j4
        generalize upd (upd H2 a (.lst ((us.map V.int).set kn (V.int x)))) a (.lst (((us.set kn x).set (kn + 1) y).map V.int)) = H3 at *
        refine ⟨_, rfl, .inl ⟨rfl, _, .inl (.inl i4)⟩, _, rfl, F, _, _, rfl, rfl, i4, sz' (by rw [List.length_map]; omega), ?_⟩
        refine ⟨(us.set kn x).set (kn + 1) y, hs1 ++ [(kn : Int)], _, _, rfl, ((b1.trans b3').trans b4).trans (But.at (by simp)), ((b2.trans b3'').trans b5).late hF, s3.put i4 oF, ?_, (swap_perm hy hx).trans k2, ?_, ?_, ?_, ?_⟩
        · rw [upd_ne nFa.symm]
          exact i1
        · rw [upd_ne nFc.symm]
          exact i3
        · rw [upd_same, List.map_append]
          rfl
        · rw [List.length_append, List.length_singleton]
          omega
        · intro k' hk'
          rcases List.mem_append.mp hk' with h | h
          · exact k6 k' h
          · rw [List.mem_singleton.mp h]
            exact hkm
      · exact ⟨us, hs1, _, _, rfl, b1.trans b3', b2.trans b3'', s2, j1, k2, j3, j4, by omega, k6⟩
    · obtain ⟨us, hs1, u4, u5, rfl, b1, b2, s1, k1, k2, k3, k4, k5, k6⟩ := p
      rw [List.length_map] at s1
      exact ⟨_, rfl, q H' F hs1 us b2 hF k4 k6 k1 k2 (s1.mono (by omega))⟩
end
end K20
/-! K20J: _law_bubble, _law_gapped, _law_merged. -/
namespace K20
open PySem PySem.Spec PyProof.Rows L2
theorem eqv_nil (hs : List Int) : PyData.eqv (.list (hs.map PyData.int)) (.list []) = decide (hs = []) := by
  cases hs with
  | nil => rfl
  | cons x r => rfl
theorem rgV_ints (a b : Int) : rgV a b = ((List.range (b - a).toNat).map fun i : Nat => a + (i : Nat)).map V.int := by
  unfold rgV
  rw [List.map_map]
  rfl
section
variable {P : Program} {w : World} {K : PySem.W.Frag} {mg : Str → Option Value} {base : Heap} {CS CE CT : Addr}
/-! ### _law_bubble -/
theorem ok_w_bubble (T : Txt K mg CS CE CT) : Ok P w K mg base CX0 4 "_law_bubble" P_w_bubble spSelect := by
  refine T.d_w_bubble.ok0 sc_w_bubble (fun _ _ _ _ _ _ us hl => match us, hl with | [_, _, _], _ => rfl) (fun vs H Q E h => ?_) (fun f cdv A outer s H vs Q E hr h => ?_)
  · obtain ⟨_, _, _, _, _, _, _, _, rfl, _⟩ := h
    rfl
  · obtain ⟨st, r, g, a, row, ts, m, wd, rfl, hs, hm, hag, ha, hth, q⟩ := h
    have hl := hth.len hs.n12
    refine ⟨_, (pss_cons (ps_asg (pe_tup (pa_cons (pe_callTy call_list_of (by rfl) T.f_list (by decide +kernel) (pa_cons (pv 1) pa_nil)) (pa_cons pe_int (pa_cons (pe_op op_sub (pe_callB call_len (by rfl) T.f_len (by decide +kernel) (pa_cons (pv 1) pa_nil)) pe_int) (pa_cons pe_bl pa_nil))))) (pg_tup rfl (pgs_cons (pg_name (i := 3) sc_w_bubble.nd rfl (Or.inl rfl)) (pgs_cons (pg_name (i := 4) sc_w_bubble.nd rfl (Or.inl rfl)) (pgs_cons (pg_name (i := 5) sc_w_bubble.nd rfl (Or.inl rfl)) (pgs_cons (pg_name (i := 6) sc_w_bubble.nd rfl (Or.inl rfl)) pgs_nil))))))
  (pss_cons (ps_while PassesOwn.never (pt_cmpR op_lt (pv 4) (pv 5) (nomark _)) (pss_cons (ps_set (i := 7) sc_w_bubble.nd rfl (Or.inl rfl) (pe_listRg rfl (by rfl) T.f_list (prg_2 (by rfl) T.f_range (pv 4) (pv 5))))
  (pss_cons (ps_set (i := 8) sc_w_bubble.nd rfl (Or.inl rfl) (pe_callO (ok_w_pass T) (hr.mono (by decide)) pass0 (pa_cons (pv 0) (pa_cons (pv 3) (pa_cons (pe_ifExp (pt_val (pv 6)) (pv 7) (pe_revL (pv 7))) pa_nil)))))
  (Evl.pss_cut (ps_if (PW.pt (pw_and (pt_cmpR (op_eqD hr.units) (pv 8) (pe_lst pa_nil) (nomark _)) (pw_and1 (pt_cmpR op_ne (pv 2) pe_str (nomark _))))) (pss_one (ps_ret (pv 3))) pss_nil)
  (pss_one (ps_if (pt_cmpR op_eq (pv 2) pe_str (nomark _)) (pss_one (ps_par3 (i := 4) (j := 5) (l := 6) (by rfl) sc_w_bubble.nd rfl rfl rfl (by decide) (by decide) (by decide) rfl rfl rfl (pa_cons (pe_ifExp (pt_val (pv 6)) (pv 4) (pe_op op_add (pv 4) pe_int)) (pa_cons (pe_ifExp (pt_val (pv 6)) (pe_op op_sub (pv 5) pe_int) (pv 5)) (pa_cons (pe_not (pv 6)) pa_nil))) (by rfl))) (pss_one (ps_set (i := 5) sc_w_bubble.nd rfl (Or.inl rfl) (pe_ifExp (pt_cmpR op_eq (pv 2) pe_str (nomark _)) (pe_ix ix_list (pv 8) (pe_un un_neg pe_int) (fun _ _ => rfl)) (pe_op op_sub (pv 5) pe_int))))))))))
  (pss_one (ps_ret (pv 3))))), ?_⟩
    refine ⟨_, rfl, a, _, rfl, .inl (.inl (.inl ha)), fun F hF => ⟨_, rfl, _, _, rfl, .inl ⟨_, .inl (.inl ((same_upd hF) _ _ ha)), rfl⟩, _, 1, rfl, rfl, sz (show 4 ≤ 16777216 by decide), fun t ht => ?_⟩⟩
    refine ⟨_, _, rfl, .inl (.inl upd_same), rfl, _, _, rfl, _, _, rfl, _, _, rfl, _, _, rfl, rfl, ?_⟩
    rw [List.length_map]
    have oF := hs.off hF
    have s0 : Same H (upd (upd H F (.lst (ts.map V.int))) t (.tup [.ref F, .int 0, .int ((ts.length : Nat) - 1), .bl true])) := (same_upd hF).trans (same_upd ht)
    have kF0 : (upd (upd H F (.lst (ts.map V.int))) t (.tup [.ref F, .int 0, .int ((ts.length : Nat) - 1), .bl true])) F = some (.lst (ts.map V.int)) := (same_upd ht) _ _ upd_same
    show tSeq _ _ _ _ (upd (upd H F (.lst (ts.map V.int))) t (.tup [.ref F, .int 0, .int ((ts.length : Nat) - 1), .bl true]))
    generalize upd (upd H F (.lst (ts.map V.int))) t (.tup [.ref F, .int 0, .int ((ts.length : Nat) - 1), .bl true]) = H1 at *
    refine ⟨fun k σ' H' => ∃ (lo hi : Int) (up : Bool) (us : List Int) (u7 u8 : Option V), σ' = [some (.ref st), some (.ref a), some (.str wd), some (.ref F), some (.int lo), some (.int hi), some (.bl up), u7, u8] ∧ k = (hi - lo).toNat ∧ 0 ≤ lo ∧ hi < ts.length ∧ But [g] H H' ∧ SAt H' st r g row (m + 12 * (12 - (hi - lo).toNat)) ∧ H' F = some (.lst (us.map V.int)) ∧ us.Perm ts,
      ⟨_, 0, (ts.length : Nat) - 1, true, ts, none, none, rfl, rfl, by omega, by omega, But.of s0, (hs.same s0).mono (by omega), kF0, List.Perm.refl _⟩, fun k σ' H' p => ?_⟩
    obtain ⟨lo, hi, up, us, u7, u8, rfl, rfl, h1, h2, b, s1, kF, hperm⟩ := p
    have hlen := hperm.length_eq
    refine ⟨_, rfl, _, rfl, lo, hi, rfl, rfl, _, rfl, ?_⟩
    by_cases c : lo < hi
    · refine iteT' (decide_eq_true c) ?_
      refine ⟨fun σ' H' => ∃ m', m' < (hi - lo).toNat ∧ _, fun _ _ h => h, ?_⟩
      refine ⟨_, rfl, _, rfl, lo, hi, rfl, rfl, RgOk.of_le (by omega) (by omega) (by omega) (by omega), fun S hS => ?_⟩
      refine ⟨_, rfl, _, rfl, ?_⟩
      have hmemr : ∀ k ∈ (List.range (hi - lo).toNat).map (fun i : Nat => lo + (i : Nat)), lo ≤ k ∧ k < hi := fun k hk => by
        obtain ⟨i, hi', rfl⟩ := List.mem_map.mp hk
        have := List.mem_range.mp hi'
        omega
      refine tIf_any up (fun v H3 => ∃ (cc : Addr) (ks : List Int), v = .ref cc ∧ Same H' H3 ∧ H' cc = none ∧ H3 cc = some (.lst (ks.map V.int)) ∧ ks.length ≤ 12 ∧ ∀ k ∈ ks, lo ≤ k ∧ k < hi) (fun Qt qt => ⟨_, rfl, _, rfl, qt⟩) (fun c Q' q' => ?_) (fun c Q' q' => ?_) (fun v H3 z => ?_)
      · refine ⟨_, rfl, q' _ _ ⟨S, _, rfl, same_upd hS, hS, ?_, ?_, hmemr⟩⟩
        · rw [upd_same, rgV_ints]
        · rw [List.length_map, List.length_range]
          omega
      · refine ⟨_, rfl, S, _, rfl, .inl (.inl upd_same), fun p hp => q' _ _ ⟨p, ((List.range (hi - lo).toNat).map (fun i : Nat => lo + (i : Nat))).reverse, rfl, (same_upd hS).trans (same_upd hp), none_back (same_upd hS) hp, ?_, ?_, fun k hk => hmemr k (List.mem_reverse.mp hk)⟩⟩
        · rw [upd_same, rgV_ints, List.map_reverse]
        · rw [List.length_reverse, List.length_map, List.length_range]
          omega
      obtain ⟨cc, ks, rfl, e3, hcc, kcc, lks, hks⟩ := z
      have kF3 := e3 _ _ kF
      have nc : cc ≠ F := fun z => by
        rw [z, kF] at hcc
        cases hcc
      refine ⟨st, r, g, F, cc, row, us, ks, _, rfl, s1.same e3, by omega, oF, kF3, hth.perm hperm, (s1.off hcc).2.2, nc, kcc, lks, fun k hk => by have := hks k hk; omega, fun H4 p hs4 us4 b4 hp4 k4 hin kF4 perm4 s4 => ?_⟩
      have b5 : But [g] H H4 := fun b' o z hb' => by
        by_cases hbF : b' = F
        · rw [hbF, hF] at z
          cases z
        · refine b4 _ _ (e3 _ _ (b _ _ z hb')) (fun z2 => ?_)
          rcases List.mem_cons.mp z2 with z2 | z2
          · exact hb' (by rw [z2]; exact List.mem_cons_self)
          · exact hbF (List.mem_singleton.mp z2)
      refine ⟨fun σ' H5 => ∃ S7, σ' = [some (.ref st), some (.ref a), some (.str wd), some (.ref F), some (.int lo), some (.int hi), some (.bl up), S7, some (.ref p)] ∧ Same H4 H5 ∧ (hs4 ≠ [] ∨ wd = "plain"), ?_, fun σ' H5 z => ?_⟩
      · refine ⟨_, rfl, sz (show 0 ≤ 16777216 by decide), fun e he => ?_⟩
        refine ⟨.list (hs4.map PyData.int), .list [], .lst (.inl (.inl ((same_upd he) _ _ k4))) (dp_ints _), .lst (.inl (.inl upd_same)) .nil, ints_shaped _, rfl, _, rfl, ?_⟩
        rw [eqv_nil]
        by_cases ch : hs4 = []
        · refine iteT' (decide_eq_true ch) ?_
          refine ⟨_, rfl, rfl, _, rfl, ?_⟩
          rw [deq_str]
          by_cases cw : wd = "plain"
          · refine iteF' (by rw [decide_eq_true cw]; rfl) ?_
            exact ⟨_, rfl, same_upd he, .inr cw⟩
          · refine iteT' (by rw [decide_eq_false cw]; rfl) ?_
            exact ⟨_, rfl, q _ F us4 (b5.trans (But.of (same_upd he))) hF ((same_upd he) _ _ kF4) ((s4.same (same_upd he)).mono (by omega)) trivial⟩
        · refine iteF' (decide_eq_false ch) ?_
          refine iteF ?_
          exact ⟨_, rfl, same_upd he, .inl ch⟩
      · obtain ⟨S7, rfl, e5, hne⟩ := z
        have nxt : ∀ (lo' hi' : Int) (up' : Bool), 0 ≤ lo' → hi' < ts.length → (hi' - lo').toNat < (hi - lo).toNat →
            ∃ m', m' < (hi - lo).toNat ∧ ∃ (lo hi : Int) (up : Bool) (us : List Int) (u7 u8 : Option V), ([some (.ref st), some (.ref a), some (.str wd), some (.ref F), some (.int lo'), some (.int hi'), some (.bl up'), S7, some (.ref p)] : L2.St) = [some (.ref st), some (.ref a), some (.str wd), some (.ref F), some (.int lo), some (.int hi), some (.bl up), u7, u8] ∧ m' = (hi - lo).toNat ∧ 0 ≤ lo ∧ hi < ts.length ∧ But [g] H H5 ∧ SAt H5 st r g row (m + 12 * (12 - (hi - lo).toNat)) ∧ H5 F = some (.lst (us.map V.int)) ∧ us.Perm ts :=
          fun lo' hi' up' a1 a2 a3 => ⟨_, a3, lo', hi', up', us4, _, _, rfl, rfl, a1, a2, b5.trans (But.of e5), (s4.same e5).mono (by omega), e5 _ _ kF4, perm4.trans hperm⟩
        refine ⟨_, rfl, rfl, _, rfl, ?_⟩
        refine ite2 (fun _ => ?_) (fun _ => ?_)
        · refine tIf_same up (.int (if up then lo else lo + 1)) (fun Qt qt => ⟨_, rfl, _, rfl, qt⟩) (fun c Q' q' => ?_) (fun c Q' q' => ?_) ?_
          · subst c
            exact ⟨_, rfl, q'⟩
          · subst c
            exact ⟨_, rfl, _, _, rfl, rfl, q'⟩
          refine tIf_same up (.int (if up then hi - 1 else hi)) (fun Qt qt => ⟨_, rfl, _, rfl, qt⟩) (fun c Q' q' => ?_) (fun c Q' q' => ?_) ?_
          · subst c
            exact ⟨_, rfl, _, _, rfl, rfl, q'⟩
          · subst c
            exact ⟨_, rfl, q'⟩
          refine ⟨_, rfl, _, rfl, _, _, _, rfl, ?_⟩
          refine nxt _ _ (!up) ?_ ?_ ?_ <;> cases up <;> simp <;> omega
        · have hk : wd = "last" → ∃ k, hs4.getLast? = some k ∧ lo ≤ k ∧ k < hi := fun ew => by
            have hn : hs4 ≠ [] := by
              rcases hne with h | h
              · exact h
              · rw [ew] at h
                exact absurd h (by decide)
            cases hh : hs4.getLast? with
            | none => exact absurd (List.getLast?_eq_none_iff.mp hh) hn
            | some k => exact ⟨k, rfl, hks k (hin k (List.mem_of_getLast? hh))⟩
          refine tIf_any (decide (wd = "last")) (fun v H6 => H6 = H5 ∧ ∃ k : Int, v = .int k ∧ lo ≤ k ∧ k < hi) (fun Qt qt => ?_) (fun c Q' q' => ?_) (fun c Q' q' => ?_) (fun v H6 z => ?_)
          · refine ⟨_, rfl, rfl, _, rfl, ?_⟩
            rw [deq_str]
            exact qt
          · obtain ⟨k, h3, h4, h5⟩ := hk (of_decide_eq_true c)
            exact ⟨_, rfl, 1, rfl, p, _, _, .int k, rfl, rfl, .inl (.inl (e5 _ _ k4)), atI_last (by rw [List.getLast?_map, h3]; rfl), q' _ _ ⟨rfl, k, rfl, h4, h5⟩⟩
          · exact ⟨_, rfl, hi, 1, rfl, rfl, q' _ _ ⟨rfl, hi - 1, rfl, by omega, by omega⟩⟩
          · obtain ⟨rfl, k, rfl, h4, h5⟩ := z
            exact nxt lo k up h1 (by omega) (by omega)
    · refine iteF' (decide_eq_false c) ?_
      exact ⟨_, rfl, q H' F us b hF kF (s1.mono (by omega)) trivial⟩
/-! ### _law_gapped -/
theorem set_back {us : List Int} {i j : Nat} {t y : Int} (hij : i ≠ j) (hj : us[j]? = some y) : ((us.set i y).set j t) = (((us.set i t).set i y).set j t) := by
  rw [List.set_set]
theorem hole_move {us ts : List Int} {i j : Nat} {t y : Int} (hi : i < us.length) (hij : i ≠ j) (hj : us[j]? = some y) (p : (us.set i t).Perm ts) : ((us.set i y).set j t).Perm ts := by
  rw [set_back hij hj]
  have h1 : (us.set i t)[i]? = some t := List.getElem?_set_self hi
  have h2 : (us.set i t)[j]? = some y := by
    rw [List.getElem?_set_ne hij]
    exact hj
  exact (swap_perm h1 h2).trans p
def spGapped : Sp := fun vs H Q _ => ∃ (st r g a c : Addr) (row ts : List Int) (m : Nat), vs = [.ref st, .ref a, .ref c] ∧ SAt H st r g row m ∧ m < 700000 ∧ a ≠ g ∧ H a = some (.lst (ts.map V.int)) ∧ Th row ts ∧ GapsAt H c ∧ OutL H st r g row (m + 1000) (fun _ => True) Q
theorem ok_w_gapped (T : Txt K mg CS CE CT) : Ok P w K mg base CX0 3 "_law_gapped" P_w_gapped spGapped := by
  refine T.d_w_gapped.ok0 sc_w_gapped (fun _ _ _ _ _ _ us hl => match us, hl with | [_, _, _], _ => rfl) (fun vs H Q E h => ?_) (fun f cdv A outer s H vs Q E hr h => ?_)
  · obtain ⟨_, _, _, _, _, _, _, _, rfl, _⟩ := h
    rfl
  · obtain ⟨st, r, g, a, cg, row, ts, m, rfl, hs, hm, hag, ha, hth, ⟨gs, hg1, hg2, hg3⟩, q⟩ := h
    have hl := hth.len hs.n12
    have hcg : cg ≠ g := fun z => by
      obtain ⟨log, ⟨ts', g1, _⟩, _⟩ := hs.gg
      rw [z, g1] at hg1
      cases hg1
    refine ⟨_, (pss_cons (ps_set (i := 3) sc_w_gapped.nd rfl (Or.inl rfl) (pe_callTy call_list_of (by rfl) T.f_list (by decide +kernel) (pa_cons (pv 1) pa_nil)))
  (pss_cons (ps_for PassesOwn.never rfl (pi_tup (pv 2)) (pg_name (i := 4) sc_w_gapped.nd rfl (Or.inl rfl)) (pss_one (ps_for PassesOwn.never rfl (pi_range2 (by rfl) T.f_range (pa_cons (pv 4) (pa_cons (pe_callB call_len (by rfl) T.f_len (by decide +kernel) (pa_cons (pv 3) pa_nil)) pa_nil))) (pg_name (i := 5) sc_w_gapped.nd rfl (Or.inl rfl)) (pss_cons (ps_set (i := 6) sc_w_gapped.nd rfl (Or.inl rfl) (pv 5))
  (pss_cons (ps_set (i := 7) sc_w_gapped.nd rfl (Or.inl rfl) (pe_ix ix_list (pv 3) (pv 5) (fun _ _ => rfl)))
  (pss_cons (ps_while PassesOwn.never (PW.pt (pw_and (pt_cmpR op_ge (pe_op op_sub (pv 6) (pv 4)) pe_int (nomark _)) (pw_and1 (pt_val (pe_callO (ok_w_less T) (hr.mono (by decide)) pass0 (pa_cons (pv 0) (pa_cons (pv 7) (pa_cons (pe_ix ix_list (pv 3) (pe_op op_sub (pv 6) (pv 4)) (fun _ _ => rfl)) pa_nil)))))))) (pss_cons (ps_asg (pe_ix ix_list (pv 3) (pe_op op_sub (pv 6) (pv 4)) (fun _ _ => rfl)) (pg_sub (pv 3) (pv 6) set_list))
  (pss_one (ps_set (i := 6) sc_w_gapped.nd rfl (Or.inl rfl) (pe_op op_sub (pv 6) (pv 4))))))
  (pss_one (ps_asg (pv 7) (pg_sub (pv 3) (pv 6) set_list)))))))))
  (pss_one (ps_ret (pv 3))))), ?_⟩
    refine ⟨_, rfl, a, _, rfl, .inl (.inl (.inl ha)), fun F hF => ?_⟩
    have oF := hs.off hF
    have b0 : But [g] H (upd H F (.lst (ts.map V.int))) := But.fresh hF
    refine ⟨_, rfl, cg, rfl, ⟨_, .inl (.inl (b0.get hg1 hcg))⟩, ?_⟩
    refine for_tup (xs := gs.map V.int) (fun i σ' H' => ∃ (us : List Int) (u4 u5 u6 u7 : Option V), σ' = [some (.ref st), some (.ref a), some (.ref cg), some (.ref F), u4, u5, u6, u7] ∧ But [g] H H' ∧ SAt H' st r g row (m + 200 * i) ∧ H' F = some (.lst (us.map V.int)) ∧ us.Perm ts)
      ⟨ts, none, none, none, none, rfl, b0, hs.same (same_upd hF), upd_same, List.Perm.refl _⟩ (fun i σ' H' hi p => ?_) (fun i xv σ' H' hi p => ?_) (fun σ' H' p => ?_)
    · obtain ⟨_, _, _, _, _, _, b, _⟩ := p
      exact .inl (.inl (b.get hg1 hcg))
    · obtain ⟨us, u4, u5, u6, u7, rfl, b, s1, kF, hperm⟩ := p
      obtain ⟨gap, hgap, rfl⟩ := map_get hi
      have hil := get_lt hgap
      obtain ⟨gp1, gp2⟩ := hg3 gap (flat_mem hgap)
      obtain ⟨gn, rfl⟩ : ∃ gn : Nat, gap = (gn : Int) := ⟨gap.toNat, by omega⟩
      have hlen := hperm.length_eq
      refine ⟨_, rfl, _, rfl, _, _, rfl, .inl ⟨_, .inl (.inl kF), rfl⟩, gn, _, rfl, ⟨by omega, by omega, by omega, by rw [List.length_map]; omega⟩, ?_⟩
      rw [List.length_map]
      have en : ((us.length : Nat) : Int) - (gn : Nat) = ((us.length : Nat) : Int) - gn := rfl
      have en2 : (((us.length : Nat) : Int) - (gn : Int)).toNat = us.length - gn := by omega
      rw [en2]
      refine for_range (n := us.length - gn) (fun j σ' H2 => ∃ (us2 : List Int) (u5 u6 u7 : Option V), σ' = [some (.ref st), some (.ref a), some (.ref cg), some (.ref F), some (.int gn), u5, u6, u7] ∧ But [g] H H2 ∧ SAt H2 st r g row (m + 200 * i + 13 * j) ∧ H2 F = some (.lst (us2.map V.int)) ∧ us2.Perm ts)
        ⟨us, u5, u6, u7, rfl, b, s1, kF, hperm⟩ (fun j σ' H2 hj p => ?_) (fun σ' H2 p => ?_)
      · obtain ⟨us2, u5, u6, u7, rfl, b2, s2, kF2, hperm2⟩ := p
        have hlen2 := hperm2.length_eq
        have ej : ((gn : Int) + (j : Nat)) = ((gn + j : Nat) : Int) := by omega
        obtain ⟨t, ht⟩ := get_at (l := us2) (i := gn + j) (by omega)
        rw [ej]
        refine ⟨_, rfl, ?_⟩
        refine ⟨_, rfl, _, rfl, F, _, _, .int t, rfl, rfl, .inl (.inl kF2), atI_nat (get_map ht), ?_⟩
        have hp0 : (us2.set (gn + j) t).Perm ts := by
          have e : us2.set (gn + j) t = us2 := by
            apply List.ext_getElem?
            intro n
            by_cases c : gn + j = n
            · subst c
              rw [List.getElem?_set_self (get_lt ht), ht]
            · rw [List.getElem?_set_ne c]
          rw [e]
          exact hperm2
        refine ⟨fun k σ' H3 => ∃ (us3 : List Int), σ' = [some (.ref st), some (.ref a), some (.ref cg), some (.ref F), some (.int gn), some (.int (gn + j : Nat)), some (.int k), some (.int t)] ∧ k < us3.length ∧ us3.length = us2.length ∧ But [g] H H3 ∧ SAt H3 st r g row (m + 200 * i + 13 * j + (11 - k)) ∧ H3 F = some (.lst (us3.map V.int)) ∧ (us3.set k t).Perm ts,
          ⟨gn + j, us2, rfl, get_lt ht, rfl, b2, s2.mono (by omega), kF2, hp0⟩, fun k σ' H3 p => ?_⟩
        obtain ⟨us3, rfl, hk, hl3, b3, s3, kF3, hperm3⟩ := p
        have fin : ∀ {H4 : Hp}, But [g] H3 H4 → SAt H4 st r g row (m + 200 * i + 13 * j + (11 - k) + 1) →
            ∃ us2 : List Int, ((us3.map V.int).set k (V.int t)) = us2.map V.int ∧ But [g] H (upd H4 F (.lst ((us3.map V.int).set k (V.int t)))) ∧ SAt (upd H4 F (.lst ((us3.map V.int).set k (V.int t)))) st r g row (m + 200 * i + 13 * (j + 1)) ∧ (upd H4 F (.lst ((us3.map V.int).set k (V.int t)))) F = some (.lst (us2.map V.int)) ∧ us2.Perm ts := fun {H4} b4 s4 => by
          refine ⟨us3.set k t, by rw [List.map_set], (b3.trans b4).late hF, (s4.put (b4.get kF3 oF.2.2) oF).mono (by omega), ?_, hperm3⟩
          rw [upd_same, List.map_set]
        refine ⟨_, rfl, _, rfl, k, gn, rfl, rfl, _, _, rfl, rfl, _, rfl, ?_⟩
        by_cases c : gn ≤ k
        · refine iteT' (decide_eq_true (by omega)) ?_
          have ek : ((k : Int) - gn) = ((k - gn : Nat) : Int) := by omega
          obtain ⟨y, hy⟩ := get_at (l := us3) (i := k - gn) (by omega)
          have hth3 := hth.perm hperm3
          have hne : k ≠ k - gn := by omega
          obtain ⟨o1, o2, o3⟩ := hth3.at (i := k) (j := k - gn) (List.getElem?_set_self hk) (by rw [List.getElem?_set_ne hne]; exact hy) hne
          refine ⟨_, rfl, _, rfl, _, rfl, _, rfl, _, rfl, k, gn, rfl, rfl, F, _, _, .int y, rfl, rfl, .inl (.inl kF3), by rw [ek]; exact atI_nat (get_map hy), st, r, g, row, _, t, y, rfl, s3, by omega, o1, o2, o3, fun H4 bb b4 s4 => ⟨_, rfl, ?_⟩⟩
          have kF4 := b4.get kF3 oF.2.2
          cases bb with
          | true =>
            refine iteT ⟨fun σ' H' => ∃ m', m' < k ∧ _, fun _ _ h => h, ?_⟩
            refine ⟨_, rfl, _, rfl, _, rfl, k, gn, rfl, rfl, F, _, _, .int y, rfl, rfl, .inl (.inl kF4), by rw [ek]; exact atI_nat (get_map hy), ?_⟩
            refine ⟨_, rfl, _, rfl, F, _, k, k, rfl, rfl, kF4, ixN_int (by omega) (by rw [List.length_map]; omega), ?_⟩
            refine ⟨_, rfl, _, rfl, k, gn, rfl, rfl, k - gn, by omega, us3.set k y, by rw [← ek]; rfl, by rw [List.length_set]; omega, by rw [List.length_set]; exact hl3, (b3.trans b4).late hF, (s4.put kF4 oF).mono (by omega), ?_, hole_move hk hne hy hperm3⟩
            rw [upd_same, List.map_set]
          | false =>
            refine iteF ?_
            obtain ⟨us4, f1, f2, f3, f4, f5⟩ := fin b4 s4
            refine ⟨_, rfl, _, rfl, _, rfl, F, _, k, k, rfl, rfl, kF4, ixN_int (by omega) (by rw [List.length_map]; omega), ?_⟩
            exact ⟨us4, _, _, _, rfl, f2, f3, f4, f5⟩
        · refine iteF' (decide_eq_false (by omega)) ?_
          refine iteF ?_
          obtain ⟨us4, f1, f2, f3, f4, f5⟩ := fin (But.refl _ _) (s3.mono (by omega))
          refine ⟨_, rfl, _, rfl, _, rfl, F, _, k, k, rfl, rfl, kF3, ixN_int (by omega) (by rw [List.length_map]; omega), ?_⟩
          exact ⟨us4, _, _, _, rfl, f2, f3, f4, f5⟩
      · obtain ⟨us2, u5, u6, u7, rfl, b2, s2, kF2, hperm2⟩ := p
        exact ⟨us2, _, _, _, _, rfl, b2, s2.mono (by omega), kF2, hperm2⟩
    · obtain ⟨us, u4, u5, u6, u7, rfl, b, s1, kF, hperm⟩ := p
      rw [List.length_map] at s1
      exact ⟨_, rfl, q H' F us b hF kF (s1.mono (by omega)) trivial⟩
end
end K20
/-! K20L: _law_merged, _law_merge, _law_pivot. -/
namespace K20
open PySem PySem.Spec PyProof.Rows L2
section
variable {P : Program} {w : World} {K : PySem.W.Frag} {mg : Str → Option Value} {base : Heap} {CS CE CT : Addr}
/-- a list against [] -/
theorem rd_ne_nil {a : Addr} {xs : List Int} {H : Hp} {Q : Bool → Hp → Prop} (h : H a = some (.lst (xs.map V.int))) (q : ∀ H', Same H H' → Q (!decide (xs = [])) H') :
    0 ≤ sizeLine ∧ ∀ p, H p = none → rNeD K (.ref a) (.ref p) (upd H p (.lst [])) (fun z H' => ∃ k, z = .bl k ∧ Q k H') := by
  refine ⟨Nat.zero_le _, fun p hp => ⟨.list (xs.map PyData.int), .list [], .lst (.inl (.inl ((same_upd hp) _ _ h))) (dp_ints _), .lst (.inl (.inl upd_same)) .nil, ints_shaped _, rfl, _, rfl, ?_⟩⟩
  rw [eqv_nil]
  exact q _ (same_upd hp)
/-! ### _law_merged -/
def spMerged : Sp := fun vs H Q _ => ∃ (st r g a b : Addr) (row ts us : List Int) (m : Nat), vs = [.ref st, .ref a, .ref b] ∧ SAt H st r g row m ∧ m < 800000 ∧ a ≠ g ∧ b ≠ g ∧ H a = some (.lst (ts.map V.int)) ∧ H b = some (.lst (us.map V.int)) ∧ Th row (ts ++ us) ∧ OutL H st r g row (m + 12) (fun xs => xs.Perm (ts ++ us)) Q
theorem ok_w_merged (T : Txt K mg CS CE CT) : Ok P w K mg base CX0 3 "_law_merged" P_w_merged spMerged := by
  refine T.d_w_merged.ok0 sc_w_merged (fun _ _ _ _ _ _ us hl => match us, hl with | [_, _, _], _ => rfl) (fun vs H Q E h => ?_) (fun f cdv A outer s H vs Q E hr h => ?_)
  · obtain ⟨_, _, _, _, _, _, _, _, _, rfl, _⟩ := h
    rfl
  · obtain ⟨st, r, g, a, b, row, ts, us, m, rfl, hs, hm, hag, hbg, ha, hb, hth, q⟩ := h
    have hl := hth.len hs.n12
    rw [List.length_append] at hl
    refine ⟨_, (pss_cons (ps_par3 (i := 3) (j := 4) (l := 5) (by rfl) sc_w_merged.nd rfl rfl rfl (by decide) (by decide) (by decide) rfl rfl rfl (pa_cons (pe_lst pa_nil) (pa_cons (pe_callTy call_list_of (by rfl) T.f_list (by decide +kernel) (pa_cons (pv 1) pa_nil)) (pa_cons (pe_callTy call_list_of (by rfl) T.f_list (by decide +kernel) (pa_cons (pv 2) pa_nil)) pa_nil))) (by rfl))
  (pss_cons (ps_while PassesOwn.never (PW.pt (pw_and (pt_cmpR (op_neD hr.units) (pv 4) (pe_lst pa_nil) (nomark _)) (pw_and1 (pt_cmpR (op_neD hr.units) (pv 5) (pe_lst pa_nil) (nomark _))))) (pss_one (ps_expr (pe_bm PySem.F.plainAttrs_list PySem.F.slot_list_append PySem.F.type_list_append mt_append (pv 3) (pa_cons (pe_ifExp (pt_val (pe_callO (ok_w_less T) (hr.mono (by decide)) pass0 (pa_cons (pv 0) (pa_cons (pe_ix ix_list (pv 5) pe_int (fun _ _ => rfl)) (pa_cons (pe_ix ix_list (pv 4) pe_int (fun _ _ => rfl)) pa_nil))))) (pe_bm PySem.F.plainAttrs_list PySem.F.slot_list_pop PySem.F.type_list_pop mt_popAt (pv 5) (pa_cons pe_int pa_nil)) (pe_bm PySem.F.plainAttrs_list PySem.F.slot_list_pop PySem.F.type_list_pop mt_popAt (pv 4) (pa_cons pe_int pa_nil))) pa_nil)))))
  (pss_one (ps_ret (pe_op op_cat (pe_op op_cat (pv 3) (pv 4)) (pv 5)))))), ?_⟩
    refine ⟨sz (show 0 ≤ 16777216 by decide), fun F hF => ⟨_, rfl, a, _, rfl, .inl (.inl (.inl ((same_upd hF) _ _ ha))), fun O hO => ⟨_, rfl, b, _, rfl, .inl (.inl (.inl ((same_upd hO) _ _ ((same_upd hF) _ _ hb)))), fun X hX => ⟨_, _, _, rfl, ?_⟩⟩⟩⟩
    have s0 : Same H (upd (upd (upd H F (.lst [])) O (.lst (ts.map V.int))) X (.lst (us.map V.int))) := ((same_upd hF).trans (same_upd hO)).trans (same_upd hX)
    have kF : (upd (upd (upd H F (.lst [])) O (.lst (ts.map V.int))) X (.lst (us.map V.int))) F = some (.lst []) := (same_upd hX) _ _ ((same_upd hO) _ _ upd_same)
    have kO : (upd (upd (upd H F (.lst [])) O (.lst (ts.map V.int))) X (.lst (us.map V.int))) O = some (.lst (ts.map V.int)) := (same_upd hX) _ _ upd_same
    have kX : (upd (upd (upd H F (.lst [])) O (.lst (ts.map V.int))) X (.lst (us.map V.int))) X = some (.lst (us.map V.int)) := upd_same
    have hO' := none_back (same_upd hF) hO
    have hX' := none_back ((same_upd hF).trans (same_upd hO)) hX
    have nOF : O ≠ F := fun z => by
      rw [z, upd_same] at hO
      cases hO
    have nXO : X ≠ O := fun z => by
      rw [z, upd_same] at hX
      cases hX
    have nXF : X ≠ F := fun z => by
      rw [z, (same_upd hO) _ _ upd_same] at hX
      cases hX
    have oF := hs.off hF
    have oO := hs.off hO'
    have oX := hs.off hX'
    show tSeq _ _ _ _ (upd (upd (upd H F (.lst [])) O (.lst (ts.map V.int))) X (.lst (us.map V.int)))
    generalize upd (upd (upd H F (.lst [])) O (.lst (ts.map V.int))) X (.lst (us.map V.int)) = H1 at *
    refine ⟨fun k σ' H' => ∃ (fs os xs : List Int), σ' = [some (.ref st), some (.ref a), some (.ref b), some (.ref F), some (.ref O), some (.ref X)] ∧ k = os.length + xs.length ∧ But [g] H H' ∧ SAt H' st r g row (m + (12 - (os.length + xs.length))) ∧ H' F = some (.lst (fs.map V.int)) ∧ H' O = some (.lst (os.map V.int)) ∧ H' X = some (.lst (xs.map V.int)) ∧ (fs ++ os ++ xs).Perm (ts ++ us),
      ⟨_, [], ts, us, rfl, rfl, But.of s0, (hs.same s0).mono (by omega), kF, kO, kX, List.Perm.refl _⟩, fun k σ' H' p => ?_⟩
    obtain ⟨fs, os, xs, rfl, rfl, bt, s1, kF, kO, kX, hperm⟩ := p
    have hlen := hperm.length_eq
    rw [List.length_append, List.length_append, List.length_append] at hlen
    have fin : ∀ {H2 : Hp}, Same H' H2 → OutL H2 st r g row (m + 12) (fun xs => xs.Perm (ts ++ us)) Q := fun {H2} e => fun H3 p us3 b3 hp3 k3 s3 perm3 => q H3 p us3 ((bt.trans (But.of e)).trans b3) ((s1.same e).fresh (bt.trans (But.of e)) hp3) k3 s3 perm3
    have ret : ∀ {H2 : Hp}, Same H' H2 → tRet (tOp rCat (tOp rCat (tVar 3) (tVar 4)) (tVar 5)) { nx := fun _ H' => Q .non H', rt := Q } [some (.ref st), some (.ref a), some (.ref b), some (.ref F), some (.ref O), some (.ref X)] H2 := fun {H2} e => by
      refine ⟨_, rfl, _, rfl, F, O, _, _, rfl, rfl, e _ _ kF, e _ _ kO, sz (by rw [List.length_map, List.length_map]; omega), fun p hp => ?_⟩
      refine ⟨_, rfl, p, X, _, _, rfl, rfl, upd_same, (same_upd hp) _ _ (e _ _ kX), sz (by rw [List.length_append, List.length_map, List.length_map, List.length_map]; omega), fun p2 hp2 => ?_⟩
      have e2 := (same_upd (o := .lst (fs.map V.int ++ os.map V.int)) hp).trans (same_upd (o := .lst (fs.map V.int ++ os.map V.int ++ xs.map V.int)) hp2)
      refine fin e _ p2 (fs ++ os ++ xs) (But.of e2) (none_back (same_upd hp) hp2) ?_ (((s1.same e).same e2).mono (by omega)) hperm
      rw [upd_same, List.map_append, List.map_append]
    refine ⟨_, rfl, rd_ne_nil kO fun H2 e2 => ?_⟩
    by_cases co : os = []
    · refine iteF' (by rw [decide_eq_true co]; rfl) ?_
      refine iteF ?_
      exact ret e2
    · refine iteT' (by rw [decide_eq_false co]; rfl) ?_
      refine ⟨_, rfl, rd_ne_nil (e2 _ _ kX) fun H3 e3 => ?_⟩
      by_cases cx : xs = []
      · refine iteF' (by rw [decide_eq_true cx]; rfl) ?_
        exact ret (e2.trans e3)
      · refine iteT' (by rw [decide_eq_false cx]; rfl) ?_
        refine ⟨fun σ' H' => ∃ m', m' < os.length + xs.length ∧ _, fun _ _ h => h, ?_⟩
        have e4 := e2.trans e3
        obtain ⟨y, ys, rfl⟩ : ∃ y ys, os = y :: ys := by
          cases os with
          | nil => exact absurd rfl co
          | cons y ys => exact ⟨y, ys, rfl⟩
        obtain ⟨x, zs, rfl⟩ : ∃ x zs, xs = x :: zs := by
          cases xs with
          | nil => exact absurd rfl cx
          | cons x zs => exact ⟨x, zs, rfl⟩
        simp only [List.length_cons] at hlen
        have hthp := hth.perm hperm
        have hy := hthp.lt y (by simp)
        have hx := hthp.lt x (by simp)
        have hxy : x ≠ y := fun e => by
          subst e
          have n1 := hthp.nd
          rw [List.append_assoc] at n1
          have n2 := (List.nodup_append.mp n1).2.1
          have n3 := (List.nodup_append.mp n2).2.2
          exact n3 x List.mem_cons_self x List.mem_cons_self rfl
        refine ⟨_, rfl, .inl ⟨rfl, _, .inl (.inl (e4 _ _ kF))⟩, ?_⟩
        refine ⟨_, rfl, _, rfl, X, _, 0, .int x, rfl, rfl, .inl (.inl (e4 _ _ kX)), atI_int (by decide) rfl, _, rfl, O, _, 0, .int y, rfl, rfl, .inl (.inl (e4 _ _ kO)), atI_int (by decide) rfl, st, r, g, row, _, x, y, rfl, s1.same e4, by omega, hx, hy, hxy, fun H5 bb b5 s5 => ⟨_, rfl, ?_⟩⟩
        have kF5 := b5.get (e4 _ _ kF) oF.2.2
        have kO5 := b5.get (e4 _ _ kO) oO.2.2
        have kX5 := b5.get (e4 _ _ kX) oX.2.2
        have bt5 : But [g] H H5 := (bt.trans (But.of e4)).trans b5
        rw [List.length_cons, List.length_cons] at s5
        have sq : ∀ {n : Nat} {l : List V}, l.length = n + 1 → seqIndex? 0 l.length = some 0 := fun {n l} e => (ixN_seq (ixN_int (n := l.length) (x := 0) (by decide) (by omega))).1
        cases bb with
        | true =>
          refine iteT ⟨_, rfl, .inl ⟨rfl, _, .inl (.inl kX5)⟩, X, _, 0, 0, .int x, rfl, rfl, kX5, by decide, by decide, sq (n := zs.length) (by rw [List.length_map, List.length_cons]), rfl, ?_⟩
          have s6 := s5.put (ys := ((x :: zs).map V.int).eraseIdx 0) kX5 oX
          have kF6 : (upd H5 X (.lst (((x :: zs).map V.int).eraseIdx 0))) F = some (.lst (fs.map V.int)) := by
            rw [upd_ne nXF.symm]
            exact kF5
          refine ⟨F, _, .int x, rfl, rfl, kF6, sz' (by rw [List.length_map]; omega), zs.length + (ys.length + 1), by rw [List.length_cons, List.length_cons]; omega, fs ++ [x], y :: ys, zs, rfl, by rw [List.length_cons]; omega, (bt5.late hX').late hF, (s6.put kF6 oF).mono (by rw [List.length_cons]; omega), ?_, ?_, ?_, ?_⟩
          · rw [upd_same, List.map_append]
            rfl
          · rw [upd_ne nOF, upd_ne nXO.symm]
            exact kO5
          · rw [upd_ne nXF, upd_same]
            rfl
          · refine List.Perm.trans ?_ hperm
            have p1 : (fs ++ (y :: ys) ++ x :: zs).Perm (x :: (fs ++ (y :: ys) ++ zs)) := List.perm_middle
            have p2 : (fs ++ x :: ((y :: ys) ++ zs)).Perm (x :: (fs ++ ((y :: ys) ++ zs))) := List.perm_middle
            rw [← List.append_assoc fs (y :: ys) zs] at p2
            have e : fs ++ [x] ++ (y :: ys) ++ zs = fs ++ x :: ((y :: ys) ++ zs) := by simp
            rw [e]
            exact p2.trans p1.symm
        | false =>
          refine iteF ⟨_, rfl, .inl ⟨rfl, _, .inl (.inl kO5)⟩, O, _, 0, 0, .int y, rfl, rfl, kO5, by decide, by decide, sq (n := ys.length) (by rw [List.length_map, List.length_cons]), rfl, ?_⟩
          have s6 := s5.put (ys := ((y :: ys).map V.int).eraseIdx 0) kO5 oO
          have kF6 : (upd H5 O (.lst (((y :: ys).map V.int).eraseIdx 0))) F = some (.lst (fs.map V.int)) := by
            rw [upd_ne nOF.symm]
            exact kF5
          refine ⟨F, _, .int y, rfl, rfl, kF6, sz' (by rw [List.length_map]; omega), ys.length + (zs.length + 1), by rw [List.length_cons, List.length_cons]; omega, fs ++ [y], ys, x :: zs, rfl, by rw [List.length_cons], (bt5.late hO').late hF, (s6.put kF6 oF).mono (by rw [List.length_cons]; omega), ?_, ?_, ?_, ?_⟩
          · rw [upd_same, List.map_append]
            rfl
          · rw [upd_ne nOF, upd_same]
            rfl
          · rw [upd_ne nXF, upd_ne nXO]
            exact kX5
          · have e : fs ++ [y] ++ ys ++ (x :: zs) = fs ++ (y :: ys) ++ x :: zs := by simp
            rw [e]
            exact hperm
/-! ### _law_merge -/
def mcost (wd : Str) (n : Nat) : Nat := if wd = "above" then 24 * n - 12 else 1000
def spMerge (d : Nat) : Sp := fun vs H Q _ => ∃ (st r g a : Addr) (row ts : List Int) (m : Nat) (wd : Str), vs = [.ref st, .ref a, .str wd] ∧ ts.length < d ∧ SAt H st r g row m ∧ m + mcost wd ts.length < 790000 ∧ a ≠ g ∧ H a = some (.lst (ts.map V.int)) ∧ Th row ts ∧ OutL H st r g row (m + mcost wd ts.length) (fun us => us.Perm ts) Q
/-- a list of lists -/
def LsAt (H0 H : Hp) (st r g LL : Addr) (ls : List Addr) (cs : List (List Int)) : Prop := H LL = some (.lst (ls.map V.ref)) ∧ ls.length = cs.length ∧ LL ∉ ls ∧ (∀ l ∈ ls, H0 l = none ∧ Off l st r g) ∧ ∀ (i : Nat) (l : Addr) (c : List Int), ls[i]? = some l → cs[i]? = some c → H l = some (.lst (c.map V.int))
theorem LsAt.but {H0 H H' : Hp} {st r g LL : Addr} {ls : List Addr} {cs : List (List Int)} (h : LsAt H0 H st r g LL ls cs) (b : But [g] H H') (hL : LL ≠ g) : LsAt H0 H' st r g LL ls cs := by
  obtain ⟨h1, h2, h3, h4, h5⟩ := h
  exact ⟨b.get h1 hL, h2, h3, h4, fun i l c x y => b.get (h5 i l c x y) (h4 l (List.mem_of_getElem? x)).2.2.2⟩
/-- a new thing is changed -/
theorem LsAt.off {H0 H : Hp} {st r g LL D : Addr} {ls : List Addr} {cs : List (List Int)} {o : HO} (h : LsAt H0 H st r g LL ls cs) (h1 : D ≠ LL) (h2 : D ∉ ls) : LsAt H0 (upd H D o) st r g LL ls cs := by
  obtain ⟨k1, k2, k3, k4, k5⟩ := h
  refine ⟨?_, k2, k3, k4, fun i l c x y => ?_⟩
  · rw [upd_ne h1.symm]
    exact k1
  · rw [upd_ne (fun e => h2 (by rw [← e]; exact List.mem_of_getElem? x))]
    exact k5 i l c x y
theorem LsAt.push {H0 H : Hp} {st r g LL l : Addr} {ls : List Addr} {cs : List (List Int)} {c : List Int} (h : LsAt H0 H st r g LL ls cs) (hl : H l = some (.lst (c.map V.int))) (h0 : H0 l = none) (ho : Off l st r g) (hne : l ≠ LL) : LsAt H0 (upd H LL (.lst (ls.map V.ref ++ [.ref l]))) st r g LL (ls ++ [l]) (cs ++ [c]) := by
  obtain ⟨k1, k2, k3, k4, k5⟩ := h
  refine ⟨?_, by rw [List.length_append, List.length_append, k2]; rfl, fun hm => ?_, fun x hx => ?_, fun i l' c' x y => ?_⟩
  · rw [upd_same, List.map_append]
    rfl
  · rcases List.mem_append.mp hm with hm | hm
    · exact k3 hm
    · exact hne (List.mem_singleton.mp hm).symm
  · rcases List.mem_append.mp hx with hx | hx
    · exact k4 x hx
    · rw [List.mem_singleton.mp hx]
      exact ⟨h0, ho⟩
  · by_cases cc : i < ls.length
    · rw [List.getElem?_append_left cc] at x
      rw [List.getElem?_append_left (by omega)] at y
      rw [upd_ne (fun e => k3 (by rw [← e]; exact List.mem_of_getElem? x))]
      exact k5 i l' c' x y
    · have lt := get_lt x
      rw [List.length_append, List.length_singleton] at lt
      have ei : i = ls.length := by omega
      subst ei
      rw [List.getElem?_append_right (Nat.le_refl _), Nat.sub_self] at x
      rw [k2, List.getElem?_append_right (Nat.le_refl _), Nat.sub_self] at y
      cases x
      cases y
      rw [upd_ne hne]
      exact hl
theorem LsAt.stand {H0 H : Hp} {st r g LL l : Addr} {ls : List Addr} {cs : List (List Int)} (h : LsAt H0 H st r g LL ls cs) (hl : l ∈ ls) : ∃ c : List Int, H l = some (.lst (c.map V.int)) := by
  obtain ⟨k1, k2, k3, k4, k5⟩ := h
  obtain ⟨i, hi⟩ := List.getElem?_of_mem hl
  obtain ⟨c, hc⟩ := get_at (l := cs) (i := i) (by rw [← k2]; exact get_lt hi)
  exact ⟨c, k5 i l c hi hc⟩
theorem LsAt.new {H0 H : Hp} {st r g LL D : Addr} {ls : List Addr} {cs : List (List Int)} (h : LsAt H0 H st r g LL ls cs) (hD : H D = none) : D ≠ LL ∧ D ∉ ls := by
  refine ⟨fun e => ?_, fun hm => ?_⟩
  · rw [e, h.1] at hD
    cases hD
  · obtain ⟨c, hc⟩ := h.stand hm
    rw [hc] at hD
    cases hD
theorem dp_lists {K : PySem.W.Frag} {H : Hp} : ∀ {ls : List Addr} {cs : List (List Int)}, ls.length = cs.length → (∀ (i : Nat) (l : Addr) (c : List Int), ls[i]? = some l → cs[i]? = some c → H l = some (.lst (c.map V.int))) → DpAll K H (ls.map V.ref) (cs.map fun c => PyData.list (c.map PyData.int))
  | [], [], _, _ => .nil
  | l :: ls, c :: cs, hl, h => .cons (.lst (.inl (.inl (h 0 l c rfl rfl))) (dp_ints c)) (dp_lists (Nat.succ.inj hl) fun i b q x y => h (i + 1) b q x y)
theorem lists_lay : ∀ cs : List (List Int), PyData.canLayAll0 (cs.map fun c => PyData.list (c.map PyData.int)) = true
  | [] => rfl
  | c :: r => by
    rw [List.map_cons]
    show (PyData.canLayAll0 (c.map PyData.int) && PyData.canLayAll0 (r.map fun c => PyData.list (c.map PyData.int))) = true
    rw [lists_lay r, ints_lay c]
    rfl
theorem lists_depth : ∀ cs : List (List Int), PyData.depthAll (cs.map fun c => PyData.list (c.map PyData.int)) ≤ 2
  | [] => by
    show 0 ≤ 2
    omega
  | c :: r => by
    rw [List.map_cons]
    show max (PyData.depthAll (c.map PyData.int) + 1) (PyData.depthAll (r.map fun c => PyData.list (c.map PyData.int))) ≤ 2
    have h1 := lists_depth r
    have h2 := ints_depth c
    omega
theorem lists_shaped (cs : List (List Int)) : SeqAt.shaped (.list (cs.map fun c => PyData.list (c.map PyData.int))) = true := by
  show (PyData.canLayAll0 (cs.map fun c => PyData.list (c.map PyData.int)) && decide (PyData.depthAll (cs.map fun c => PyData.list (c.map PyData.int)) + 1 ≤ 64)) = true
  rw [lists_lay, decide_eq_true (by have := lists_depth cs; omega)]
  rfl
theorem rgc2 {n : Nat} (h : n ≤ 12) : RgC 0 (n : Nat) 2 ((n + 1) / 2) := by
  have key : ∀ k : Fin 13, Builtin.Range.small 0 ((k.val : Nat) : Int) 2 = true ∧ Builtin.Range.rangeSize 0 ((k.val : Nat) : Int) 2 = (((k.val + 1) / 2 : Nat)) := by decide +kernel
  obtain ⟨k1, k2⟩ := key ⟨n, by omega⟩
  exact ⟨by decide, by decide, k1, k2⟩
theorem ok_w_merge0 (T : Txt K mg CS CE CT) : Ok P w K mg base CX0 1 "_law_merge" P_w_merge (spMerge 0) := by
  refine T.d_w_merge.ok0 sc_w_merge (fun _ _ _ _ _ _ us hl => match us, hl with | [_, _, _], _ => rfl) (fun vs H Q E h => ?_) (fun f cdv A outer s H vs Q E hr h => ?_)
  · obtain ⟨_, _, _, _, _, _, _, _, rfl, _⟩ := h
    rfl
  · obtain ⟨_, _, _, _, _, _, _, _, _, h, _⟩ := h
    exact absurd h (Nat.not_lt_zero _)
theorem step_w_merge (T : Txt K mg CS CE CT) (d : Nat) (IH : Ok P w K mg base CX0 (3 + d) "_law_merge" P_w_merge (spMerge d)) : Ok P w K mg base CX0 (3 + d + 1) "_law_merge" P_w_merge (spMerge (d + 1)) := by
  refine T.d_w_merge.ok0 sc_w_merge (fun _ _ _ _ _ _ us hl => match us, hl with | [_, _, _], _ => rfl) (fun vs H Q E h => ?_) (fun f cdv A outer s H vs Q E hr h => ?_)
  · obtain ⟨_, _, _, _, _, _, _, _, rfl, _⟩ := h
    rfl
  · obtain ⟨st, r, g, a, row, ts, m, wd, rfl, hd, hs, hm, hag, ha, hth, q⟩ := h
    have hl := hth.len hs.n12
    refine ⟨_, (pss_cons (ps_if (pt_cmpR op_eq (pv 2) pe_str (nomark _)) (pss_cons (ps_set (i := 3) sc_w_merge.nd rfl (Or.inl rfl) (pe_op op_fdiv (pe_callB call_len (by rfl) T.f_len (by decide +kernel) (pa_cons (pv 1) pa_nil)) pe_int))
  (pss_cons (ps_if (pt_cmpR op_eq (pv 3) pe_int (nomark _)) (pss_one (ps_ret (pe_callTy call_list_of (by rfl) T.f_list (by decide +kernel) (pa_cons (pv 1) pa_nil)))) pss_nil)
  (pss_cons (ps_set (i := 4) sc_w_merge.nd rfl (Or.inl rfl) (pe_callO (IH) (hr.mono (by omega)) pass0 (pa_cons (pv 0) (pa_cons (pe_slice sl_list (pv 1) po_none (po_some (pv 3))) (pa_cons (pv 2) pa_nil)))))
  (pss_one (ps_ret (pe_callO (ok_w_merged T) (hr.mono (by omega)) pass0 (pa_cons (pv 0) (pa_cons (pv 4) (pa_cons (pe_callO (IH) (hr.mono (by omega)) pass0 (pa_cons (pv 0) (pa_cons (pe_slice sl_list (pv 1) (po_some (pv 3)) po_none) (pa_cons (pv 2) pa_nil)))) pa_nil))))))))) pss_nil)
  (pss_cons (ps_set (i := 5) sc_w_merge.nd rfl (Or.inl rfl) (pe_lst pa_nil))
  (pss_cons (ps_for PassesOwn.never rfl (pi_range1 (by rfl) T.f_range (pa_cons (pe_callB call_len (by rfl) T.f_len (by decide +kernel) (pa_cons (pv 1) pa_nil)) pa_nil)) (pg_name (i := 6) sc_w_merge.nd rfl (Or.inl rfl)) (pss_one (ps_if (PW.pt (pw_or (pt_cmpR op_eq (pv 2) pe_str (nomark _)) (pw_or (pt_cmpR op_eq (pv 6) pe_int (nomark _)) (pw_or1 (pt_val (pe_callO (ok_w_less T) (hr.mono (by omega)) pass0 (pa_cons (pv 0) (pa_cons (pe_ix ix_list (pv 1) (pv 6) (fun _ _ => rfl)) (pa_cons (pe_ix ix_list (pv 1) (pe_op op_sub (pv 6) pe_int) (fun _ _ => rfl)) pa_nil))))))))) (pss_one (ps_expr (pe_bm PySem.F.plainAttrs_list PySem.F.slot_list_append PySem.F.type_list_append mt_append (pv 5) (pa_cons (pe_lst (pa_cons (pe_ix ix_list (pv 1) (pv 6) (fun _ _ => rfl)) pa_nil)) pa_nil)))) (pss_one (ps_expr (pe_bm PySem.F.plainAttrs_list PySem.F.slot_list_append PySem.F.type_list_append mt_append (pe_ix ix_list (pv 5) (pe_un un_neg pe_int) (fun _ _ => rfl)) (pa_cons (pe_ix ix_list (pv 1) (pv 6) (fun _ _ => rfl)) pa_nil)))))))
  (pss_cons (ps_while PassesOwn.never (pt_cmpR op_gt (pe_callB call_len (by rfl) T.f_len (by decide +kernel) (pa_cons (pv 5) pa_nil)) pe_int (nomark _)) (pss_cons (ps_set (i := 7) sc_w_merge.nd rfl (Or.inl rfl) (pe_lst pa_nil))
  (pss_cons (ps_for PassesOwn.never rfl (pi_range3 (by rfl) T.f_range (pa_cons pe_int (pa_cons (pe_callB call_len (by rfl) T.f_len (by decide +kernel) (pa_cons (pv 5) pa_nil)) (pa_cons pe_int pa_nil)))) (pg_name (i := 6) sc_w_merge.nd rfl (Or.inl rfl)) (pss_one (ps_expr (pe_bm PySem.F.plainAttrs_list PySem.F.slot_list_append PySem.F.type_list_append mt_append (pv 7) (pa_cons (pe_ifExp (pt_cmpR op_lt (pe_op op_add (pv 6) pe_int) (pe_callB call_len (by rfl) T.f_len (by decide +kernel) (pa_cons (pv 5) pa_nil)) (nomark _)) (pe_callO (ok_w_merged T) (hr.mono (by omega)) pass0 (pa_cons (pv 0) (pa_cons (pe_ix ix_list (pv 5) (pv 6) (fun _ _ => rfl)) (pa_cons (pe_ix ix_list (pv 5) (pe_op op_add (pv 6) pe_int) (fun _ _ => rfl)) pa_nil)))) (pe_ix ix_list (pv 5) (pv 6) (fun _ _ => rfl))) pa_nil)))))
  (pss_one (ps_set (i := 5) sc_w_merge.nd rfl (Or.inl rfl) (pv 7))))))
  (pss_one (ps_ret (pe_ifExp (pt_cmpR (op_neD hr.units) (pv 5) (pe_lst pa_nil) (nomark _)) (pe_ix ix_list (pv 5) pe_int (fun _ _ => rfl)) (pe_lst pa_nil)))))))), ?_⟩
    refine ⟨_, rfl, rfl, _, rfl, ?_⟩
    rw [deq_str]
    by_cases cw : wd = "above"
    · refine iteT' (decide_eq_true cw) ?_
      have hc : ∀ n, mcost wd n = 24 * n - 12 := fun n => if_pos cw
      rw [hc] at q hm
      refine ⟨_, rfl, _, _, rfl, .inl ⟨_, .inl (.inl ha), rfl⟩, _, 2, rfl, rfl, ⟨by decide, by decide⟩, ?_⟩
      rw [List.length_map]
      dsimp only
      have e2 : ((ts.length : Nat) : Int) / 2 = ((ts.length / 2 : Nat) : Int) := by omega
      rw [e2]
      refine ⟨_, rfl, rfl, _, rfl, ?_⟩
      by_cases c0 : ts.length / 2 = 0
      · refine iteT' (decide_eq_true (by rw [c0]; rfl)) ?_
        refine ⟨_, rfl, a, _, rfl, .inl (.inl (.inl ha)), fun p hp => ?_⟩
        exact q _ p ts (But.fresh hp) hp upd_same ((hs.same (same_upd hp)).mono (by omega)) (List.Perm.refl _)
      · refine iteF' (decide_eq_false (fun z => c0 (by injection z with z; omega))) ?_
        generalize hh : ts.length / 2 = h at *
        have hpd := hth.nd
        refine ⟨_, rfl, _, rfl, _, rfl, h, rfl, a, _, rfl, .inl (.inl ha), fun p1 h1 => ⟨_, rfl, ?_⟩⟩
        rw [cutV_hd]
        have k1 : (upd H p1 (.lst ((ts.map V.int).take h))) p1 = some (.lst ((ts.take h).map V.int)) := by
          rw [upd_same, List.map_take]
        have s1 := hs.same (same_upd (o := .lst ((ts.map V.int).take h)) h1)
        have b1 : But [g] H (upd H p1 (.lst ((ts.map V.int).take h))) := But.fresh h1
        have n1 := (hs.off h1).2.2
        generalize upd H p1 (.lst ((ts.map V.int).take h)) = H1 at *
        refine ⟨st, r, g, p1, row, ts.take h, m, wd, rfl, by rw [List.length_take]; omega, s1, by rw [hc, List.length_take]; omega, n1, k1, hth.sub (List.take_sublist _ _), fun H2 f1 us1 b2 hf1 kf1 s2 perm1 => ?_⟩
        have hlt : (ts.take h).length = h := by rw [List.length_take]; omega
        have hld : (ts.drop h).length = ts.length - h := List.length_drop
        rw [hc, hlt] at s2
        refine ⟨_, rfl, _, rfl, _, rfl, _, rfl, _, rfl, h, rfl, a, _, rfl, .inl (.inl (b2.get (b1.get ha hag) hag)), fun p2 h2 => ⟨_, rfl, ?_⟩⟩
        rw [cutV_tl]
        have k2 : (upd H2 p2 (.lst ((ts.map V.int).drop h))) p2 = some (.lst ((ts.drop h).map V.int)) := by
          rw [upd_same, List.map_drop]
        have kf1' := (same_upd (o := .lst ((ts.map V.int).drop h)) h2) _ _ kf1
        have s3 := s2.same (same_upd (o := .lst ((ts.map V.int).drop h)) h2)
        have b3 : But [g] H2 (upd H2 p2 (.lst ((ts.map V.int).drop h))) := But.fresh h2
        have n2 := (s2.off h2).2.2
        have nf1 := (s1.off hf1).2.2
        generalize upd H2 p2 (.lst ((ts.map V.int).drop h)) = H3 at *
        refine ⟨st, r, g, p2, row, ts.drop h, _, wd, rfl, by rw [hld]; omega, s3, by rw [hc, hld]; omega, n2, k2, hth.sub (List.drop_sublist _ _), fun H4 f2 us2 b4 hf2 kf2 s4 perm2 => ?_⟩
        rw [hc, hld] at s4
        have permA : (us1 ++ us2).Perm ts := by
          have z := perm1.append perm2
          rw [List.take_append_drop] at z
          exact z
        have b14 : But [g] H H4 := ((b1.trans b2).trans b3).trans b4
        refine ⟨st, r, g, f1, f2, row, us1, us2, _, rfl, s4, by omega, nf1, (s3.off hf2).2.2, b4.get kf1' nf1, kf2, hth.perm permA, fun H5 p us b5 hp kp s5 perm => ?_⟩
        exact q H5 p us (b14.trans b5) (s4.fresh b14 hp) kp (s5.mono (by omega)) (perm.trans permA)
    · refine iteF' (decide_eq_false cw) ?_
      have hc : ∀ n, mcost wd n = 1000 := fun n => if_neg cw
      rw [hc] at q hm
      refine ⟨sz (show 0 ≤ 16777216 by decide), fun LL hLL => ?_⟩
      have oLL := hs.off hLL
      have ka0 := (same_upd (o := .lst []) hLL) _ _ ha
      refine ⟨_, rfl, _, _, rfl, .inl ⟨_, .inl (.inl ka0), rfl⟩, _, rfl, by omega, by rw [List.length_map]; omega, ?_⟩
      rw [List.length_map]
      obtain ⟨Pv, hPv⟩ : ∃ Pv : Nat → L2.St → Hp → Prop, Pv = fun i σ' H' => ∃ (ls : List Addr) (cs : List (List Int)) (u6 : Option V), σ' = [some (.ref st), some (.ref a), some (.str wd), none, none, some (.ref LL), u6, none] ∧ But [g] H H' ∧ SAt H' st r g row (m + i) ∧ LsAt H H' st r g LL ls cs ∧ ls.Nodup ∧ cs.flatten.Perm (ts.take i) ∧ (0 < i → cs ≠ []) ∧ cs.length ≤ i := ⟨_, rfl⟩
      refine for_range (n := ts.length) Pv ?_ (fun i σ' H' hi p => ?_) (fun σ' H' p => ?_)
      · rw [hPv]
        exact ⟨[], [], none, rfl, But.fresh hLL, hs.same (same_upd hLL), ⟨upd_same, rfl, List.not_mem_nil, fun l hl => (nomatch hl), fun i l c x => (nomatch x)⟩, List.nodup_nil, List.Perm.refl _, fun h => absurd h (by decide), Nat.le_refl _⟩
      · rw [hPv] at p
        obtain ⟨ls, cs, u6, rfl, b1, s1, L1, nd1, perm1, ne1, len1⟩ := p
        obtain ⟨x, hx⟩ := get_at (l := ts) (i := i) hi
        have ez : (0 : Int) + (i : Nat) = ((i : Nat) : Int) := Int.zero_add _
        have hA : ∀ H2, But [g] H' H2 → SAt H2 st r g row (m + i + 1) → tBM K "list" rAppend (tVar 5) (tCons (tLst (tCons (tOp (rIxL K) (tVar 1) (tVar 6)) tNil)) tNil) [some (.ref st), some (.ref a), some (.str wd), none, none, some (.ref LL), some (.int (i : Nat)), none] H2 (fun _ H3 => Pv (i + 1) [some (.ref st), some (.ref a), some (.str wd), none, none, some (.ref LL), some (.int (i : Nat)), none] H3) := fun H2 b2 s2 => by
          have L2' := L1.but b2 oLL.2.2
          refine ⟨_, rfl, .inl ⟨rfl, _, .inl (.inl L2'.1)⟩, _, rfl, _, rfl, a, _, _, .int x, rfl, rfl, .inl (.inl ((b1.trans b2).get ha hag)), atI_nat (get_map hx), sz (show 1 ≤ 16777216 by decide), fun c hcn => ?_⟩
          obtain ⟨n1, n2⟩ := L2'.new hcn
          have L3 := L2'.off (o := .lst [.int x]) n1 n2
          refine ⟨LL, _, _, rfl, rfl, L3.1, sz' (by rw [List.length_map, L3.2.1]; omega), ?_⟩
          rw [hPv]
          refine ⟨ls ++ [c], cs ++ [[x]], _, rfl, ((b1.trans b2).trans (But.fresh hcn)).late hLL, (s2.same (same_upd hcn)).put L3.1 oLL, L3.push (c := [x]) upd_same (s2.fresh (b1.trans b2) hcn) (s2.off hcn) n1, ?_, ?_, fun _ => by simp, by rw [List.length_append, List.length_singleton]; omega⟩
          · exact List.nodup_append.mpr ⟨nd1, List.nodup_cons.mpr ⟨List.not_mem_nil, List.nodup_nil⟩, fun y hy z hz e => n2 (by rw [List.mem_singleton.mp hz] at e; exact e ▸ hy)⟩
          · rw [take_more hx, List.flatten_append]
            exact perm1.append_right [x]
        rw [ez]
        refine ⟨_, rfl, rfl, _, rfl, ?_⟩
        refine ite2 (fun _ => ?_) (fun _ => ?_)
        · exact iteT (hA H' (But.refl _ _) (s1.mono (by omega)))
        refine ⟨_, rfl, rfl, _, rfl, ?_⟩
        by_cases ci : i = 0
        · refine iteT' (decide_eq_true (by rw [ci]; rfl)) ?_
          exact iteT (hA H' (But.refl _ _) (s1.mono (by omega)))
        refine iteF' (decide_eq_false (fun z => ci (by injection z with z; omega))) ?_
        have ek : ((i : Int) - 1) = ((i - 1 : Nat) : Int) := by omega
        obtain ⟨y, hy⟩ := get_at (l := ts) (i := i - 1) (by omega)
        obtain ⟨o1, o2, o3⟩ := hth.at hx hy (by omega)
        refine ⟨_, rfl, _, rfl, _, rfl, a, _, _, .int x, rfl, rfl, .inl (.inl (b1.get ha hag)), atI_nat (get_map hx), _, rfl, _, rfl, i, 1, rfl, rfl, a, _, _, .int y, rfl, rfl, .inl (.inl (b1.get ha hag)), by rw [ek]; exact atI_nat (get_map hy), st, r, g, row, _, x, y, rfl, s1, by omega, o1, o2, o3, fun H2 bb b2 s2 => ⟨_, rfl, ?_⟩⟩
        refine ite2 (fun _ => hA H2 b2 s2) (fun _ => ?_)
        have L2' := L1.but b2 oLL.2.2
        obtain ⟨k1, k2, k3, k4, k5⟩ := id L2'
        have cne := ne1 (by omega)
        obtain ⟨cl, hcl⟩ : ∃ cl, cs.getLast? = some cl := by
          cases hh : cs.getLast? with
          | none => exact absurd (List.getLast?_eq_none_iff.mp hh) cne
          | some cl => exact ⟨cl, rfl⟩
        have ecs : cs = cs.dropLast ++ [cl] := by
          obtain ⟨zs, hz⟩ := List.getLast?_eq_some_iff.mp hcl
          rw [hz, List.dropLast_concat]
        rw [List.getLast?_eq_getElem?] at hcl
        obtain ⟨l, hl'⟩ := get_at (l := ls) (i := cs.length - 1) (by rw [k2]; exact get_lt hcl)
        have hll : ls.getLast? = some l := by
          rw [List.getLast?_eq_getElem?, k2]
          exact hl'
        have kl := k5 _ l cl hl' hcl
        have hlm := List.mem_of_getElem? hl'
        have hlLL : l ≠ LL := fun e => k3 (by rw [← e]; exact hlm)
        refine ⟨_, rfl, 1, rfl, LL, _, _, .ref l, rfl, rfl, .inl (.inl k1), atI_last (by rw [List.getLast?_map, hll]; rfl), .inl ⟨rfl, _, .inl (.inl kl)⟩, _, rfl, _, rfl, a, _, _, .int x, rfl, rfl, .inl (.inl ((b1.trans b2).get ha hag)), atI_nat (get_map hx), l, _, _, rfl, rfl, kl, sz' ?_, ?_⟩
        · rw [List.length_map]
          have z := perm1.length_eq
          rw [ecs, List.flatten_append, List.length_append, List.length_take] at z
          simp only [List.flatten_cons, List.flatten_nil, List.append_nil] at z
          omega
        · show Pv (i + 1) _ _
          rw [hPv]
          refine ⟨ls, cs.dropLast ++ [cl ++ [x]], _, rfl, (b1.trans b2).late (k4 l hlm).1, s2.put kl (k4 l hlm).2, ⟨?_, ?_, k3, k4, fun i' l' c' a' b' => ?_⟩, nd1, ?_, fun _ => by simp, ?_⟩
          · rw [upd_ne hlLL.symm]
            exact k1
          · rw [List.length_append, List.length_dropLast, List.length_singleton, k2]
            have := get_lt hcl
            omega
          · by_cases ee : i' = cs.length - 1
            · subst ee
              rw [hl'] at a'
              cases a'
              rw [List.getElem?_append_right (by rw [List.length_dropLast]; exact Nat.le_refl _), List.length_dropLast, Nat.sub_self] at b'
              cases b'
              rw [upd_same, List.map_append]
              rfl
            · have nl : l' ≠ l := fun z => ee (nd_get nd1 a' (by rw [z]; exact hl'))
              rw [upd_ne nl]
              refine k5 i' l' c' a' ?_
              have lt' := get_lt b'
              rw [List.length_append, List.length_dropLast, List.length_singleton] at lt'
              rw [List.getElem?_append_left (by rw [List.length_dropLast]; omega)] at b'
              rw [List.getElem?_dropLast] at b'
              split at b'
              · exact b'
              · cases b'
          · rw [take_more hx, List.flatten_append]
            have e1 : cs.dropLast.flatten ++ [cl ++ [x]].flatten = cs.flatten ++ [x] := by
              conv => rhs; rw [ecs]
              simp
            rw [e1]
            exact perm1.append_right [x]
          · rw [List.length_append, List.length_dropLast, List.length_singleton]
            omega
      · rw [hPv] at p
        clear hPv
        obtain ⟨ls, cs, u6, rfl, b1, s1, L1, nd1, perm1, ne1, len1⟩ := p
        rw [List.take_length] at perm1
        refine ⟨fun k σ' H1 => ∃ (LL : Addr) (ls : List Addr) (cs : List (List Int)) (u6 u7 : Option V), σ' = [some (.ref st), some (.ref a), some (.str wd), none, none, some (.ref LL), u6, u7] ∧ k = cs.length ∧ cs.length ≤ 12 ∧ But [g] H H1 ∧ SAt H1 st r g row (m + 12 + 72 * (12 - cs.length)) ∧ LsAt H H1 st r g LL ls cs ∧ Off LL st r g ∧ H LL = none ∧ cs.flatten.Perm ts,
          ⟨_, LL, ls, cs, _, _, rfl, rfl, by omega, b1, s1.mono (by omega), L1, oLL, hLL, perm1⟩, fun k σ' H1 p => ?_⟩
        clear L1 nd1 ne1 perm1 len1 b1 s1 oLL hLL ka0
        obtain ⟨LL, ls, cs, u6, u7, rfl, rfl, len1, b1, s1, L1, oLL, hLL, perm1⟩ := p
        obtain ⟨k1, k2, k3, k4, k5⟩ := id L1
        refine ⟨_, rfl, _, _, rfl, .inl ⟨_, .inl (.inl k1), rfl⟩, _, _, rfl, rfl, _, rfl, ?_⟩
        rw [List.length_map, k2]
        by_cases cl : 1 < cs.length
        · refine iteT' (decide_eq_true (by omega)) ?_
          refine ⟨fun σ' H' => ∃ m', m' < cs.length ∧ _, fun _ _ h => h, ?_⟩
          refine ⟨sz (show 0 ≤ 16777216 by decide), fun FF hFF => ?_⟩
          obtain ⟨nF1, nF2⟩ := L1.new hFF
          have oFF := s1.off hFF
          have hFF0 := s1.fresh b1 hFF
          have L2' := L1.off (o := .lst []) nF1 nF2
          refine ⟨_, rfl, _, _, rfl, .inl ⟨_, .inl (.inl L2'.1), rfl⟩, 0, _, 2, (cs.length + 1) / 2, rfl, by rw [List.length_map, k2]; exact rgc2 len1, ?_⟩
          refine for_rangeC (n := (cs.length + 1) / 2) (fun j σ' H2 => ∃ (fs : List Addr) (ds : List (List Int)) (u6 : Option V), σ' = [some (.ref st), some (.ref a), some (.str wd), none, none, some (.ref LL), u6, some (.ref FF)] ∧ But [g] H H2 ∧ SAt H2 st r g row (m + 12 + 72 * (12 - cs.length) + 12 * j) ∧ LsAt H H2 st r g LL ls cs ∧ LsAt H H2 st r g FF fs ds ∧ ds.length = j ∧ ds.flatten.Perm (cs.take (2 * j)).flatten)
            ⟨[], [], _, rfl, b1.trans (But.fresh hFF), s1.same (same_upd hFF), L2', ⟨upd_same, rfl, List.not_mem_nil, fun l hl => (nomatch hl), fun i l c x => (nomatch x)⟩, rfl, List.Perm.refl _⟩ (fun j σ' H2 hj p => ?_) (fun σ' H2 p => ?_)
          · obtain ⟨fs, ds, u6, rfl, b2, s2, LA, LB, ld, pd⟩ := p
            have ej : (0 : Int) + (j : Nat) * 2 = ((2 * j : Nat) : Int) := by omega
            rw [ej]
            obtain ⟨q1, q2, q3, q4, q5⟩ := id LA
            obtain ⟨c1, hc1⟩ := get_at (l := cs) (i := 2 * j) (by omega)
            obtain ⟨l1, hl1⟩ := get_at (l := ls) (i := 2 * j) (by omega)
            have kl1 := q5 _ l1 c1 hl1 hc1
            have hm1 := List.mem_of_getElem? hl1
            have nl1 : l1 ≠ FF := fun e => nF2 (by rw [← e]; exact hm1)
            refine ⟨_, rfl, .inl ⟨rfl, _, .inl (.inl LB.1)⟩, ?_⟩
            refine ⟨_, rfl, _, _, rfl, rfl, _, rfl, _, _, rfl, .inl ⟨_, .inl (.inl q1), rfl⟩, _, _, rfl, rfl, _, rfl, ?_⟩
            rw [List.length_map, q2]
            have e21 : (((2 * j : Nat) : Int) + 1) = ((2 * j + 1 : Nat) : Int) := by omega
            have push : ∀ (H3 : Hp) (p : Addr) (xs : List Int), But [g] H2 H3 → SAt H3 st r g row (m + 12 + 72 * (12 - cs.length) + 12 * (j + 1)) → H3 p = some (.lst (xs.map V.int)) → H p = none → Off p st r g → p ≠ FF → (ds.flatten ++ xs).Perm (cs.take (2 * (j + 1))).flatten →
                rAppend (.ref FF) [.ref p] H3 (fun _ H4 => ∃ (fs : List Addr) (ds : List (List Int)) (u6 : Option V), ([some (.ref st), some (.ref a), some (.str wd), none, none, some (.ref LL), some (.int (2 * j : Nat)), some (.ref FF)] : L2.St) = [some (.ref st), some (.ref a), some (.str wd), none, none, some (.ref LL), u6, some (.ref FF)] ∧ But [g] H H4 ∧ SAt H4 st r g row (m + 12 + 72 * (12 - cs.length) + 12 * (j + 1)) ∧ LsAt H H4 st r g LL ls cs ∧ LsAt H H4 st r g FF fs ds ∧ ds.length = j + 1 ∧ ds.flatten.Perm (cs.take (2 * (j + 1))).flatten) := fun H3 p xs b3 s3 kp h0 op np perm => by
              have LB3 := LB.but b3 oFF.2.2
              have LA3 := LA.but b3 oLL.2.2
              refine ⟨FF, _, _, rfl, rfl, LB3.1, sz' (by rw [List.length_map, LB3.2.1]; omega), fs ++ [p], ds ++ [xs], _, rfl, (b2.trans b3).late hFF0, s3.put LB3.1 oFF, LA3.off nF1 nF2, LB3.push kp h0 op np, by rw [List.length_append, ld]; rfl, ?_⟩
              rw [List.flatten_append]
              simp only [List.flatten_cons, List.flatten_nil, List.append_nil]
              exact perm
            by_cases ck : 2 * j + 1 < cs.length
            · refine iteT' (decide_eq_true (by omega)) ?_
              obtain ⟨c2, hc2⟩ := get_at (l := cs) (i := 2 * j + 1) ck
              obtain ⟨l2, hl2⟩ := get_at (l := ls) (i := 2 * j + 1) (by omega)
              have kl2 := q5 _ l2 c2 hl2 hc2
              have hm2 := List.mem_of_getElem? hl2
              have et : cs.take (2 * (j + 1)) = cs.take (2 * j) ++ [c1, c2] := by
                rw [show 2 * (j + 1) = 2 * j + 1 + 1 by omega, take_more hc2, take_more hc1, List.append_assoc]
                rfl
              have sub : (c1 ++ c2).Sublist cs.flatten := by
                have z0 : cs.flatten = (cs.take (2 * (j + 1))).flatten ++ (cs.drop (2 * (j + 1))).flatten := by
                  rw [← List.flatten_append, List.take_append_drop]
                have z1 : (cs.take (2 * (j + 1))).flatten.Sublist cs.flatten := by
                  rw [z0]
                  exact List.sublist_append_left _ _
                rw [et, List.flatten_append] at z1
                simp only [List.flatten_cons, List.flatten_nil, List.append_nil] at z1
                exact (List.sublist_append_right _ _).trans z1
              refine ⟨_, rfl, _, rfl, _, rfl, LL, _, _, .ref l1, rfl, rfl, .inl (.inl q1), atI_nat (get_map hl1), _, rfl, _, rfl, _, _, rfl, rfl, LL, _, _, .ref l2, rfl, rfl, .inl (.inl q1), by rw [e21]; exact atI_nat (get_map hl2), ?_⟩
              refine ⟨st, r, g, l1, l2, row, c1, c2, _, rfl, s2, by omega, (q4 l1 hm1).2.2.2, (q4 l2 hm2).2.2.2, kl1, kl2, (hth.perm perm1).sub sub, fun H3 p xs b3 hp kp s3 perm => ?_⟩
              refine push H3 p xs b3 (s3.mono (by omega)) kp (s2.fresh b2 hp) (s2.off hp) (fun e => ?_) ?_
              · rw [e, LB.1] at hp
                cases hp
              · rw [et, List.flatten_append]
                simp only [List.flatten_cons, List.flatten_nil, List.append_nil]
                exact pd.append perm
            · refine iteF' (decide_eq_false (by omega)) ?_
              refine ⟨_, rfl, _, rfl, LL, _, _, .ref l1, rfl, rfl, .inl (.inl q1), atI_nat (get_map hl1), ?_⟩
              refine push H2 l1 c1 (But.refl _ _) (s2.mono (by omega)) kl1 (q4 l1 hm1).1 (q4 l1 hm1).2 nl1 ?_
              have et : cs.take (2 * (j + 1)) = cs.take (2 * j) ++ [c1] := by
                rw [← take_more hc1, List.take_of_length_le (by omega), List.take_of_length_le (by omega)]
              rw [et, List.flatten_append]
              simp only [List.flatten_cons, List.flatten_nil, List.append_nil]
              exact pd.append_right c1
          · obtain ⟨fs, ds, u6, rfl, b2, s2, LA, LB, ld, pd⟩ := p
            rw [List.take_of_length_le (by omega)] at pd
            exact ⟨_, rfl, (cs.length + 1) / 2, by omega, FF, fs, ds, _, _, rfl, ld.symm, by omega, b2, s2.mono (by omega), LB, oFF, hFF0, pd.trans perm1⟩
        · refine iteF' (decide_eq_false (by omega)) ?_
          refine ⟨_, rfl, sz (show 0 ≤ 16777216 by decide), fun e he => ?_⟩
          refine ⟨.list (cs.map fun c => PyData.list (c.map PyData.int)), .list [], .lst (.inl (.inl ((same_upd he) _ _ k1))) (dp_lists k2 fun i l c x y => (same_upd he) _ _ (k5 i l c x y)), .lst (.inl (.inl upd_same)) .nil, lists_shaped _, rfl, _, rfl, ?_⟩
          cases cs with
          | nil =>
            refine iteF' (by rfl) ?_
            have e0 : ts = [] := List.Perm.nil_eq perm1 |>.symm
            refine ⟨sz (show 0 ≤ 16777216 by decide), fun p hp => ?_⟩
            have b2 : But [g] H (upd (upd H1 e (.lst [])) p (.lst [])) := (b1.trans (But.fresh he)).trans (But.fresh hp)
            refine q _ p [] b2 ((s1.same (same_upd he)).fresh (b1.trans (But.fresh he)) hp) upd_same (((s1.same (same_upd he)).same (same_upd hp)).mono (by simp only [List.length_nil]; omega)) ?_
            rw [e0]
          | cons c cr =>
            refine iteT' (by rfl) ?_
            have er : cr = [] := by
              rw [List.length_cons] at cl
              exact List.length_eq_zero_iff.mp (by omega)
            subst er
            obtain ⟨l, hl'⟩ := get_at (l := ls) (i := 0) (by rw [k2]; exact Nat.zero_lt_succ _)
            refine ⟨_, rfl, LL, _, 0, .ref l, rfl, rfl, .inl (.inl ((same_upd he) _ _ k1)), atI_int (by decide) (get_map hl'), ?_⟩
            have pf : ([c] : List (List Int)).flatten = c := by simp
            rw [pf] at perm1
            exact q _ l c (b1.trans (But.fresh he)) (k4 l (List.mem_of_getElem? hl')).1 ((same_upd he) _ _ (k5 0 l c hl' rfl)) ((s1.same (same_upd he)).mono (by simp only [List.length_cons, List.length_nil]; omega)) perm1
theorem ok_w_merge (T : Txt K mg CS CE CT) : ∀ d, Ok P w K mg base CX0 (3 + d) "_law_merge" P_w_merge (spMerge d)
  | 0 => (ok_w_merge0 T).mono (by omega)
  | d + 1 => step_w_merge T d (ok_w_merge T d)
end
end K20
/-! K20N: _law_pivot, _law_part. -/
namespace K20
open PySem PySem.Spec PyProof.Rows L2
theorem atI_half {ts : List Int} {x : Int} (h : ts[ts.length / 2]? = some x) : atI (ts.map V.int) ((((ts.map V.int).length : Nat) : Int) / 2) = some (.int x) := by
  have e : (((ts.map V.int).length : Nat) : Int) / 2 = ((ts.length / 2 : Nat) : Int) := by
    rw [List.length_map]
    omega
  rw [e]
  exact atI_nat (get_map h)
theorem ixN_m1 {n : Nat} (h : 0 < n) : ixN n (-1) = some (n - 1) := by
  unfold ixN
  rw [if_neg (by decide), if_pos (by omega)]
  congr 1
  omega
section
variable {P : Program} {w : World} {K : PySem.W.Frag} {mg : Str → Option Value} {base : Heap} {CS CE CT : Addr}
/-! ### _law_pivot -/
def spPivot : Sp := fun vs H Q _ => ∃ (st r g a : Addr) (row ts : List Int) (m : Nat) (wd : Str), vs = [.ref st, .ref a, .str wd] ∧ SAt H st r g row m ∧ m < 795000 ∧ a ≠ g ∧ H a = some (.lst (ts.map V.int)) ∧ Th row ts ∧ ts ≠ [] ∧ PWord wd ∧
  ∀ H' x, But [g] H H' → SAt H' st r g row (m + 200) → x ∈ ts → Q (.int x) H'
theorem ok_w_pivot (T : Txt K mg CS CE CT) : Ok P w K mg base CX0 5 "_law_pivot" P_w_pivot spPivot := by
  refine T.d_w_pivot.ok0 sc_w_pivot (fun _ _ _ _ _ _ us hl => match us, hl with | [_, _, _], _ => rfl) (fun vs H Q E h => ?_) (fun f cdv A outer s H vs Q E hr h => ?_)
  · obtain ⟨_, _, _, _, _, _, _, _, rfl, _⟩ := h
    rfl
  · obtain ⟨st, r, g, a, row, ts, m, wd, rfl, hs, hm, hag, ha, hth, hne, hw, q⟩ := h
    have hu := hu_of hr
    have hl := hth.len hs.n12
    have hpos : 0 < ts.length := List.length_pos_iff.mpr hne
    obtain ⟨x0, hx0⟩ := get_at (l := ts) (i := 0) hpos
    obtain ⟨x1, hx1⟩ := get_at (l := ts) (i := ts.length / 2) (by omega)
    obtain ⟨x2, hx2⟩ := get_at (l := ts) (i := ts.length - 1) (by omega)
    have hx2' : (ts.map V.int).getLast? = some (.int x2) := by
      rw [List.getLast?_map, List.getLast?_eq_getElem?, hx2]
      rfl
    have m0 := flat_mem hx0
    have m1 := flat_mem hx1
    have m2 := flat_mem hx2
    refine ⟨_, (pss_cons (ps_if (PW.pt (pw_and (pt_cmpR op_eq (pv 2) pe_str (nomark _)) (pw_and1 (pt_cmpR op_ge (pe_callB call_len (by rfl) T.f_len (by decide +kernel) (pa_cons (pv 1) pa_nil)) pe_int (nomark _))))) (pss_one (ps_ret (pe_ix ix_list (pe_callO (ok_w_inserted T) (hr.mono (by decide)) pass0 (pa_cons (pv 0) (pa_cons (pe_lst (pa_cons (pe_ix ix_list (pv 1) pe_int (fun _ _ => rfl)) (pa_cons (pe_ix ix_list (pv 1) (pe_op op_fdiv (pe_callB call_len (by rfl) T.f_len (by decide +kernel) (pa_cons (pv 1) pa_nil)) pe_int) (fun _ _ => rfl)) (pa_cons (pe_ix ix_list (pv 1) (pe_un un_neg pe_int) (fun _ _ => rfl)) pa_nil)))) (pa_cons pe_str pa_nil)))) pe_int (fun _ _ => rfl)))) pss_nil)
  (pss_one (ps_ret (pe_dget hu (pe_disp (pps_cons pe_str (pe_ix ix_list (pv 1) pe_int (fun _ _ => rfl)) (pps_cons pe_str (pe_ix ix_list (pv 1) pe_int (fun _ _ => rfl)) (pps_cons pe_str (pe_ix ix_list (pv 1) (pe_un un_neg pe_int) (fun _ _ => rfl)) (pps_cons pe_str (pe_ix ix_list (pv 1) (pe_op op_fdiv (pe_callB call_len (by rfl) T.f_len (by decide +kernel) (pa_cons (pv 1) pa_nil)) pe_int) (fun _ _ => rfl)) pps_nil)))) (by rfl) (by rfl) (fun z => by cases z) (by decide)) (pv 2) (fun _ _ => rfl))))), ?_⟩
    have rest : ∀ H1, Same H H1 → SAt H1 st r g row m → tRet (tDGet (tDisp [(tC (.str "first"), tOp (rIxL K) (tVar 1) (tC (.int 0))), (tC (.str "three"), tOp (rIxL K) (tVar 1) (tC (.int 0))), (tC (.str "last"), tOp (rIxL K) (tVar 1) (tUn (rU fun i => .int (-i)) (tC (.int 1)))), (tC (.str "middle"), tOp (rIxL K) (tVar 1) (tOp (rI CDiv fun i j => .int (i / j)) (tCB (fun xs H Q => ∃ x n, xs = [x] ∧ LenV K x H n ∧ Q (.int (n : Nat)) H) (tCons (tVar 1) tNil)) (tC (.int 2))))]) (tVar 2)) { nx := fun _ H' => Q .non H', rt := Q } [some (.ref st), some (.ref a), some (.str wd)] H1 := fun H1 e1 s1 => by
      refine fun D hD => ?_
      have ka : (upd H1 D (.dK [])) a = some (.lst (ts.map V.int)) := (same_upd hD) _ _ (e1 _ _ ha)
      refine ⟨_, rfl, a, _, 0, _, rfl, rfl, .inl (.inl ka), atI_int (by decide) (get_map hx0), ?_⟩
      refine ⟨_, rfl, a, _, 0, _, rfl, rfl, .inl (.inl ka), atI_int (by decide) (get_map hx0), ?_⟩
      refine ⟨_, rfl, 1, rfl, a, _, _, _, rfl, rfl, .inl (.inl ka), atI_last hx2', ?_⟩
      refine ⟨_, rfl, _, rfl, _, _, rfl, .inl ⟨_, .inl (.inl ka), rfl⟩, _, 2, rfl, rfl, ⟨by decide, by decide⟩, a, _, _, _, rfl, rfl, .inl (.inl ka), atI_half hx1, ?_⟩
      refine ⟨upd_same, [(.inr "first", .int x0), (.inr "three", .int x0), (.inr "last", .int x2), (.inr "middle", .int x1)], rfl, by show 4 ≤ 15; decide, ?_⟩
      have s2 : SAt (upd (upd H1 D (.dK [])) D (.dK (mergeK [] [(.inr "first", .int x0), (.inr "three", .int x0), (.inr "last", .int x2), (.inr "middle", .int x1)]))) st r g row m := s1.same (same_mut (same_upd hD) hD)
      have e2 : Same H (upd (upd H1 D (.dK [])) D (.dK (mergeK [] [(.inr "first", .int x0), (.inr "three", .int x0), (.inr "last", .int x2), (.inr "middle", .int x1)]))) := e1.trans (same_mut (same_upd hD) hD)
      rcases hw with rfl | rfl | rfl | rfl
      · exact ⟨_, rfl, D, .int x0, rfl, .inl ⟨_, .inr "first", .inl upd_same, rfl, rfl⟩, q _ x0 (But.of e2) (s2.mono (by omega)) m0⟩
      · exact ⟨_, rfl, D, .int x2, rfl, .inl ⟨_, .inr "last", .inl upd_same, rfl, rfl⟩, q _ x2 (But.of e2) (s2.mono (by omega)) m2⟩
      · exact ⟨_, rfl, D, .int x1, rfl, .inl ⟨_, .inr "middle", .inl upd_same, rfl, rfl⟩, q _ x1 (But.of e2) (s2.mono (by omega)) m1⟩
      · exact ⟨_, rfl, D, .int x0, rfl, .inl ⟨_, .inr "three", .inl upd_same, rfl, rfl⟩, q _ x0 (But.of e2) (s2.mono (by omega)) m0⟩
    refine ⟨_, rfl, rfl, _, rfl, ?_⟩
    refine ite2 (fun _ => ?_) (fun _ => iteF' (by rfl) (rest H (Same.refl _) hs))
    refine ⟨_, rfl, _, _, rfl, .inl ⟨_, .inl (.inl ha), rfl⟩, _, _, rfl, rfl, _, rfl, ?_⟩
    rw [List.length_map]
    by_cases c3 : 3 ≤ ts.length
    · refine iteT' (decide_eq_true (by omega)) ?_
      refine ⟨_, rfl, _, rfl, a, _, 0, .int x0, rfl, rfl, .inl (.inl ha), atI_int (by decide) (get_map hx0), ?_⟩
      refine ⟨_, rfl, _, rfl, _, _, rfl, .inl ⟨_, .inl (.inl ha), rfl⟩, _, 2, rfl, rfl, ⟨by decide, by decide⟩, a, _, _, .int x1, rfl, rfl, .inl (.inl ha), atI_half hx1, ?_⟩
      refine ⟨_, rfl, 1, rfl, a, _, _, .int x2, rfl, rfl, .inl (.inl ha), atI_last hx2', sz (show 3 ≤ 16777216 by decide), fun L hL => ?_⟩
      obtain ⟨o1, o2, n01⟩ := hth.at hx0 hx1 (by omega)
      obtain ⟨_, o3, n02⟩ := hth.at hx0 hx2 (by omega)
      obtain ⟨_, _, n12⟩ := hth.at hx1 hx2 (by omega)
      have hth3 : Th row [x0, x1, x2] := by
        refine ⟨?_, fun t ht => ?_⟩
        · simp [n01, n02, n12]
        · simp only [List.mem_cons, List.mem_nil_iff, or_false] at ht
          rcases ht with rfl | rfl | rfl
          · exact o1
          · exact o2
          · exact o3
      refine ⟨st, r, g, L, row, [x0, x1, x2], m, "down", rfl, hs.same (same_upd hL), by omega, (hs.off hL).2.2, upd_same, hth3, fun H2 p us b2 hp kp s2 perm => ?_⟩
      obtain ⟨y, hy⟩ := get_at (l := us) (i := 1) (by rw [perm.length_eq]; show 1 < 3; decide)
      refine ⟨p, _, 1, .int y, rfl, rfl, .inl (.inl kp), atI_int (by decide) (get_map hy), q H2 y ((But.fresh hL).trans b2) s2 ?_⟩
      have hm3 := perm.mem_iff.mp (flat_mem hy)
      simp only [List.mem_cons, List.mem_nil_iff, or_false] at hm3
      rcases hm3 with rfl | rfl | rfl
      · exact m0
      · exact m1
      · exact m2
    · exact iteF' (decide_eq_false (by omega)) (rest H (Same.refl _) hs)
/-! ### _law_part -/
def spPart (d : Nat) : Sp := fun vs H Q _ => ∃ (st r g a : Addr) (row ts : List Int) (m : Nat) (wd : Str) (sm : Int), vs = [.ref st, .ref a, .str wd, .int sm] ∧ ts.length < d ∧ 1 ≤ sm ∧ PWord wd ∧ SAt H st r g row m ∧ m + (500 * ts.length + 200) < 790000 ∧ a ≠ g ∧ H a = some (.lst (ts.map V.int)) ∧ Th row ts ∧ OutL H st r g row (m + (500 * ts.length + 200)) (fun us => us.length ≤ ts.length) Q
theorem ok_w_part0 (T : Txt K mg CS CE CT) : Ok P w K mg base CX0 1 "_law_part" P_w_part (spPart 0) := by
  refine T.d_w_part.ok0 sc_w_part (fun _ _ _ _ _ _ us hl => match us, hl with | [_, _, _, _], _ => rfl) (fun vs H Q E h => ?_) (fun f cdv A outer s H vs Q E hr h => ?_)
  · obtain ⟨_, _, _, _, _, _, _, _, _, rfl, _⟩ := h
    rfl
  · obtain ⟨_, _, _, _, _, _, _, _, _, _, h, _⟩ := h
    exact absurd h (Nat.not_lt_zero _)
theorem sides_th {row ts as bs : List Int} {i : Nat} {p : Int → Bool} (h : Th row ts) (perm : (as ++ bs).Perm ((ts.take i).filter p)) : Th row as ∧ Th row bs := by
  have h1 : Th row (as ++ bs) := (h.sub ((List.filter_sublist).trans (List.take_sublist i ts))).perm perm
  exact ⟨h1.sub (List.sublist_append_left _ _), h1.sub (List.sublist_append_right _ _)⟩
theorem step_w_part (T : Txt K mg CS CE CT) (d : Nat) (IH : Ok P w K mg base CX0 (5 + d) "_law_part" P_w_part (spPart d)) : Ok P w K mg base CX0 (5 + d + 1) "_law_part" P_w_part (spPart (d + 1)) := by
  refine T.d_w_part.ok0 sc_w_part (fun _ _ _ _ _ _ us hl => match us, hl with | [_, _, _, _], _ => rfl) (fun vs H Q E h => ?_) (fun f cdv A outer s H vs Q E hr h => ?_)
  · obtain ⟨_, _, _, _, _, _, _, _, _, rfl, _⟩ := h
    rfl
  · obtain ⟨st, r, g, a, row, ts, m, wd, sm, rfl, hd, hsm, hw, hs, hm, hag, ha, hth, q⟩ := h
    have hl := hth.len hs.n12
    refine ⟨_, (pss_cons (ps_if (pt_cmpR op_le (pe_callB call_len (by rfl) T.f_len (by decide +kernel) (pa_cons (pv 1) pa_nil)) (pv 3) (nomark _)) (pss_one (ps_ret (pe_callO (ok_w_inserted T) (hr.mono (by omega)) pass0 (pa_cons (pv 0) (pa_cons (pv 1) (pa_cons pe_str pa_nil)))))) pss_nil)
  (pss_cons (ps_set (i := 4) sc_w_part.nd rfl (Or.inl rfl) (pe_callO (ok_w_pivot T) (hr.mono (by omega)) pass0 (pa_cons (pv 0) (pa_cons (pv 1) (pa_cons (pv 2) pa_nil)))))
  (pss_cons (ps_set (i := 5) sc_w_part.nd rfl (Or.inl rfl) (pe_lst (pa_cons (pe_lst pa_nil) (pa_cons (pe_lst pa_nil) pa_nil))))
  (pss_cons (ps_for PassesOwn.never rfl (pi_list (pv 1)) (pg_name (i := 6) sc_w_part.nd rfl (Or.inl rfl)) (pss_one (ps_if (pt_cmpR op_ne (pv 6) (pv 4) (nomark _)) (pss_one (ps_expr (pe_bm PySem.F.plainAttrs_list PySem.F.slot_list_append PySem.F.type_list_append mt_append (pe_ix ix_list (pv 5) (pe_ifExp (pt_val (pe_callO (ok_w_less T) (hr.mono (by omega)) pass0 (pa_cons (pv 0) (pa_cons (pv 6) (pa_cons (pv 4) pa_nil))))) pe_int pe_int) (fun _ _ => rfl)) (pa_cons (pv 6) pa_nil)))) pss_nil)))
  (pss_cons (ps_set (i := 7) sc_w_part.nd rfl (Or.inl rfl) (pe_callO (IH) (hr.mono (by omega)) pass0 (pa_cons (pv 0) (pa_cons (pe_ix ix_list (pv 5) pe_int (fun _ _ => rfl)) (pa_cons (pv 2) (pa_cons (pv 3) pa_nil))))))
  (pss_one (ps_ret (pe_op op_cat (pe_op op_cat (pv 7) (pe_lst (pa_cons (pv 4) pa_nil))) (pe_callO (IH) (hr.mono (by omega)) pass0 (pa_cons (pv 0) (pa_cons (pe_ix ix_list (pv 5) pe_int (fun _ _ => rfl)) (pa_cons (pv 2) (pa_cons (pv 3) pa_nil))))))))))))), ?_⟩
    refine ⟨_, rfl, _, _, rfl, .inl ⟨_, .inl (.inl ha), rfl⟩, _, rfl, _, sm, rfl, rfl, _, rfl, ?_⟩
    rw [List.length_map]
    by_cases c : ((ts.length : Nat) : Int) ≤ sm
    · refine iteT' (decide_eq_true c) ?_
      refine ⟨_, rfl, _, rfl, st, r, g, a, row, ts, m, "down", rfl, hs, by omega, hag, ha, hth, fun H2 p us b2 hp kp s2 perm => ?_⟩
      exact q H2 p us b2 hp kp (s2.mono (by omega)) (Nat.le_of_eq perm.length_eq)
    · refine iteF' (decide_eq_false c) ?_
      have hne : ts ≠ [] := fun z => by
        rw [z] at c
        simp at c
        omega
      refine ⟨_, rfl, _, rfl, _, rfl, st, r, g, a, row, ts, m, wd, rfl, hs, by omega, hag, ha, hth, hne, hw, fun H1 pv b1 s1 hpv => ?_⟩
      refine ⟨sz (show 0 ≤ 16777216 by decide), fun A hA => ⟨sz (show 0 ≤ 16777216 by decide), fun B hB => ⟨sz (show 2 ≤ 16777216 by decide), fun SS hSS => ?_⟩⟩⟩
      have e0 : Same H1 (upd (upd (upd H1 A (.lst [])) B (.lst [])) SS (.lst [.ref A, .ref B])) := ((same_upd hA).trans (same_upd hB)).trans (same_upd hSS)
      have kA : (upd (upd (upd H1 A (.lst [])) B (.lst [])) SS (.lst [.ref A, .ref B])) A = some (.lst []) := (same_upd hSS) _ _ ((same_upd hB) _ _ upd_same)
      have kB : (upd (upd (upd H1 A (.lst [])) B (.lst [])) SS (.lst [.ref A, .ref B])) B = some (.lst []) := (same_upd hSS) _ _ upd_same
      have kS : (upd (upd (upd H1 A (.lst [])) B (.lst [])) SS (.lst [.ref A, .ref B])) SS = some (.lst [.ref A, .ref B]) := upd_same
      have nAB : A ≠ B := fun z => by
        rw [← z, upd_same] at hB
        cases hB
      have nSA : SS ≠ A := fun z => by
        rw [z, (same_upd hB) _ _ upd_same] at hSS
        cases hSS
      have nSB : SS ≠ B := fun z => by
        rw [z, upd_same] at hSS
        cases hSS
      have oA := s1.off hA
      have hB1 := none_back (same_upd hA) hB
      have oB := s1.off hB1
      have oS := s1.off (none_back ((same_upd hA).trans (same_upd hB)) hSS)
      have hA0 := s1.fresh b1 hA
      have hB0 := s1.fresh b1 hB1
      show tSeq _ _ _ _ (upd (upd (upd H1 A (.lst [])) B (.lst [])) SS (.lst [.ref A, .ref B]))
      generalize upd (upd (upd H1 A (.lst [])) B (.lst [])) SS (.lst [.ref A, .ref B]) = H2 at *
      have b2 : But [g] H H2 := b1.trans (But.of e0)
      refine ⟨_, rfl, a, rfl, ⟨_, .inl (.inl (b2.get ha hag))⟩, ?_⟩
      refine for_list (xs := ts.map V.int) (fun i σ' H' => ∃ (as bs : List Int) (u6 u7 : Option V), σ' = [some (.ref st), some (.ref a), some (.str wd), some (.int sm), some (.int pv), some (.ref SS), u6, u7] ∧ But [g] H H' ∧ SAt H' st r g row (m + 200 + i) ∧ H' SS = some (.lst [.ref A, .ref B]) ∧ H' A = some (.lst (as.map V.int)) ∧ H' B = some (.lst (bs.map V.int)) ∧ (as ++ bs).Perm ((ts.take i).filter fun t => !decide (t = pv)))
        ⟨[], [], _, _, rfl, b2, s1.same e0, kS, kA, kB, List.Perm.refl _⟩ (fun i σ' H' hi p => ?_) (fun i xv σ' H' hi p => ?_) (fun σ' H' p => ?_)
      · obtain ⟨_, _, _, _, _, b, _⟩ := p
        exact .inl (.inl (b.get ha hag))
      · obtain ⟨as, bs, u6, u7, rfl, b3, s3, kS, kA, kB, perm⟩ := p
        obtain ⟨t, ht, rfl⟩ := map_get hi
        have hil := get_lt ht
        have etk : (ts.take (i + 1)).filter (fun t => !decide (t = pv)) = (ts.take i).filter (fun t => !decide (t = pv)) ++ (if t = pv then [] else [t]) := by
          rw [take_more ht, List.filter_append]
          congr 1
          by_cases e : t = pv
          · simp [e]
          · simp [e]
        refine ⟨_, rfl, _, rfl, rfl, _, rfl, ?_⟩
        by_cases e : t = pv
        · refine iteF' (by rw [decide_eq_true (by rw [e])]; rfl) ?_
          refine ⟨as, bs, _, _, rfl, b3, s3.mono (by omega), kS, kA, kB, ?_⟩
          rw [etk, if_pos e, List.append_nil]
          exact perm
        · refine iteT' (by rw [decide_eq_false (fun z => e (V.int.inj z))]; rfl) ?_
          rw [if_neg e] at etk
          have lab : as.length + bs.length ≤ 12 := by
            have z := perm.length_eq
            rw [List.length_append] at z
            have z2 := List.length_filter_le (fun t => !decide (t = pv)) (ts.take i)
            rw [List.length_take] at z2
            omega
          refine ⟨_, rfl, _, rfl, _, rfl, _, rfl, st, r, g, row, _, t, pv, rfl, s3, by omega, hth.lt t (flat_mem ht), hth.lt pv hpv, e, fun H4 bb b4 s4 => ⟨_, rfl, ?_⟩⟩
          have kS4 := b4.get kS oS.2.2
          have kA4 := b4.get kA oA.2.2
          have kB4 := b4.get kB oB.2.2
          cases bb with
          | true =>
            refine iteT ⟨SS, _, 0, .ref A, rfl, rfl, .inl (.inl kS4), rfl, .inl ⟨rfl, _, .inl (.inl kA4)⟩, _, rfl, A, _, _, rfl, rfl, kA4, sz' (by rw [List.length_map]; omega), ?_⟩
            refine ⟨as ++ [t], bs, _, _, rfl, (b3.trans b4).late hA0, (s4.put kA4 oA).mono (by omega), ?_, ?_, ?_, ?_⟩
            · rw [upd_ne nSA]
              exact kS4
            · rw [upd_same, List.map_append]
              rfl
            · rw [upd_ne nAB.symm]
              exact kB4
            · rw [etk]
              have p1 : (as ++ [t] ++ bs).Perm (as ++ bs ++ [t]) := by
                rw [List.append_assoc, List.append_assoc]
                exact List.Perm.append_left as List.perm_append_comm
              exact p1.trans (perm.append_right [t])
          | false =>
            refine iteF ⟨SS, _, 1, .ref B, rfl, rfl, .inl (.inl kS4), rfl, .inl ⟨rfl, _, .inl (.inl kB4)⟩, _, rfl, B, _, _, rfl, rfl, kB4, sz' (by rw [List.length_map]; omega), ?_⟩
            refine ⟨as, bs ++ [t], _, _, rfl, (b3.trans b4).late hB0, (s4.put kB4 oB).mono (by omega), ?_, ?_, ?_, ?_⟩
            · rw [upd_ne nSB]
              exact kS4
            · rw [upd_ne nAB]
              exact kA4
            · rw [upd_same, List.map_append]
              rfl
            · rw [etk, ← List.append_assoc]
              exact perm.append_right [t]
      · obtain ⟨as, bs, u6, u7, rfl, b3, s3, kS, kA, kB, perm⟩ := p
        rw [List.length_map] at s3 perm
        obtain ⟨thA, thB⟩ := sides_th hth perm
        have lab : as.length + bs.length < ts.length := by
          have z := perm.length_eq
          rw [List.length_append, List.take_length] at z
          have z2 : (ts.filter (fun t => !decide (t = pv))).length < ts.length := List.length_filter_lt_length_iff_exists.mpr ⟨pv, hpv, by simp⟩
          omega
        refine ⟨_, rfl, _, rfl, SS, _, 0, .ref A, rfl, rfl, .inl (.inl kS), rfl, _, rfl, _, rfl, st, r, g, A, row, as, _, wd, sm, rfl, by omega, hsm, hw, s3, by omega, oA.2.2, kA, thA, fun H4 p us b4 hp kp s4 lu => ?_⟩
        have np := (s3.off hp).2.2
        have kS4 := b4.get kS oS.2.2
        have kB4 := b4.get kB oB.2.2
        have b34 := b3.trans b4
        refine ⟨_, rfl, _, rfl, sz (show 1 ≤ 16777216 by decide), fun p1 h1 => ?_⟩
        refine ⟨p, p1, _, _, rfl, rfl, (same_upd h1) _ _ kp, upd_same, sz (by rw [List.length_map]; simp only [List.length_singleton]; omega), fun p2 h2 => ?_⟩
        have e5 : Same H4 (upd (upd H4 p1 (.lst [.int pv])) p2 (.lst (us.map V.int ++ [.int pv]))) := (same_upd h1).trans (same_upd h2)
        have k2 : (upd (upd H4 p1 (.lst [.int pv])) p2 (.lst (us.map V.int ++ [.int pv]))) p2 = some (.lst (us.map V.int ++ [.int pv])) := upd_same
        have n2 := (s4.off (none_back (same_upd h1) h2)).2.2
        generalize upd (upd H4 p1 (.lst [.int pv])) p2 (.lst (us.map V.int ++ [.int pv])) = H5 at *
        refine ⟨_, rfl, _, rfl, SS, _, 1, .ref B, rfl, rfl, .inl (.inl (e5 _ _ kS4)), rfl, _, rfl, _, rfl, st, r, g, B, row, bs, _, wd, sm, rfl, by omega, hsm, hw, s4.same e5, by omega, oB.2.2, e5 _ _ kB4, thB, fun H6 p3 us3 b6 hp3 kp3 s6 lu3 => ?_⟩
        refine ⟨p2, p3, _, _, rfl, rfl, b6.get k2 n2, kp3, sz (by rw [List.length_append, List.length_map, List.length_map, List.length_singleton]; omega), fun p4 h4 => ?_⟩
        refine q _ p4 (us ++ [pv] ++ us3) (((b34.trans (But.of e5)).trans b6).trans (But.fresh h4)) (s6.fresh ((b34.trans (But.of e5)).trans b6) h4) ?_ ((s6.same (same_upd h4)).mono (by omega)) ?_
        · rw [upd_same, List.map_append, List.map_append]
          rfl
        · show (us ++ [pv] ++ us3).length ≤ ts.length
          have lu : us.length ≤ as.length := lu
          have lu3 : us3.length ≤ bs.length := lu3
          rw [List.length_append, List.length_append, List.length_singleton]
          omega
theorem ok_w_part (T : Txt K mg CS CE CT) : ∀ d, Ok P w K mg base CX0 (5 + d) "_law_part" P_w_part (spPart d)
  | 0 => (ok_w_part0 T).mono (by omega)
  | d + 1 => step_w_part T d (ok_w_part T d)
end
end K20
/-! K20O: _law_swapped, _law_sunk, _law_heap. -/
namespace K20
open PySem PySem.Spec PyProof.Rows L2
theorem set_same {l : List Int} {i : Nat} {x : Int} (h : l[i]? = some x) : l.set i x = l := by
  apply List.ext_getElem?
  intro n
  by_cases c : i = n
  · subst c
    rw [List.getElem?_set_self (get_lt h), h]
  · rw [List.getElem?_set_ne c]
/-- a swap at two places other than the hole's -/
theorem swap_hole {us ts : List Int} {i j n : Nat} {x y pv : Int} (hi : us[i]? = some x) (hj : us[j]? = some y) (ni : i ≠ n) (nj : j ≠ n) (p : (us.set n pv).Perm ts) : (((us.set i y).set j x).set n pv).Perm ts := by
  rw [List.set_comm _ _ nj, List.set_comm _ _ ni]
  have h1 : (us.set n pv)[i]? = some x := by
    rw [List.getElem?_set_ne ni.symm]
    exact hi
  have h2 : (us.set n pv)[j]? = some y := by
    rw [List.getElem?_set_ne nj.symm]
    exact hj
  exact (swap_perm h1 h2).trans p
theorem take_set_eq {l : List Int} {k : Nat} {v : Int} : (l.set k v).take k = l.take k := by
  rw [List.take_set, List.set_eq_of_length_le (by rw [List.length_take]; omega)]
theorem drop_set_eq {l : List Int} {k : Nat} {v : Int} : (l.set k v).drop (k + 1) = l.drop (k + 1) := by
  rw [List.drop_set, if_pos (by omega)]
section
variable {P : Program} {w : World} {K : PySem.W.Frag} {mg : Str → Option Value} {base : Heap} {CS CE CT : Addr}
/-! ### _law_swapped -/
def spSwapped (d : Nat) : Sp := fun vs H Q _ => ∃ (st r g a : Addr) (row ts : List Int) (m : Nat) (wd : Str), vs = [.ref st, .ref a, .str wd] ∧ ts.length < d ∧ PWord wd ∧ SAt H st r g row m ∧ m + (500 * ts.length + 200) < 790000 ∧ a ≠ g ∧ H a = some (.lst (ts.map V.int)) ∧ Th row ts ∧ OutL H st r g row (m + (500 * ts.length + 200)) (fun us => us.length ≤ ts.length) Q
theorem ok_w_swapped0 (T : Txt K mg CS CE CT) : Ok P w K mg base CX0 1 "_law_swapped" P_w_swapped (spSwapped 0) := by
  refine T.d_w_swapped.ok0 sc_w_swapped (fun _ _ _ _ _ _ us hl => match us, hl with | [_, _, _], _ => rfl) (fun vs H Q E h => ?_) (fun f cdv A outer s H vs Q E hr h => ?_)
  · obtain ⟨_, _, _, _, _, _, _, _, rfl, _⟩ := h
    rfl
  · obtain ⟨_, _, _, _, _, _, _, _, _, h, _⟩ := h
    exact absurd h (Nat.not_lt_zero _)
theorem step_w_swapped (T : Txt K mg CS CE CT) (d : Nat) (IH : Ok P w K mg base CX0 (5 + d) "_law_swapped" P_w_swapped (spSwapped d)) : Ok P w K mg base CX0 (5 + d + 1) "_law_swapped" P_w_swapped (spSwapped (d + 1)) := by
  refine T.d_w_swapped.ok0 sc_w_swapped (fun _ _ _ _ _ _ us hl => match us, hl with | [_, _, _], _ => rfl) (fun vs H Q E h => ?_) (fun f cdv A outer s H vs Q E hr h => ?_)
  · obtain ⟨_, _, _, _, _, _, _, _, rfl, _⟩ := h
    rfl
  · obtain ⟨st, r, g, a, row, ts, m, wd, rfl, hd, hw, hs, hm, hag, ha, hth, q⟩ := h
    have hl := hth.len hs.n12
    refine ⟨_, (pss_cons (ps_if (pt_cmpR op_lt (pe_callB call_len (by rfl) T.f_len (by decide +kernel) (pa_cons (pv 1) pa_nil)) pe_int (nomark _)) (pss_one (ps_ret (pe_callTy call_list_of (by rfl) T.f_list (by decide +kernel) (pa_cons (pv 1) pa_nil)))) pss_nil)
  (pss_cons (ps_set (i := 3) sc_w_swapped.nd rfl (Or.inl rfl) (pe_callTy call_list_of (by rfl) T.f_list (by decide +kernel) (pa_cons (pv 1) pa_nil)))
  (pss_cons (ps_set (i := 4) sc_w_swapped.nd rfl (Or.inl rfl) (pe_bm PySem.F.plainAttrs_list PySem.F.slot_list_index PySem.F.type_list_index mt_index (pv 3) (pa_cons (pe_callO (ok_w_pivot T) (hr.mono (by omega)) pass0 (pa_cons (pv 0) (pa_cons (pv 3) (pa_cons (pv 2) pa_nil)))) pa_nil)))
  (pss_cons (ps_set (i := 5) sc_w_swapped.nd rfl (Or.inl rfl) (pe_ix ix_list (pv 3) (pv 4) (fun _ _ => rfl)))
  (pss_cons (ps_asg (pe_ix ix_list (pv 3) (pe_un un_neg pe_int) (fun _ _ => rfl)) (pg_sub (pv 3) (pv 4) set_list))
  (pss_cons (ps_set (i := 6) sc_w_swapped.nd rfl (Or.inl rfl) pe_int)
  (pss_cons (ps_for PassesOwn.never rfl (pi_range1 (by rfl) T.f_range (pa_cons (pe_op op_sub (pe_callB call_len (by rfl) T.f_len (by decide +kernel) (pa_cons (pv 3) pa_nil)) pe_int) pa_nil)) (pg_name (i := 7) sc_w_swapped.nd rfl (Or.inl rfl)) (pss_one (ps_if (pt_val (pe_callO (ok_w_less T) (hr.mono (by omega)) pass0 (pa_cons (pv 0) (pa_cons (pe_ix ix_list (pv 3) (pv 7) (fun _ _ => rfl)) (pa_cons (pv 5) pa_nil))))) (pss_cons (ps_set (i := 8) sc_w_swapped.nd rfl (Or.inl rfl) (pe_ix ix_list (pv 3) (pv 7) (fun _ _ => rfl)))
  (pss_cons (ps_asg (pe_ix ix_list (pv 3) (pv 6) (fun _ _ => rfl)) (pg_sub (pv 3) (pv 7) set_list))
  (pss_cons (ps_asg (pv 8) (pg_sub (pv 3) (pv 6) set_list))
  (pss_one (ps_set (i := 6) sc_w_swapped.nd rfl (Or.inl rfl) (pe_op op_add (pv 6) pe_int)))))) pss_nil)))
  (pss_cons (ps_asg (pe_ix ix_list (pv 3) (pv 6) (fun _ _ => rfl)) (pg_sub (pv 3) (pe_un un_neg pe_int) set_list))
  (pss_cons (ps_set (i := 9) sc_w_swapped.nd rfl (Or.inl rfl) (pe_callO (IH) (hr.mono (by omega)) pass0 (pa_cons (pv 0) (pa_cons (pe_slice sl_list (pv 3) po_none (po_some (pv 6))) (pa_cons (pv 2) pa_nil)))))
  (pss_one (ps_ret (pe_op op_cat (pe_op op_cat (pv 9) (pe_lst (pa_cons (pv 5) pa_nil))) (pe_callO (IH) (hr.mono (by omega)) pass0 (pa_cons (pv 0) (pa_cons (pe_slice sl_list (pv 3) (po_some (pe_op op_add (pv 6) pe_int)) po_none) (pa_cons (pv 2) pa_nil)))))))))))))))), ?_⟩
    refine ⟨_, rfl, _, _, rfl, .inl ⟨_, .inl (.inl ha), rfl⟩, _, _, rfl, rfl, _, rfl, ?_⟩
    rw [List.length_map]
    by_cases c : ts.length < 2
    · refine iteT' (decide_eq_true (by omega)) ?_
      refine ⟨_, rfl, a, _, rfl, .inl (.inl (.inl ha)), fun p hp => ?_⟩
      exact q _ p ts (But.fresh hp) hp upd_same ((hs.same (same_upd hp)).mono (by omega)) (Nat.le_refl _)
    · refine iteF' (decide_eq_false (by omega)) ?_
      refine ⟨_, rfl, a, _, rfl, .inl (.inl (.inl ha)), fun F hF => ?_⟩
      have oF := hs.off hF
      have s0 := hs.same (same_upd (o := .lst (ts.map V.int)) hF)
      have b0 : But [g] H (upd H F (.lst (ts.map V.int))) := But.fresh hF
      have kF0 : (upd H F (.lst (ts.map V.int))) F = some (.lst (ts.map V.int)) := upd_same
      show tSeq _ _ _ _ (upd H F (.lst (ts.map V.int)))
      generalize upd H F (.lst (ts.map V.int)) = H1 at *
      have hne : ts ≠ [] := fun z => by
        rw [z] at c
        exact c (by decide)
      refine ⟨_, rfl, .inl ⟨rfl, _, .inl (.inl kF0)⟩, _, rfl, _, rfl, _, rfl, st, r, g, F, row, ts, m, wd, rfl, s0, by omega, oF.2.2, kF0, hth, hne, hw, fun H2 pv b1 s1 hpv => ?_⟩
      have kF := b1.get kF0 oF.2.2
      obtain ⟨j, hj⟩ := List.getElem?_of_mem hpv
      have hjl := get_lt hj
      refine ⟨F, _, .int pv, j, .int pv, rfl, rfl, .inl (.inl kF), rfl, flat_ints _, get_map hj, by show (pv == pv) = true; simp, fun m' z' hm' hz' => ?_, ?_⟩
      · obtain ⟨y, hy, rfl⟩ := map_get hz'
        show (y == pv) = false
        refine beq_eq_false_iff_ne.mpr fun e => ?_
        have := nd_get hth.nd hy (by rw [e]; exact hj)
        omega
      have b2 : But [g] H H2 := b0.trans b1
      refine ⟨_, rfl, _, rfl, F, _, _, .int pv, rfl, rfl, .inl (.inl kF), atI_nat (get_map hj), ?_⟩
      obtain ⟨y, hy⟩ := get_at (l := ts) (i := ts.length - 1) (by omega)
      refine ⟨_, rfl, 1, rfl, F, _, _, .int y, rfl, rfl, .inl (.inl kF), atI_last (by rw [List.getLast?_map, List.getLast?_eq_getElem?, hy]; rfl), ?_⟩
      refine ⟨_, rfl, _, rfl, F, _, j, j, rfl, rfl, kF, ixN_int (by omega) (by rw [List.length_map]; omega), ?_⟩
      rw [← List.map_set]
      have s2 := s1.put (ys := (ts.set j y).map V.int) kF oF
      have b3 : But [g] H (upd H2 F (.lst ((ts.set j y).map V.int))) := b2.late hF
      have kF3 : (upd H2 F (.lst ((ts.set j y).map V.int))) F = some (.lst ((ts.set j y).map V.int)) := upd_same
      generalize upd H2 F (.lst ((ts.set j y).map V.int)) = H3 at *
      have perm0 : ((ts.set j y).set (ts.length - 1) pv).Perm ts := swap_perm hj hy
      have len0 : (ts.set j y).length = ts.length := List.length_set
      refine ⟨_, rfl, _, _, rfl, .inl ⟨_, .inl (.inl kF3), rfl⟩, _, 1, rfl, rfl, _, rfl, ?_, ?_, ?_⟩
      · rw [List.length_map, len0]
        omega
      · rw [List.length_map, len0]
        omega
      rw [List.length_map, len0]
      have en : (((ts.length : Nat) : Int) - 1).toNat = ts.length - 1 := by omega
      rw [en]
      refine for_range (n := ts.length - 1) (fun k σ' H4 => ∃ (us : List Int) (low : Nat) (u7 u8 : Option V), σ' = [some (.ref st), some (.ref a), some (.str wd), some (.ref F), some (.int j), some (.int pv), some (.int low), u7, u8, none] ∧ low ≤ k ∧ us.length = ts.length ∧ But [g] H H4 ∧ SAt H4 st r g row (m + 200 + k) ∧ H4 F = some (.lst (us.map V.int)) ∧ (us.set (ts.length - 1) pv).Perm ts)
        ⟨ts.set j y, 0, none, none, rfl, Nat.le_refl _, len0, b3, s2, kF3, perm0⟩ (fun k σ' H4 hk p => ?_) (fun σ' H4 p => ?_)
      · obtain ⟨us, low, u7, u8, rfl, hlow, lus, b4, s4, kF4, perm4⟩ := p
        have ez : (0 : Int) + (k : Nat) = ((k : Nat) : Int) := Int.zero_add _
        obtain ⟨x, hx⟩ := get_at (l := us) (i := k) (by omega)
        obtain ⟨z, hz⟩ := get_at (l := us) (i := low) (by omega)
        have nk : k ≠ ts.length - 1 := by omega
        have hth4 := hth.perm perm4
        obtain ⟨o1, o2, o3⟩ := hth4.at (i := k) (j := ts.length - 1) (by rw [List.getElem?_set_ne nk.symm]; exact hx) (List.getElem?_set_self (by omega)) nk
        rw [ez]
        refine ⟨_, rfl, _, rfl, _, rfl, F, _, _, .int x, rfl, rfl, .inl (.inl kF4), atI_nat (get_map hx), _, rfl, st, r, g, row, _, x, pv, rfl, s4, by omega, o1, o2, o3, fun H5 bb b5 s5 => ⟨_, rfl, ?_⟩⟩
        have kF5 := b5.get kF4 oF.2.2
        refine ite2 (fun _ => ?_) (fun _ => ⟨us, low, _, _, rfl, by omega, lus, b4.trans b5, s5, kF5, perm4⟩)
        refine ⟨_, rfl, _, rfl, F, _, _, .int x, rfl, rfl, .inl (.inl kF5), atI_nat (get_map hx), ?_⟩
        refine ⟨_, rfl, _, rfl, F, _, _, .int z, rfl, rfl, .inl (.inl kF5), atI_nat (get_map hz), ?_⟩
        refine ⟨_, rfl, _, rfl, F, _, k, k, rfl, rfl, kF5, ixN_int (by omega) (by rw [List.length_map]; omega), ?_⟩
        refine ⟨_, rfl, _, rfl, _, rfl, F, _, low, low, rfl, rfl, upd_same, ixN_int (by omega) (by rw [List.length_set, List.length_map]; omega), ?_⟩
        refine ⟨_, rfl, low, 1, rfl, rfl, (us.set k z).set low x, low + 1, _, _, rfl, by omega, by rw [List.length_set, List.length_set]; exact lus, ((b4.trans b5).late hF).late hF, ((s5.put kF5 oF).put upd_same oF), ?_, swap_hole hx hz nk (by omega) perm4⟩
        rw [upd_same, List.map_set, List.map_set]
      · obtain ⟨us, low, u7, u8, rfl, hlow, lus, b4, s4, kF4, perm4⟩ := p
        obtain ⟨z, hz⟩ := get_at (l := us) (i := low) (by omega)
        refine ⟨_, rfl, _, rfl, F, _, _, .int z, rfl, rfl, .inl (.inl kF4), atI_nat (get_map hz), ?_⟩
        refine ⟨_, rfl, 1, rfl, F, _, -1, ts.length - 1, rfl, rfl, kF4, by rw [List.length_map, lus]; exact ixN_m1 (by omega), ?_⟩
        rw [← List.map_set]
        have permL : ((us.set (ts.length - 1) z).set low pv).Perm ts := by
          by_cases e : low = ts.length - 1
          · rw [← e, List.set_set]
            rw [← e] at perm4
            exact perm4
          · exact hole_move (by omega) (fun z => e z.symm) hz perm4
        have s5 := s4.put (ys := (us.set (ts.length - 1) z).map V.int) kF4 oF
        have b5 : But [g] H (upd H4 F (.lst ((us.set (ts.length - 1) z).map V.int))) := b4.late hF
        have kF5 : (upd H4 F (.lst ((us.set (ts.length - 1) z).map V.int))) F = some (.lst ((us.set (ts.length - 1) z).map V.int)) := upd_same
        generalize upd H4 F (.lst ((us.set (ts.length - 1) z).map V.int)) = H5 at *
        have lu2 : (us.set (ts.length - 1) z).length = ts.length := by rw [List.length_set]; exact lus
        generalize us.set (ts.length - 1) z = vs at *
        have hthL := hth.perm permL
        have th1 : Th row (vs.take low) := by
          rw [← take_set_eq (v := pv)]
          exact hthL.sub (List.take_sublist _ _)
        have th2 : Th row (vs.drop (low + 1)) := by
          rw [← drop_set_eq (v := pv)]
          exact hthL.sub (List.drop_sublist _ _)
        have l1 : (vs.take low).length = low := by rw [List.length_take]; omega
        have l2 : (vs.drop (low + 1)).length = ts.length - (low + 1) := by rw [List.length_drop, lu2]
        refine ⟨_, rfl, _, rfl, _, rfl, low, rfl, F, _, rfl, .inl (.inl kF5), fun p1 h1 => ⟨_, rfl, ?_⟩⟩
        rw [cutV_hd]
        have k1 : (upd H5 p1 (.lst ((vs.map V.int).take low))) p1 = some (.lst ((vs.take low).map V.int)) := by
          rw [upd_same, List.map_take]
        refine ⟨st, r, g, p1, row, vs.take low, _, wd, rfl, by omega, hw, s5.same (same_upd h1), by omega, (s5.off h1).2.2, k1, th1, fun H6 p2 us2 b6 hp2 kp2 s6 lus2 => ?_⟩
        have lus2 : us2.length ≤ (vs.take low).length := lus2
        have b56 : But [g] H H6 := (b5.trans (But.fresh h1)).trans b6
        have n2 := ((s5.same (same_upd (o := .lst ((vs.map V.int).take low)) h1)).off hp2).2.2
        have kF6 := b6.get ((same_upd (o := .lst ((vs.map V.int).take low)) h1) _ _ kF5) oF.2.2
        refine ⟨_, rfl, _, rfl, sz (show 1 ≤ 16777216 by decide), fun p3 h3 => ?_⟩
        refine ⟨p2, p3, _, _, rfl, rfl, (same_upd h3) _ _ kp2, upd_same, sz (by rw [List.length_map]; simp only [List.length_singleton]; omega), fun p4 h4 => ?_⟩
        have e7 : Same H6 (upd (upd H6 p3 (.lst [.int pv])) p4 (.lst (us2.map V.int ++ [.int pv]))) := (same_upd h3).trans (same_upd h4)
        have k4 : (upd (upd H6 p3 (.lst [.int pv])) p4 (.lst (us2.map V.int ++ [.int pv]))) p4 = some (.lst (us2.map V.int ++ [.int pv])) := upd_same
        have n4 := (s6.off (none_back (same_upd h3) h4)).2.2
        generalize upd (upd H6 p3 (.lst [.int pv])) p4 (.lst (us2.map V.int ++ [.int pv])) = H7 at *
        have el : ((low : Int) + 1) = ((low + 1 : Nat) : Int) := by omega
        refine ⟨_, rfl, _, rfl, _, rfl, low, 1, rfl, rfl, _, rfl, F, _, rfl, .inl (.inl (e7 _ _ kF6)), fun p5 h5 => ⟨_, rfl, ?_⟩⟩
        rw [el, cutV_tl]
        have k5 : (upd H7 p5 (.lst ((vs.map V.int).drop (low + 1)))) p5 = some (.lst ((vs.drop (low + 1)).map V.int)) := by
          rw [upd_same, List.map_drop]
        have s7 := s6.same e7
        have k4' := (same_upd (o := .lst ((vs.map V.int).drop (low + 1))) h5) _ _ k4
        refine ⟨st, r, g, p5, row, vs.drop (low + 1), _, wd, rfl, by omega, hw, s7.same (same_upd h5), by omega, (s7.off h5).2.2, k5, th2, fun H8 p6 us3 b8 hp6 kp6 s8 lus3 => ?_⟩
        have lus3 : us3.length ≤ (vs.drop (low + 1)).length := lus3
        refine ⟨p4, p6, _, _, rfl, rfl, b8.get k4' n4, kp6, sz (by rw [List.length_append, List.length_map, List.length_map, List.length_singleton]; omega), fun p7 h7 => ?_⟩
        have b9 : But [g] H H8 := ((b56.trans (But.of e7)).trans (But.fresh h5)).trans b8
        refine q _ p7 (us2 ++ [pv] ++ us3) (b9.trans (But.fresh h7)) (s8.fresh b9 h7) ?_ ((s8.same (same_upd h7)).mono (by omega)) ?_
        · rw [upd_same, List.map_append, List.map_append]
          rfl
        · show (us2 ++ [pv] ++ us3).length ≤ ts.length
          rw [List.length_append, List.length_append, List.length_singleton]
          omega
theorem ok_w_swapped (T : Txt K mg CS CE CT) : ∀ d, Ok P w K mg base CX0 (5 + d) "_law_swapped" P_w_swapped (spSwapped d)
  | 0 => (ok_w_swapped0 T).mono (by omega)
  | d + 1 => step_w_swapped T d (ok_w_swapped T d)
/-! ### _law_sunk -/
theorem But.drop2 {H H1 H2 : Hp} {g a : Addr} (b : But [g] H H1) (b2 : But [g, a] H1 H2) (ha : H a = none) : But [g] H H2 := fun x o z hx => by
  refine b2 _ _ (b _ _ z hx) (fun z2 => ?_)
  rcases List.mem_cons.mp z2 with e | e
  · exact hx (by rw [e]; exact List.mem_cons_self)
  · rw [List.mem_singleton.mp e, ha] at z
    cases z
def spSunk (d : Nat) : Sp := fun vs H Q _ => ∃ (st r g a : Addr) (row us : List Int) (m root many : Nat), vs = [.ref st, .ref a, .int root, .int many] ∧ many = us.length ∧ many - root < d ∧ root ≤ many ∧ SAt H st r g row m ∧ m + 2 * d < 795000 ∧ Off a st r g ∧ H a = some (.lst (us.map V.int)) ∧ Th row us ∧
  ∀ H' (us' : List Int), But [g, a] H H' → H' a = some (.lst (us'.map V.int)) → us'.Perm us → SAt H' st r g row (m + 2 * d) → Q .non H'
theorem ok_w_sunk0 (T : Txt K mg CS CE CT) : Ok P w K mg base CX0 1 "_law_sunk" P_w_sunk (spSunk 0) := by
  refine T.d_w_sunk.ok0 sc_w_sunk (fun _ _ _ _ _ _ us hl => match us, hl with | [_, _, _, _], _ => rfl) (fun vs H Q E h => ?_) (fun f cdv A outer s H vs Q E hr h => ?_)
  · obtain ⟨_, _, _, _, _, _, _, _, _, rfl, _⟩ := h
    rfl
  · obtain ⟨_, _, _, _, _, _, _, _, _, _, _, h, _⟩ := h
    exact absurd h (Nat.not_lt_zero _)
theorem step_w_sunk (T : Txt K mg CS CE CT) (d : Nat) (IH : Ok P w K mg base CX0 (2 + d) "_law_sunk" P_w_sunk (spSunk d)) : Ok P w K mg base CX0 (2 + d + 1) "_law_sunk" P_w_sunk (spSunk (d + 1)) := by
  refine T.d_w_sunk.ok0 sc_w_sunk (fun _ _ _ _ _ _ us hl => match us, hl with | [_, _, _, _], _ => rfl) (fun vs H Q E h => ?_) (fun f cdv A outer s H vs Q E hr h => ?_)
  · obtain ⟨_, _, _, _, _, _, _, _, _, rfl, _⟩ := h
    rfl
  · obtain ⟨st, r, g, a, row, us, m, root, many, rfl, hmany, hd, hrm, hs, hm, ho, ha, hth, q⟩ := h
    have hl := hth.len hs.n12
    have mono : ∀ {H1 H2 : Hp}, But [g] H1 H2 → But [g, a] H1 H2 := fun b => b.mono (by simp)
    refine ⟨_, (pss_cons (ps_set (i := 4) sc_w_sunk.nd rfl (Or.inl rfl) (pe_op op_add (pe_op op_mul pe_int (pv 2)) pe_int))
  (pss_one (ps_if (pt_cmpR op_lt (pv 4) (pv 3) (nomark _)) (Evl.pss_cut (ps_if (PW.pt (pw_and (pt_cmpR op_lt (pe_op op_add (pv 4) pe_int) (pv 3) (nomark _)) (pw_and1 (pt_val (pe_callO (ok_w_less T) (hr.mono (by omega)) pass0 (pa_cons (pv 0) (pa_cons (pe_ix ix_list (pv 1) (pv 4) (fun _ _ => rfl)) (pa_cons (pe_ix ix_list (pv 1) (pe_op op_add (pv 4) pe_int) (fun _ _ => rfl)) pa_nil)))))))) (pss_one (ps_set (i := 4) sc_w_sunk.nd rfl (Or.inl rfl) (pe_op op_add (pv 4) pe_int))) pss_nil)
  (pss_one (ps_if (pt_val (pe_callO (ok_w_less T) (hr.mono (by omega)) pass0 (pa_cons (pv 0) (pa_cons (pe_ix ix_list (pv 1) (pv 2) (fun _ _ => rfl)) (pa_cons (pe_ix ix_list (pv 1) (pv 4) (fun _ _ => rfl)) pa_nil))))) (pss_cons (ps_set (i := 5) sc_w_sunk.nd rfl (Or.inl rfl) (pe_ix ix_list (pv 1) (pv 2) (fun _ _ => rfl)))
  (pss_cons (ps_asg (pe_ix ix_list (pv 1) (pv 4) (fun _ _ => rfl)) (pg_sub (pv 1) (pv 2) set_list))
  (pss_cons (ps_asg (pv 5) (pg_sub (pv 1) (pv 4) set_list))
  (pss_one (ps_expr (pe_callO (IH) (hr.mono (by omega)) pass0 (pa_cons (pv 0) (pa_cons (pv 1) (pa_cons (pv 4) (pa_cons (pv 3) pa_nil)))))))))) pss_nil))) pss_nil))), ?_⟩
    refine ⟨_, rfl, 2, root, rfl, rfl, .inl ⟨by decide, by decide⟩, _, 1, rfl, rfl, ?_⟩
    have ec : (2 * (root : Int) + 1) = ((2 * root + 1 : Nat) : Int) := by omega
    refine ⟨_, rfl, _, rfl, _, many, rfl, rfl, _, rfl, ?_⟩
    by_cases c : 2 * (root : Int) + 1 < many
    · refine iteT' (decide_eq_true c) ?_
      refine ⟨fun σ' H' => ∃ ch : Nat, σ' = [some (.ref st), some (.ref a), some (.int root), some (.int many), some (.int ch), none] ∧ root < ch ∧ ch < many ∧ But [g] H H' ∧ SAt H' st r g row (m + 1), ?_, fun σ' H' p => ?_⟩
      · refine ⟨_, rfl, _, 1, rfl, rfl, _, rfl, _, many, rfl, rfl, _, rfl, ?_⟩
        by_cases c2 : 2 * (root : Int) + 1 + 1 < many
        · refine iteT' (decide_eq_true c2) ?_
          have ec2 : (2 * (root : Int) + 1 + 1) = ((2 * root + 2 : Nat) : Int) := by omega
          obtain ⟨x, hx⟩ := get_at (l := us) (i := 2 * root + 1) (by omega)
          obtain ⟨y, hy⟩ := get_at (l := us) (i := 2 * root + 2) (by omega)
          obtain ⟨o1, o2, o3⟩ := hth.at hx hy (by omega)
          refine ⟨_, rfl, _, rfl, _, rfl, a, _, 2 * (root : Int) + 1, .int x, rfl, rfl, .inl (.inl ha), by rw [ec]; exact atI_nat (get_map hx), _, rfl, _, rfl, _, 1, rfl, rfl, a, _, 2 * (root : Int) + 1 + 1, .int y, rfl, rfl, .inl (.inl ha), by rw [ec2]; exact atI_nat (get_map hy), st, r, g, row, m, x, y, rfl, hs, by omega, o1, o2, o3, fun H1 bb b1 s1 => ⟨_, rfl, ?_⟩⟩
          refine ite2 (fun _ => ?_) (fun _ => ?_)
          · refine ⟨_, rfl, _, 1, rfl, rfl, 2 * root + 2, ?_, by omega, by omega, b1, s1⟩
            show [some (V.ref st), some (.ref a), some (.int root), some (.int many), some (.int (2 * (root : Int) + 1 + 1)), none] = _
            rw [ec2]
          · refine ⟨2 * root + 1, ?_, by omega, by omega, b1, s1⟩
            show [some (V.ref st), some (.ref a), some (.int root), some (.int many), some (.int (2 * (root : Int) + 1)), none] = _
            rw [ec]
        · refine iteF' (decide_eq_false c2) ?_
          refine iteF' (by rfl) ?_
          refine ⟨2 * root + 1, ?_, by omega, by omega, But.refl _ _, hs.mono (by omega)⟩
          show [some (V.ref st), some (.ref a), some (.int root), some (.int many), some (.int (2 * (root : Int) + 1)), none] = _
          rw [ec]
      · obtain ⟨ch, rfl, k1, k2, b1, s1⟩ := p
        obtain ⟨x, hx⟩ := get_at (l := us) (i := root) (by omega)
        obtain ⟨y, hy⟩ := get_at (l := us) (i := ch) (by omega)
        obtain ⟨o1, o2, o3⟩ := hth.at hx hy (by omega)
        have ha1 := b1.get ha ho.2.2
        refine ⟨_, rfl, _, rfl, _, rfl, a, _, _, .int x, rfl, rfl, .inl (.inl ha1), atI_nat (get_map hx), _, rfl, _, rfl, a, _, _, .int y, rfl, rfl, .inl (.inl ha1), atI_nat (get_map hy), st, r, g, row, _, x, y, rfl, s1, by omega, o1, o2, o3, fun H2 bb b2 s2 => ⟨_, rfl, ?_⟩⟩
        have ha2 := b2.get ha1 ho.2.2
        refine ite2 (fun _ => ?_) (fun _ => ?_)
        · refine ⟨_, rfl, _, rfl, a, _, _, .int x, rfl, rfl, .inl (.inl ha2), atI_nat (get_map hx), ?_⟩
          refine ⟨_, rfl, _, rfl, a, _, _, .int y, rfl, rfl, .inl (.inl ha2), atI_nat (get_map hy), ?_⟩
          refine ⟨_, rfl, _, rfl, a, _, root, root, rfl, rfl, ha2, ixN_int (by omega) (by rw [List.length_map]; omega), ?_⟩
          refine ⟨_, rfl, _, rfl, _, rfl, a, _, ch, ch, rfl, rfl, upd_same, ixN_int (by omega) (by rw [List.length_set, List.length_map]; omega), ?_⟩
          have perm : ((us.set root y).set ch x).Perm us := swap_perm hx hy
          refine ⟨_, rfl, _, rfl, _, rfl, _, rfl, st, r, g, a, row, (us.set root y).set ch x, _, ch, many, rfl, by rw [List.length_set, List.length_set]; exact hmany, by omega, by omega, (s2.put ha2 ho).put upd_same ho, by omega, ho, ?_, hth.perm perm, fun H3 us3 b3 k3 perm3 s3 => ?_⟩
          · rw [upd_same, List.map_set, List.map_set]
          · refine q H3 us3 ((((mono b1).trans (mono b2)).trans ((But.at (by simp)).trans (But.at (by simp)))).trans b3) k3 (perm3.trans perm) (s3.mono (by omega))
        · exact q H2 us ((mono b1).trans (mono b2)) ha2 (List.Perm.refl _) (s2.mono (by omega))
    · refine iteF' (decide_eq_false c) ?_
      exact q H us (But.refl _ _) ha (List.Perm.refl _) (hs.mono (by omega))
theorem ok_w_sunk (T : Txt K mg CS CE CT) : ∀ d, Ok P w K mg base CX0 (2 + d) "_law_sunk" P_w_sunk (spSunk d)
  | 0 => (ok_w_sunk0 T).mono (by omega)
  | d + 1 => step_w_sunk T d (ok_w_sunk T d)
/-! ### _law_heap -/
def spHeap : Sp := fun vs H Q _ => ∃ (st r g a : Addr) (row ts : List Int) (m : Nat), vs = [.ref st, .ref a] ∧ SAt H st r g row m ∧ m < 700000 ∧ a ≠ g ∧ H a = some (.lst (ts.map V.int)) ∧ Th row ts ∧ OutL H st r g row (m + 2000) (fun _ => True) Q
theorem ok_w_heap (T : Txt K mg CS CE CT) : Ok P w K mg base CX0 17 "_law_heap" P_w_heap spHeap := by
  refine T.d_w_heap.ok0 sc_w_heap (fun _ _ _ _ _ _ us hl => match us, hl with | [_, _], _ => rfl) (fun vs H Q E h => ?_) (fun f cdv A outer s H vs Q E hr h => ?_)
  · obtain ⟨_, _, _, _, _, _, _, rfl, _⟩ := h
    rfl
  · obtain ⟨st, r, g, a, row, ts, m, rfl, hs, hm, hag, ha, hth, q⟩ := h
    have hl := hth.len hs.n12
    refine ⟨_, (pss_cons (ps_par (i := 2) (j := 3) (by rfl) sc_w_heap.nd rfl rfl (by decide) rfl rfl (pa_cons (pe_callTy call_list_of (by rfl) T.f_list (by decide +kernel) (pa_cons (pv 1) pa_nil)) (pa_cons (pe_lst pa_nil) pa_nil)) (by rfl))
  (pss_cons (ps_for PassesOwn.never rfl (pi_range1 (by rfl) T.f_range (pa_cons (pe_op op_fdiv (pe_callB call_len (by rfl) T.f_len (by decide +kernel) (pa_cons (pv 2) pa_nil)) pe_int) pa_nil)) (pg_name (i := 4) sc_w_heap.nd rfl (Or.inl rfl)) (pss_one (ps_expr (pe_callO (ok_w_sunk T 14) (hr.mono (by decide)) pass0 (pa_cons (pv 0) (pa_cons (pv 2) (pa_cons (pe_op op_sub (pe_op op_sub (pe_op op_fdiv (pe_callB call_len (by rfl) T.f_len (by decide +kernel) (pa_cons (pv 2) pa_nil)) pe_int) pe_int) (pv 4)) (pa_cons (pe_callB call_len (by rfl) T.f_len (by decide +kernel) (pa_cons (pv 2) pa_nil)) pa_nil))))))))
  (pss_cons (ps_while PassesOwn.never (pt_cmpR op_gt (pe_callB call_len (by rfl) T.f_len (by decide +kernel) (pa_cons (pv 2) pa_nil)) pe_int (nomark _)) (pss_cons (ps_set (i := 3) sc_w_heap.nd rfl (Or.inl rfl) (pe_op op_cat (pe_lst (pa_cons (pe_ix ix_list (pv 2) pe_int (fun _ _ => rfl)) pa_nil)) (pv 3)))
  (pss_cons (ps_set (i := 2) sc_w_heap.nd rfl (Or.inl rfl) (pe_op op_cat (pe_lst (pa_cons (pe_ix ix_list (pv 2) (pe_un un_neg pe_int) (fun _ _ => rfl)) pa_nil)) (pe_slice sl_list (pv 2) (po_some pe_int) (po_some (pe_un un_neg pe_int)))))
  (pss_one (ps_expr (pe_callO (ok_w_sunk T 14) (hr.mono (by decide)) pass0 (pa_cons (pv 0) (pa_cons (pv 2) (pa_cons pe_int (pa_cons (pe_callB call_len (by rfl) T.f_len (by decide +kernel) (pa_cons (pv 2) pa_nil)) pa_nil))))))))))
  (pss_one (ps_ret (pe_op op_cat (pv 2) (pv 3))))))), ?_⟩
    refine ⟨_, rfl, a, _, rfl, .inl (.inl (.inl ha)), fun F hF => ⟨sz (show 0 ≤ 16777216 by decide), fun T0 hT => ⟨_, _, rfl, ?_⟩⟩⟩
    have oF := hs.off hF
    have hT0 := none_back (same_upd hF) hT
    have oT := hs.off hT0
    have nTF : T0 ≠ F := fun z => by
      rw [z, upd_same] at hT
      cases hT
    have e0 : Same H (upd (upd H F (.lst (ts.map V.int))) T0 (.lst [])) := (same_upd hF).trans (same_upd hT)
    have kF : (upd (upd H F (.lst (ts.map V.int))) T0 (.lst [])) F = some (.lst (ts.map V.int)) := (same_upd hT) _ _ upd_same
    have kT : (upd (upd H F (.lst (ts.map V.int))) T0 (.lst [])) T0 = some (.lst []) := upd_same
    generalize upd (upd H F (.lst (ts.map V.int))) T0 (.lst []) = H1 at *
    refine ⟨_, rfl, _, _, rfl, .inl ⟨_, .inl (.inl kF), rfl⟩, _, 2, rfl, rfl, ⟨by decide, by decide⟩, _, rfl, ?_, ?_, ?_⟩
    · rw [List.length_map]
      omega
    · rw [List.length_map]
      omega
    rw [List.length_map]
    have en : ((((ts.length : Nat) : Int)) / 2).toNat = ts.length / 2 := by omega
    rw [en]
    refine for_range (n := ts.length / 2) (fun k σ' H' => ∃ (us : List Int) (u4 : Option V), σ' = [some (.ref st), some (.ref a), some (.ref F), some (.ref T0), u4] ∧ But [g] H H' ∧ SAt H' st r g row (m + 28 * k) ∧ H' F = some (.lst (us.map V.int)) ∧ us.Perm ts ∧ H' T0 = some (.lst []))
      ⟨ts, none, rfl, But.of e0, hs.same e0, kF, List.Perm.refl _, kT⟩ (fun k σ' H' hk p => ?_) (fun σ' H' p => ?_)
    · obtain ⟨us, u4, rfl, b1, s1, kF, perm, kT⟩ := p
      have lus := perm.length_eq
      refine ⟨_, rfl, _, rfl, _, rfl, _, _, rfl, .inl ⟨_, .inl (.inl kF), rfl⟩, _, 2, rfl, rfl, ⟨by decide, by decide⟩, _, 1, rfl, rfl, _, rfl, _, _, rfl, rfl, _, rfl, _, _, rfl, .inl ⟨_, .inl (.inl kF), rfl⟩, ?_⟩
      rw [List.length_map]
      refine ⟨st, r, g, F, row, us, _, ts.length / 2 - 1 - k, us.length, ?_, rfl, by omega, by omega, s1, by omega, oF, kF, hth.perm perm, fun H2 us2 b2 k2 perm2 s2 => ?_⟩
      · show [V.ref st, .ref F, .int (((us.length : Nat) : Int) / 2 - 1 - (0 + (k : Nat))), .int (us.length : Nat)] = _
        have ez : ((us.length : Nat) : Int) / 2 - 1 - (0 + (k : Nat)) = ((ts.length / 2 - 1 - k : Nat) : Int) := by omega
        rw [ez]
      · refine ⟨us2, _, rfl, b1.drop2 b2 hF, s2.mono (by omega), k2, perm2.trans perm, b2 _ _ kT (fun z => ?_)⟩
        rcases List.mem_cons.mp z with z | z
        · exact oT.2.2 z
        · exact nTF (List.mem_singleton.mp z)
    · obtain ⟨us, u4, rfl, b1, s1, kF, perm, kT⟩ := p
      have lus := perm.length_eq
      refine ⟨fun k σ' H2 => ∃ (F T0 : Addr) (us tp : List Int) (u4 : Option V), σ' = [some (.ref st), some (.ref a), some (.ref F), some (.ref T0), u4] ∧ k = us.length ∧ us.length + tp.length = ts.length ∧ But [g] H H2 ∧ SAt H2 st r g row (m + 400 + 40 * (12 - us.length)) ∧ Off F st r g ∧ H2 F = some (.lst (us.map V.int)) ∧ Th row us ∧ T0 ≠ g ∧ T0 ≠ F ∧ H2 T0 = some (.lst (tp.map V.int)),
        ⟨_, F, T0, us, [], u4, rfl, rfl, lus, b1, s1.mono (by omega), oF, kF, hth.perm perm, oT.2.2, nTF, kT⟩, fun k σ' H2 p => ?_⟩
      clear kF kT s1 b1 perm lus oF oT nTF e0 hF hT hT0
      obtain ⟨F, T0, us, tp, u4, rfl, rfl, lut, b1, s1, oF, kF, thu, nT, nTF, kT⟩ := p
      refine ⟨_, rfl, _, _, rfl, .inl ⟨_, .inl (.inl kF), rfl⟩, _, _, rfl, rfl, _, rfl, ?_⟩
      rw [List.length_map]
      by_cases c : 1 < us.length
      · refine iteT' (decide_eq_true (by omega)) ?_
        refine ⟨fun σ' H' => ∃ m', m' < us.length ∧ _, fun _ _ h => h, ?_⟩
        obtain ⟨x, hx⟩ := get_at (l := us) (i := 0) (by omega)
        obtain ⟨y, hy⟩ := get_at (l := us) (i := us.length - 1) (by omega)
        have hy' : us.getLast? = some y := by
          rw [List.getLast?_eq_getElem?]
          exact hy
        refine ⟨_, rfl, F, _, 0, .int x, rfl, rfl, .inl (.inl kF), atI_int (by decide) (get_map hx), sz (show 1 ≤ 16777216 by decide), fun p1 h1 => ?_⟩
        refine ⟨_, rfl, p1, T0, _, _, rfl, rfl, upd_same, (same_upd h1) _ _ kT, sz (by rw [List.length_map]; simp only [List.length_singleton]; omega), fun p2 h2 => ?_⟩
        have e3 : Same H2 (upd (upd H2 p1 (.lst [.int x])) p2 (.lst ([.int x] ++ tp.map V.int))) := (same_upd h1).trans (same_upd h2)
        have kT3 : (upd (upd H2 p1 (.lst [.int x])) p2 (.lst ([.int x] ++ tp.map V.int))) p2 = some (.lst ((x :: tp).map V.int)) := upd_same
        have hp2 := none_back (same_upd h1) h2
        have o2 := s1.off hp2
        have kF3 := e3 _ _ kF
        generalize upd (upd H2 p1 (.lst [.int x])) p2 (.lst ([.int x] ++ tp.map V.int)) = H3 at *
        refine ⟨_, rfl, 1, rfl, F, _, _, .int y, rfl, rfl, .inl (.inl kF3), atI_last (by rw [List.getLast?_map, hy']; rfl), sz (show 1 ≤ 16777216 by decide), fun p3 h3 => ?_⟩
        refine ⟨_, rfl, 1, rfl, 1, rfl, _, rfl, F, _, rfl, .inl (.inl ((same_upd h3) _ _ kF3)), fun p4 h4 => ?_⟩
        rw [cutV_mid]
        refine ⟨p3, p4, _, _, rfl, rfl, (same_upd h4) _ _ upd_same, upd_same, sz (by simp only [List.length_singleton, List.length_dropLast, List.length_drop, List.length_map]; omega), fun p5 h5 => ?_⟩
        have ek : ([V.int y] ++ ((us.map V.int).drop 1).dropLast) = (y :: (us.drop 1).dropLast).map V.int := by
          rw [← List.map_drop, ← List.map_dropLast]
          rfl
        rw [ek]
        have e6 : Same H3 (upd (upd (upd H3 p3 (.lst [.int y])) p4 (.lst ((us.map V.int).drop 1).dropLast)) p5 (.lst ((y :: (us.drop 1).dropLast).map V.int))) := ((same_upd h3).trans (same_upd h4)).trans (same_upd h5)
        have kF6 : (upd (upd (upd H3 p3 (.lst [.int y])) p4 (.lst ((us.map V.int).drop 1).dropLast)) p5 (.lst ((y :: (us.drop 1).dropLast).map V.int))) p5 = some (.lst ((y :: (us.drop 1).dropLast).map V.int)) := upd_same
        have hp5 := none_back ((same_upd h3).trans (same_upd h4)) h5
        have o5 := (s1.same e3).off hp5
        have n52 : p5 ≠ p2 := fun z => by
          rw [z, kT3] at hp5
          cases hp5
        generalize upd (upd (upd H3 p3 (.lst [.int y])) p4 (.lst ((us.map V.int).drop 1).dropLast)) p5 (.lst ((y :: (us.drop 1).dropLast).map V.int)) = H6 at *
        have lw : (y :: (us.drop 1).dropLast).length = us.length - 1 := by
          rw [List.length_cons, List.length_dropLast, List.length_drop]
          omega
        have thw : Th row (y :: (us.drop 1).dropLast) := by
          have hd : (us.drop 1).getLast? = some y := by
            rw [List.getLast?_drop, if_neg (by omega)]
            exact hy'
          obtain ⟨zs, hz⟩ := List.getLast?_eq_some_iff.mp hd
          have t1 : Th row (us.drop 1) := thu.sub (List.drop_sublist _ _)
          rw [hz] at t1 ⊢
          rw [List.dropLast_concat]
          exact t1.perm (List.perm_append_comm (l₁ := [y]))
        generalize y :: (us.drop 1).dropLast = ws at *
        have s6 := (s1.same e3).same e6
        refine ⟨_, rfl, _, rfl, _, rfl, _, _, rfl, .inl ⟨_, .inl (.inl kF6), rfl⟩, ?_⟩
        rw [List.length_map]
        refine ⟨st, r, g, p5, row, ws, _, 0, ws.length, rfl, rfl, by omega, by omega, s6, by omega, o5, kF6, thw, fun H7 us7 b7 k7 perm7 s7 => ?_⟩
        have l7 := perm7.length_eq
        have b6 : But [g] H2 H6 := But.of (e3.trans e6)
        refine ⟨us7.length, by omega, p5, p2, us7, x :: tp, _, rfl, rfl, by rw [List.length_cons]; omega, b1.trans (b6.drop2 b7 ?_), s7.mono (by omega), o5, k7, thw.perm perm7, o2.2.2, n52.symm, b7 _ _ (e6 _ _ kT3) (fun z => ?_)⟩
        · exact none_back e3 hp5
        · rcases List.mem_cons.mp z with z | z
          · exact o2.2.2 z
          · exact n52.symm (List.mem_singleton.mp z)
      · refine iteF' (decide_eq_false (by omega)) ?_
        refine ⟨_, rfl, _, rfl, F, T0, _, _, rfl, rfl, kF, kT, sz (by rw [List.length_map, List.length_map]; omega), fun p hp => ?_⟩
        refine q _ p (us ++ tp) (b1.trans (But.fresh hp)) (s1.fresh b1 hp) ?_ ((s1.same (same_upd hp)).mono (by omega)) trivial
        rw [upd_same, List.map_append]
end
end K20
/-! K20P: _law_tree, _law_ranks. -/
namespace K20
open PySem PySem.Spec PyProof.Rows L2
theorem SAt.putN {H : Hp} {st r g D : Addr} {row : List Int} {m : Nat} {o : HO} (h : SAt H st r g row m) (hD : ∀ xs, H D ≠ some (.tup xs)) (ho : Off D st r g) : SAt (upd H D o) st r g row m := by
  obtain ⟨sp, h0⟩ := h.stt
  obtain ⟨log, ⟨ts, h1, h2, h3⟩, g2, g3⟩ := h.gg
  refine ⟨h.n12, ⟨sp, ?_⟩, ?_, ⟨log, ⟨ts, ?_, h2, fun i t q a b => ?_⟩, g2, g3⟩, h.sg, h.rg⟩
  · rw [upd_ne ho.1.symm]
    exact h0
  · rw [upd_ne ho.2.1.symm]
    exact h.rr
  · rw [upd_ne ho.2.2.symm]
    exact h1
  · have z := h3 i t q a b
    rw [upd_ne (fun e => by rw [e] at z; exact hD _ z)]
    exact z
theorem SAt.gl {H : Hp} {st r g : Addr} {row : List Int} {m : Nat} (h : SAt H st r g row m) : ∃ xs, H g = some (.lst xs) := by
  obtain ⟨log, ⟨ts, h1, _⟩, _⟩ := h.gg
  exact ⟨_, h1⟩
theorem SAt.gt {H : Hp} {st r g t : Addr} {row : List Int} {m : Nat} {xs : List V} (h : SAt H st r g row m) (ht : H t = some (.tup xs)) : t ≠ g := fun e => by
  obtain ⟨ys, hy⟩ := h.gl
  rw [e, hy] at ht
  cases ht
theorem atE_some {es : List DEnt} {k : DKey} {v : V} (h : atE es k = some v) : ∃ e ∈ es, e.1 = k ∧ e.2.2 = v := by
  unfold atE at h
  cases hf : es.find? (fun e => decide (e.1 = k)) with
  | none =>
    rw [hf] at h
    cases h
  | some e =>
    rw [hf] at h
    have h1 := List.find?_some hf
    exact ⟨e, List.mem_of_find?_eq_some hf, of_decide_eq_true h1, Option.some.inj h⟩
theorem KTup.same {H H' : Hp} {es : List DEnt} (h : KTup H es) (e : Same H H') : KTup H' es := fun x hx => e _ _ (h x hx)
theorem KTup.but {H H' : Hp} {es : List DEnt} {st r g : Addr} {row : List Int} {m : Nat} (h : KTup H es) (s : SAt H st r g row m) (b : But [g] H H') : KTup H' es := fun x hx => b.get (h x hx) (s.gt (h x hx))
/-- the tree's entries: from a thing to a later one -/
def EsOk (ts : List Int) (i : Nat) (es : List DEnt) : Prop := ∀ e ∈ es, ∃ (k t : Nat) (y : Int), ts[k]? = some e.1.1 ∧ e.2.2 = .int y ∧ ts[t]? = some y ∧ k < t ∧ t < i
section
variable {P : Program} {w : World} {K : PySem.W.Frag} {mg : Str → Option Value} {base : Heap} {CS CE CT : Addr}
theorem kdo_tup {P : Program} {w : World} {d : Addr} {es : List DEnt} {xs : List V} (h : some (KDo P w d es) = some (HO.tup xs)) : False := by
  unfold KDo at h
  cases h
theorem kdo_lst {P : Program} {w : World} {d : Addr} {es : List DEnt} {xs : List V} (h : some (KDo P w d es) = some (HO.lst xs)) : False := by
  unfold KDo at h
  cases h
/-! ### _law_tree -/
theorem ok_w_tree (T : Txt K mg CS CE CT) : Ok P w K mg base CX0 3 "_law_tree" P_w_tree spHeap := by
  refine T.d_w_tree.ok0 sc_w_tree (fun _ _ _ _ _ _ us hl => match us, hl with | [_, _], _ => rfl) (fun vs H Q E h => ?_) (fun f cdv A outer s H vs Q E hr h => ?_)
  · obtain ⟨_, _, _, _, _, _, _, rfl, _⟩ := h
    rfl
  · obtain ⟨st, r, g, a, row, ts, m, rfl, hs, hm, hag, ha, hth, q⟩ := h
    have hu := hu_of hr
    have hl := hth.len hs.n12
    refine ⟨_, (pss_cons (ps_par (i := 2) (j := 3) (by rfl) sc_w_tree.nd rfl rfl (by decide) rfl rfl (pa_cons (pe_lst pa_nil) (pa_cons pe_knew pa_nil)) (by rfl))
  (pss_cons (ps_for PassesOwn.never rfl (pi_list (pv 1)) (pg_name (i := 4) sc_w_tree.nd rfl (Or.inl rfl)) (pss_cons (ps_asg (pe_tup (pa_cons pe_non (pa_cons pe_non pa_nil))) (pg_tup rfl (pgs_cons (pg_name (i := 5) sc_w_tree.nd rfl (Or.inl rfl)) (pgs_cons (pg_name (i := 6) sc_w_tree.nd rfl (Or.inl rfl)) pgs_nil))))
  (pss_cons (ps_set (i := 7) sc_w_tree.nd rfl (Or.inl rfl) (pe_ifExp (pt_cmpR op_ne (pv 4) (pe_ix ix_list (pv 1) pe_int (fun _ _ => rfl)) (nomark _)) (pe_ix ix_list (pv 1) pe_int (fun _ _ => rfl)) pe_non))
  (pss_cons (ps_while PassesOwn.never (pt_cmpR op_notN (pv 7) pe_non (nomark _)) (pss_cons (ps_par (i := 5) (j := 6) (by rfl) sc_w_tree.nd rfl rfl (by decide) rfl rfl (pa_cons (pv 7) (pa_cons (pe_callO (ok_w_less T) (hr.mono (by decide)) pass0 (pa_cons (pv 0) (pa_cons (pv 4) (pa_cons (pv 7) pa_nil)))) pa_nil)) (by rfl))
  (pss_one (ps_set (i := 7) sc_w_tree.nd rfl (Or.inl rfl) (pe_kget hu (pv 3) (pe_tup (pa_cons (pv 5) (pa_cons (pv 6) pa_nil))))))))
  (pss_one (ps_if (pt_cmpR op_isN (pv 5) pe_non (nomark _)) (pss_one (ps_set (i := 2) sc_w_tree.nd rfl (Or.inl rfl) (pe_lst (pa_cons (pv 4) pa_nil)))) (pss_cons (ps_kput hu (pv 3) (pe_tup (pa_cons (pv 5) (pa_cons (pv 6) pa_nil))) (pv 4) rfl)
  (pss_cons (ps_set (i := 8) sc_w_tree.nd rfl (Or.inl rfl) (pe_bm PySem.F.plainAttrs_list PySem.F.slot_list_index PySem.F.type_list_index mt_index (pv 2) (pa_cons (pv 5) pa_nil)))
  (pss_one (ps_set (i := 2) sc_w_tree.nd rfl (Or.inl rfl) (pe_ifExp (pt_val (pv 6)) (pe_op op_cat (pe_op op_cat (pe_slice sl_list (pv 2) po_none (po_some (pv 8))) (pe_lst (pa_cons (pv 4) pa_nil))) (pe_slice sl_list (pv 2) (po_some (pv 8)) po_none)) (pe_op op_cat (pe_op op_cat (pe_slice sl_list (pv 2) po_none (po_some (pe_op op_add (pv 8) pe_int))) (pe_lst (pa_cons (pv 4) pa_nil))) (pe_slice sl_list (pv 2) (po_some (pe_op op_add (pv 8) pe_int)) po_none)))))))))))))
  (pss_one (ps_ret (pv 2))))), ?_⟩
    refine ⟨sz (show 0 ≤ 16777216 by decide), fun F0 hF0 => fun D hD => ⟨_, _, rfl, ?_⟩⟩
    have hD0 := none_back (same_upd hF0) hD
    have oD := hs.off hD0
    have nF0 := (hs.off hF0).2.2
    have e0 : Same H (upd (upd H F0 (.lst [])) D (KDo P w D [])) := (same_upd hF0).trans (same_upd hD)
    have kF0 : (upd (upd H F0 (.lst [])) D (KDo P w D [])) F0 = some (.lst []) := (same_upd hD) _ _ upd_same
    have kD0 : (upd (upd H F0 (.lst [])) D (KDo P w D [])) D = some (KDo P w D []) := upd_same
    show tSeq _ _ _ _ (upd (upd H F0 (.lst [])) D (KDo P w D []))
    generalize upd (upd H F0 (.lst [])) D (KDo P w D []) = H1 at *
    refine ⟨_, rfl, a, rfl, ⟨_, .inl (.inl (e0 _ _ ha))⟩, ?_⟩
    refine for_list (xs := ts.map V.int) (fun i σ' H' => ∃ (F : Addr) (us : List Int) (es : List DEnt) (u4 u5 u6 u7 u8 : Option V), σ' = [some (.ref st), some (.ref a), some (.ref F), some (.ref D), u4, u5, u6, u7, u8] ∧ But [g] H H' ∧ SAt H' st r g row (m + 13 * i) ∧ H F = none ∧ F ≠ g ∧ H' F = some (.lst (us.map V.int)) ∧ us.Perm (ts.take i) ∧ H' D = some (KDo P w D es) ∧ KTup H' es ∧ es.length ≤ i ∧ EsOk ts i es)
      ⟨F0, [], [], none, none, none, none, none, rfl, But.of e0, hs.same e0, hF0, nF0, kF0, List.Perm.refl _, kD0, fun e he => (nomatch he), Nat.le_refl _, fun e he => (nomatch he)⟩ (fun i σ' H' hi p => ?_) (fun i xv σ' H' hi p => ?_) (fun σ' H' p => ?_)
    · obtain ⟨_, _, _, _, _, _, _, _, _, b, _⟩ := p
      exact .inl (.inl (b.get ha hag))
    · obtain ⟨F, us, es, u4, u5, u6, u7, u8, rfl, b1, s1, hF, nF, kF, perm, kD, kt, les, eo⟩ := p
      obtain ⟨t, ht, rfl⟩ := map_get hi
      have hil := get_lt ht
      have ka := b1.get ha hag
      obtain ⟨x0, hx0⟩ := get_at (l := ts) (i := 0) (by omega)
      have nFD : F ≠ D := fun z => by
        rw [z, kD] at kF
        exact kdo_lst kF
      refine ⟨sz (show 2 ≤ 16777216 by decide), fun pn hpn => ⟨_, _, rfl, .inl (.inl upd_same), rfl, _, _, rfl, _, _, rfl, rfl, ?_⟩⟩
      have en := same_upd (o := .tup [.non, .non]) hpn
      have b1 : But [g] H (upd H' pn (.tup [.non, .non])) := b1.trans (But.of en)
      have s1 := s1.same en
      have kF := en _ _ kF
      have kD := en _ _ kD
      have ka := en _ _ ka
      have kt := kt.same en
      clear en
      dsimp only [tSeq, tAsg]
      refine tIf_same (!decide (t = x0)) (if t = x0 then .non else .int x0) (fun Qt qt => ?_) (fun c Q' q' => ?_) (fun c Q' q' => ?_) ?_
      · refine ⟨_, rfl, _, rfl, a, _, 0, .int x0, rfl, rfl, .inl (.inl ka), atI_int (by decide) (get_map hx0), rfl, _, rfl, ?_⟩
        have ed : decide (V.int t = V.int x0) = decide (t = x0) := by
          by_cases h : t = x0
          · rw [h, decide_eq_true rfl, decide_eq_true rfl]
          · rw [decide_eq_false h, decide_eq_false fun z => h (V.int.inj z)]
        rw [ed]
        exact qt
      · have h : ¬ t = x0 := fun e => by
          rw [decide_eq_true e] at c
          cases c
        rw [if_neg h] at q'
        exact ⟨_, rfl, a, _, 0, .int x0, rfl, rfl, .inl (.inl ka), atI_int (by decide) (get_map hx0), q'⟩
      · have h : t = x0 := by
          by_cases e : t = x0
          · exact e
          · rw [decide_eq_false e] at c
            cases c
        rw [if_pos h] at q'
        exact q'
      refine ⟨fun k σ' H2 => ∃ (here side after : V) (u8 : Option V), σ' = [some (.ref st), some (.ref a), some (.ref F), some (.ref D), some (.int t), some here, some side, some after, u8] ∧ But [g] (upd H' pn (.tup [.non, .non])) H2 ∧ SAt H2 st r g row (m + 13 * i + (12 - k)) ∧ k ≤ 12 ∧ H2 F = some (.lst (us.map V.int)) ∧ H2 D = some (KDo P w D es) ∧ KTup H2 es ∧
          ((∃ (j : Nat) (y : Int), ts[j]? = some y ∧ j < i ∧ k = i - j ∧ after = .int y) ∨ (after = .non ∧ k = 0 ∧ ((here = .non ∧ i = 0) ∨ ∃ (j : Nat) (y : Int) (bb : Bool), ts[j]? = some y ∧ j < i ∧ here = .int y ∧ side = .bl bb ∧ atE es (y, bb) = none))),
        ?_, fun k σ' H2 p => ?_⟩
      · by_cases e : t = x0
        · have ei : i = 0 := nd_get hth.nd ht (by rw [e]; exact hx0)
          refine ⟨0, .non, .non, .non, u8, ?_, But.refl _ _, s1.mono (by omega), by omega, kF, kD, kt, .inr ⟨rfl, rfl, .inl ⟨rfl, ei⟩⟩⟩
          rw [if_pos e]
          rfl
        · have ei : i ≠ 0 := fun z => by
            rw [z, hx0] at ht
            exact e (Option.some.inj ht).symm
          refine ⟨i, .non, .non, .int x0, u8, ?_, But.refl _ _, s1.mono (by omega), by omega, kF, kD, kt, .inl ⟨0, x0, hx0, by omega, by omega, rfl⟩⟩
          rw [if_neg e]
          rfl
      · obtain ⟨here, side, after, u8', rfl, b2, s2, hk, kF2, kD2, kt2, hcase⟩ := p
        refine ⟨_, rfl, rfl, _, rfl, ?_⟩
        rcases hcase with ⟨j, y, hy, hji, rfl, rfl⟩ | ⟨rfl, rfl, hend⟩
        · refine iteT' (by rfl) ?_
          refine ⟨fun σ' H' => ∃ m', m' < i - j ∧ _, fun _ _ h => h, ?_⟩
          obtain ⟨o1, o2, o3⟩ := hth.at ht hy (by omega)
          refine ⟨_, rfl, _, rfl, _, rfl, _, rfl, st, r, g, row, _, t, y, rfl, s2, by omega, o1, o2, o3, fun H3 bb b3 s3 => ⟨_, _, rfl, ?_⟩⟩
          have kF3 := b3.get kF2 nF
          have kD3 := b3.get kD2 oD.2.2
          have kt3 := kt2.but s2 b3
          refine ⟨_, rfl, D, rfl, ⟨es, kD3⟩, _, rfl, _, rfl, sz (show 2 ≤ 16777216 by decide), fun p hp => ⟨es, (y, bb), p, rfl, (same_upd hp) _ _ kD3, kt3.same (same_upd hp), upd_same, ?_⟩⟩
          have b4 : But [g] (upd H' pn (.tup [.non, .non])) (upd H3 p (.tup [.int y, .bl bb])) := (b2.trans b3).trans (But.fresh hp)
          have s4 := s3.same (same_upd (o := .tup [.int y, .bl bb]) hp)
          cases hat : atE es (y, bb) with
          | none => exact ⟨0, by omega, .int y, .bl bb, .non, u8', rfl, b4, s4.mono (by omega), by omega, (same_upd hp) _ _ kF3, (same_upd hp) _ _ kD3, kt3.same (same_upd hp), .inr ⟨rfl, rfl, .inr ⟨j, y, bb, hy, hji, rfl, rfl, hat⟩⟩⟩
          | some v =>
            obtain ⟨e, he, ek, ev⟩ := atE_some hat
            obtain ⟨k2, t2, y2, z1, z2, z3, z4, z5⟩ := eo e he
            rw [ek] at z1
            have ej : k2 = j := nd_get hth.nd z1 hy
            rw [z2] at ev
            subst ev
            exact ⟨i - t2, by omega, .int y, .bl bb, .int y2, u8', rfl, b4, s4.mono (by omega), by omega, (same_upd hp) _ _ kF3, (same_upd hp) _ _ kD3, kt3.same (same_upd hp), .inl ⟨t2, y2, z3, z5, rfl, rfl⟩⟩
        · refine iteF' (by rfl) ?_
          have permN : ∀ {vs : List Int}, vs.Perm (t :: us) → vs.Perm (ts.take (i + 1)) := fun {vs} p => by
            rw [take_more ht]
            exact p.trans ((perm.cons t).trans (List.perm_append_comm (l₁ := [t])))
          refine ⟨_, rfl, rfl, _, rfl, ?_⟩
          rcases hend with ⟨rfl, ei⟩ | ⟨j, y, bb, hy, hji, rfl, rfl, hat⟩
          · refine iteT' (by rfl) ?_
            refine ⟨_, rfl, sz (show 1 ≤ 16777216 by decide), fun F2 hF2 => ?_⟩
            have hF20 := s2.fresh (b1.trans b2) hF2
            have eu : us = [] := by
              rw [ei, List.take_zero] at perm
              exact perm.eq_nil
            refine ⟨F2, [t], es, _, _, _, _, _, rfl, (b1.trans b2).trans (But.fresh hF2), (s2.same (same_upd hF2)).mono (by omega), hF20, (s2.off hF2).2.2, upd_same, ?_, (same_upd hF2) _ _ kD2, kt2.same (same_upd hF2), by omega, fun e he => ?_⟩
            · refine permN ?_
              rw [eu]
            · obtain ⟨k2, t2, y2, z1, z2, z3, z4, z5⟩ := eo e he
              exact ⟨k2, t2, y2, z1, z2, z3, z4, by omega⟩
          · refine iteF' (by rfl) ?_
            refine ⟨_, rfl, _, rfl, _, rfl, _, rfl, sz (show 2 ≤ 16777216 by decide), fun p hp => ⟨D, es, (y, bb), p, rfl, rfl, (same_upd hp) _ _ kD2, kt2.same (same_upd hp), upd_same, hat, by omega, ?_⟩⟩
            have s3 := s2.same (same_upd (o := .tup [.int y, .bl bb]) hp)
            have kD3 := (same_upd (o := .tup [.int y, .bl bb]) hp) _ _ kD2
            have kF3 := (same_upd (o := .tup [.int y, .bl bb]) hp) _ _ kF2
            have kt3 := kt2.same (same_upd (o := .tup [.int y, .bl bb]) hp)
            have kp3 : (upd H2 p (.tup [.int y, .bl bb])) p = some (.tup [.int y, .bl bb]) := upd_same
            have b3 : But [g] H (upd H2 p (.tup [.int y, .bl bb])) := (b1.trans b2).trans (But.fresh hp)
            generalize upd H2 p (.tup [.int y, .bl bb]) = H3 at *
            have s4 : SAt (upd H3 D (KDo P w D (es ++ [((y, bb), p, .int t)]))) st r g row (m + 13 * i + (12 - 0)) := s3.putN (fun xs z => kdo_tup (kD3.symm.trans z)) oD
            have b4 : But [g] H (upd H3 D (KDo P w D (es ++ [((y, bb), p, .int t)]))) := b3.late hD0
            have kD4 : (upd H3 D (KDo P w D (es ++ [((y, bb), p, .int t)]))) D = some (KDo P w D (es ++ [((y, bb), p, .int t)])) := upd_same
            have kF4 : (upd H3 D (KDo P w D (es ++ [((y, bb), p, .int t)]))) F = some (.lst (us.map V.int)) := by
              rw [upd_ne nFD]
              exact kF3
            have nT : ∀ {b : Addr} {xs : List V}, H3 b = some (.tup xs) → b ≠ D := fun hb z => by
              rw [z, kD3] at hb
              exact kdo_tup hb
            have kt4 : KTup (upd H3 D (KDo P w D (es ++ [((y, bb), p, .int t)]))) (es ++ [((y, bb), p, .int t)]) := fun e he => by
              rcases List.mem_append.mp he with h | h
              · rw [upd_ne (nT (kt3 e h))]
                exact kt3 e h
              · rw [List.mem_singleton.mp h]
                show (upd H3 D (KDo P w D (es ++ [((y, bb), p, .int t)]))) p = _
                rw [upd_ne (nT kp3)]
                exact kp3
            have eo4 : EsOk ts (i + 1) (es ++ [((y, bb), p, .int t)]) := fun e he => by
              rcases List.mem_append.mp he with h | h
              · obtain ⟨k2, t2, y2, z1, z2, z3, z4, z5⟩ := eo e h
                exact ⟨k2, t2, y2, z1, z2, z3, z4, by omega⟩
              · rw [List.mem_singleton.mp h]
                exact ⟨j, i, t, hy, rfl, ht, hji, by omega⟩
            have ep0 : ∃ p0, p0 = p := ⟨_, rfl⟩
            obtain ⟨p0, rfl⟩ := ep0
            have hyu : y ∈ us := perm.mem_iff.mpr (List.mem_of_getElem? (i := j) (by rw [List.getElem?_take_of_lt hji]; exact hy))
            have ndu : us.Nodup := (perm.symm.nodup (hth.nd.sublist (List.take_sublist _ _)))
            obtain ⟨c, hc⟩ := List.getElem?_of_mem hyu
            have hul := perm.length_eq
            rw [List.length_take] at hul
            refine ⟨_, rfl, .inl ⟨rfl, _, .inl (.inl kF4)⟩, _, rfl, F, _, .int y, c, .int y, rfl, rfl, .inl (.inl kF4), rfl, flat_ints _, get_map hc, by show (y == y) = true; simp, fun m' z' hm' hz' => ?_, ?_⟩
            · obtain ⟨y', hy', rfl⟩ := map_get hz'
              show (y' == y) = false
              refine beq_eq_false_iff_ne.mpr fun e => ?_
              have := nd_get ndu hy' (by rw [e]; exact hc)
              omega
            · dsimp only [gName, tAsg]
              refine tIf_any bb (fun v H5 => ∃ (p : Addr) (vs : List Int), v = .ref p ∧ Same (upd H3 D (KDo P w D (es ++ [((y, bb), p0, .int t)]))) H5 ∧ (upd H3 D (KDo P w D (es ++ [((y, bb), p0, .int t)]))) p = none ∧ H5 p = some (.lst (vs.map V.int)) ∧ vs.Perm (t :: us)) (fun Qt qt => ⟨_, rfl, _, rfl, qt⟩) (fun _ Q' q' => ?_) (fun _ Q' q' => ?_) (fun v H5 z => ?_)
              · exact rd_ins rfl rfl (fun H' Q' q' => ⟨_, rfl, q'⟩) kF4 (by omega) (fun H5 p5 e5 hp5 k5 => q' _ _ ⟨p5, _, rfl, e5, hp5, k5, ins_perm us t c⟩)
              · exact rd_ins (i := c + 1) rfl rfl (fun H' Q' q' => ⟨_, rfl, c, 1, rfl, rfl, q'⟩) kF4 (by omega) (fun H5 p5 e5 hp5 k5 => q' _ _ ⟨p5, _, rfl, e5, hp5, k5, ins_perm us t (c + 1)⟩)
              · obtain ⟨p5, vs, rfl, e5, hp5, k5, perm5⟩ := z
                exact ⟨p5, vs, _, _, _, _, _, _, rfl, b4.trans (But.of e5), (s4.same e5).mono (by omega), s4.fresh b4 hp5, (s4.off hp5).2.2, k5, permN perm5, e5 _ _ kD4, kt4.same e5, by rw [List.length_append, List.length_singleton]; omega, eo4⟩
    · obtain ⟨F, us, es, u4, u5, u6, u7, u8, rfl, b1, s1, hF, nF, kF, perm, kD, kt, les, eo⟩ := p
      rw [List.length_map] at s1
      exact ⟨_, rfl, q H' F us b1 hF kF (s1.mono (by omega)) trivial⟩
end
end K20
/-! K20Q: _law_ranks, _law_sort. -/
namespace K20
open PySem PySem.Spec PyProof.Rows L2
theorem putK_len {κ : Type} [DecidableEq κ] (kvs : List (κ × V)) (k : κ) (v : V) : (putK kvs k v).length ≤ kvs.length + 1 := by
  unfold putK
  split
  · rw [List.length_map]
    omega
  · rw [List.length_append, List.length_singleton]
    exact Nat.le_refl _
theorem ite_var {σ : L2.St} {H : Hp} {Q : VK} {i j : Nat} {x y : V} {c : Bool} (hi : σ[i]? = some (some x)) (hj : σ[j]? = some (some y)) (q : ∀ v, (v = x ∨ v = y) → Q v H) : if c = true then tVar i σ H Q else tVar j σ H Q := by
  cases c with
  | true => exact iteT ⟨x, hi, q x (.inl rfl)⟩
  | false => exact iteF ⟨y, hj, q y (.inr rfl)⟩
section
variable {P : Program} {w : World} {K : PySem.W.Frag} {mg : Str → Option Value} {base : Heap} {CS CE CT : Addr}
/-! ### _law_ranks -/
theorem ok_w_ranks (T : Txt K mg CS CE CT) : Ok P w K mg base CX0 3 "_law_ranks" P_w_ranks spHeap := by
  refine T.d_w_ranks.ok0 sc_w_ranks (fun _ _ _ _ _ _ us hl => match us, hl with | [_, _], _ => rfl) (fun vs H Q E h => ?_) (fun f cdv A outer s H vs Q E hr h => ?_)
  · obtain ⟨_, _, _, _, _, _, _, rfl, _⟩ := h
    rfl
  · obtain ⟨st, r, g, a, row, ts, m, rfl, hs, hm, hag, ha, hth, q⟩ := h
    have hu := hu_of hr
    have hl := hth.len hs.n12
    refine ⟨_, (pss_cons (ps_set (i := 2) sc_w_ranks.nd rfl (Or.inr rfl) pe_dnewK)
  (pss_cons (ps_for PassesOwn.never rfl (pi_list (pv 1)) (pg_name (i := 3) sc_w_ranks.nd rfl (Or.inl rfl)) (pss_one (ps_dput hu (pv 2) (pv 3) pe_int rfl)))
  (pss_cons (ps_for PassesOwn.never rfl (pi_list (pv 1)) (pg_name (i := 3) sc_w_ranks.nd rfl (Or.inl rfl)) (pss_one (ps_for PassesOwn.never rfl (pi_list (pv 1)) (pg_name (i := 4) sc_w_ranks.nd rfl (Or.inl rfl)) (pss_one (ps_if (pt_cmpR op_lt (pv 3) (pv 4) (nomark _)) (pss_cons (ps_set (i := 5) sc_w_ranks.nd rfl (Or.inl rfl) (pe_ifExp (pt_val (pe_callO (ok_w_less T) (hr.mono (by decide)) pass0 (pa_cons (pv 0) (pa_cons (pv 4) (pa_cons (pv 3) pa_nil))))) (pv 3) (pv 4)))
  (pss_one (ps_dput hu (pv 2) (pv 5) (pe_op op_add (pe_dget hu (pv 2) (pv 5) (fun _ _ => rfl)) pe_int) rfl))) pss_nil)))))
  (pss_one (ps_ret (pe_lc (own := [("_law_place", 6), ("_law_thing", 7)]) rfl sc_w_ranks.nd (pi_list (pe_callB cr_sortedP (by rfl) T.f_sorted (by decide +kernel) (pa_cons (pe_lc (own := [("_law_one", 3)]) rfl sc_w_ranks.nd (pi_list (pv 1)) (blkOk_by (N := N_w_ranks) (sc := defScope s_w_ranks) (by decide +kernel)) (fun _ _ _ _ _ => (pg_name (i := 3) sc_w_ranks.nd rfl (Or.inl rfl))) (fun _ _ _ _ _ => pts_nil) (fun _ _ _ _ _ => (pe_tup (pa_cons (pe_dget hu (pv 2) (pv 3) (fun _ _ => rfl)) (pa_cons (pv 3) pa_nil))))) pa_nil))) (blkOk_by (N := N_w_ranks) (sc := defScope s_w_ranks) (by decide +kernel)) (fun _ _ _ _ _ => (pg_tupK (n := 2) K rfl rfl (pgs_cons (pg_name (i := 6) sc_w_ranks.nd rfl (Or.inl rfl)) (pgs_cons (pg_name (i := 7) sc_w_ranks.nd rfl (Or.inl rfl)) pgs_nil)))) (fun _ _ _ _ _ => pts_nil) (fun _ _ _ _ _ => (pv 7)))))))), ?_⟩
    refine fun D hD => ?_
    have oD := hs.off hD
    have e0 := same_upd (o := .dK []) hD
    refine ⟨_, rfl, a, rfl, ⟨_, .inl (.inl (e0 _ _ ha))⟩, ?_⟩
    refine for_list (xs := ts.map V.int) (fun i σ' H' => ∃ (kvs : List (Key × V)) (u3 u4 u5 u6 u7 : Option V), σ' = [some (.ref st), some (.ref a), some (.ref D), u3, u4, u5, u6, u7] ∧ But [g] H H' ∧ SAt H' st r g row m ∧ H' D = some (.dK kvs) ∧ kvs.length ≤ i ∧ ∀ t ∈ ts.take i, ∃ n : Int, valV kvs (.inl t) = some (.int n))
      ⟨[], none, none, none, none, none, rfl, But.of e0, hs.same e0, upd_same, Nat.le_refl _, fun t ht => (nomatch ht)⟩ (fun i σ' H' hi p => ?_) (fun i xv σ' H' hi p => ?_) (fun σ' H' p => ?_)
    · obtain ⟨_, _, _, _, _, _, _, b, _⟩ := p
      exact .inl (.inl (b.get ha hag))
    · obtain ⟨kvs, u3, u4, u5, u6, u7, rfl, b1, s1, kD, lk, hk⟩ := p
      obtain ⟨t, ht, rfl⟩ := map_get hi
      have hil := get_lt ht
      refine ⟨_, rfl, _, rfl, D, _, rfl, .inl ⟨kvs, .inl t, kD, rfl, sz' (by omega), rfl⟩, ?_⟩
      refine ⟨_, _, _, _, _, _, rfl, b1.late hD, s1.putN (fun xs z => by rw [kD] at z; cases z) oD, upd_same, Nat.le_trans (putK_len _ _ _) (by omega), fun t' ht' => ?_⟩
      rw [valV_put]
      by_cases e : (Sum.inl t' : Key) = .inl t
      · exact ⟨0, if_pos e⟩
      · rw [if_neg e]
        rw [take_more ht] at ht'
        rcases List.mem_append.mp ht' with h | h
        · exact hk t' h
        · exact absurd (by rw [List.mem_singleton.mp h]) e
    · obtain ⟨kvs, u3, u4, u5, u6, u7, rfl, b1, s1, kD, lk, hk⟩ := p
      rw [List.length_map] at lk hk
      rw [List.take_length] at hk
      refine ⟨_, rfl, a, rfl, ⟨_, .inl (.inl (b1.get ha hag))⟩, ?_⟩
      refine for_list (xs := ts.map V.int) (fun i σ' H' => ∃ (kvs : List (Key × V)) (u3 u4 u5 u6 u7 : Option V), σ' = [some (.ref st), some (.ref a), some (.ref D), u3, u4, u5, u6, u7] ∧ But [g] H H' ∧ SAt H' st r g row (m + 12 * i) ∧ H' D = some (.dK kvs) ∧ kvs.length ≤ 12 + 12 * i ∧ ∀ t ∈ ts, ∃ n : Int, valV kvs (.inl t) = some (.int n))
        ⟨kvs, u3, u4, u5, u6, u7, rfl, b1, s1, kD, by omega, hk⟩ (fun i σ' H' hi p => ?_) (fun i xv σ' H' hi p => ?_) (fun σ' H' p => ?_)
      · obtain ⟨_, _, _, _, _, _, _, b, _⟩ := p
        exact .inl (.inl (b.get ha hag))
      · obtain ⟨kvs, u3, u4, u5, u6, u7, rfl, b1, s1, kD, lk, hk⟩ := p
        obtain ⟨x, hx, rfl⟩ := map_get hi
        have hil := get_lt hx
        refine ⟨_, rfl, a, rfl, ⟨_, .inl (.inl (b1.get ha hag))⟩, ?_⟩
        refine for_list (xs := ts.map V.int) (fun j σ' H' => ∃ (kvs : List (Key × V)) (u4 u5 u6 u7 : Option V), σ' = [some (.ref st), some (.ref a), some (.ref D), some (.int x), u4, u5, u6, u7] ∧ But [g] H H' ∧ SAt H' st r g row (m + 12 * i + j) ∧ H' D = some (.dK kvs) ∧ kvs.length ≤ 12 + 12 * i + j ∧ ∀ t ∈ ts, ∃ n : Int, valV kvs (.inl t) = some (.int n))
          ⟨kvs, u4, u5, u6, u7, rfl, b1, s1, kD, by omega, hk⟩ (fun j σ' H' hj p => ?_) (fun j xv σ' H' hj p => ?_) (fun σ' H' p => ?_)
        · obtain ⟨_, _, _, _, _, _, b, _⟩ := p
          exact .inl (.inl (b.get ha hag))
        · obtain ⟨kvs, u4, u5, u6, u7, rfl, b1, s1, kD, lk, hk⟩ := p
          obtain ⟨y, hy, rfl⟩ := map_get hj
          have hjl := get_lt hy
          refine ⟨_, rfl, _, rfl, x, y, rfl, rfl, _, rfl, ?_⟩
          by_cases c : x < y
          · refine iteT' (decide_eq_true c) ?_
            have o1 := hth.lt y (flat_mem hy)
            have o2 := hth.lt x (flat_mem hx)
            refine ⟨_, rfl, _, rfl, _, rfl, st, r, g, row, _, y, x, rfl, s1, by omega, o1, o2, by omega, fun H2 bb b2 s2 => ⟨_, rfl, ?_⟩⟩
            have kD2 := b2.get kD oD.2.2
            refine ite_var (x := .int x) (y := .int y) rfl rfl (fun v hv => ?_)
            obtain ⟨late, rfl, hlate⟩ : ∃ late : Int, v = .int late ∧ late ∈ ts := by
              rcases hv with h | h
              · exact ⟨x, h, flat_mem hx⟩
              · exact ⟨y, h, flat_mem hy⟩
            obtain ⟨n, hn⟩ := hk late hlate
            refine ⟨_, rfl, _, rfl, D, .int n, rfl, .inl ⟨kvs, .inl late, .inl kD2, rfl, hn.symm⟩, n, 1, rfl, rfl, ?_⟩
            refine ⟨_, rfl, _, rfl, D, _, rfl, .inl ⟨kvs, .inl late, kD2, rfl, sz' (by omega), rfl⟩, ?_⟩
            refine ⟨_, _, _, _, _, rfl, (b1.trans b2).late hD, s2.putN (fun xs z => by rw [kD2] at z; cases z) oD, upd_same, Nat.le_trans (putK_len _ _ _) (by omega), fun t' ht' => ?_⟩
            rw [valV_put]
            by_cases e : (Sum.inl t' : Key) = .inl late
            · exact ⟨n + 1, if_pos e⟩
            · rw [if_neg e]
              exact hk t' ht'
          · refine iteF' (decide_eq_false c) ?_
            exact ⟨kvs, _, _, _, _, rfl, b1, s1.mono (by omega), kD, by omega, hk⟩
        · obtain ⟨kvs, u4, u5, u6, u7, rfl, b1, s1, kD, lk, hk⟩ := p
          rw [List.length_map] at s1 lk
          exact ⟨kvs, _, _, _, _, _, rfl, b1, s1.mono (by omega), kD, by omega, hk⟩
      · obtain ⟨kvs, u3, u4, u5, u6, u7, rfl, b1, s1, kD, lk, hk⟩ := p
        have ka := b1.get ha hag
        refine ⟨_, rfl, a, rfl, ⟨_, .inl (.inl ka)⟩, fun D1 hD1 => ?_⟩
        refine lc_list (xs := ts.map V.int) (fun i H2 => ∃ xs : List V, Same H' H2 ∧ H2 D1 = some (.lst xs) ∧ xs.length ≤ i ∧ ∀ x ∈ xs, ∃ (t : Addr) (i j : Int), x = .ref t ∧ H2 t = some (.tup [.int i, .int j])) ⟨[], same_upd hD1, upd_same, Nat.le_refl _, fun x hx => (nomatch hx)⟩ (fun i H2 hi p => ?_) (fun i xv H2 hi p => ?_) (fun H2 p => ?_)
        · obtain ⟨_, e, _⟩ := p
          exact .inl (.inl (e _ _ ka))
        · obtain ⟨xs, e, k1, lx, hxs⟩ := p
          obtain ⟨t, ht, rfl⟩ := map_get hi
          have hil := get_lt ht
          obtain ⟨n, hn⟩ := hk t (flat_mem ht)
          refine ⟨rfl, _, rfl, _, rfl, D, .int n, rfl, .inl ⟨kvs, .inl t, .inl (e _ _ kD), rfl, hn.symm⟩, _, rfl, sz (show 2 ≤ 16777216 by decide), fun p hp => ?_⟩
          have k1' := (same_upd (o := .tup [.int n, .int t]) hp) _ _ k1
          refine ⟨xs, k1', sz' (by omega), xs ++ [.ref p], same_mut (e.trans (same_upd hp)) hD1, upd_same, by rw [List.length_append, List.length_singleton]; omega, fun x hx => ?_⟩
          rcases List.mem_append.mp hx with h | h
          · obtain ⟨t', i', j', ex, ht'⟩ := hxs x h
            refine ⟨t', i', j', ex, ?_⟩
            rw [upd_ne (fun z => by rw [z, k1] at ht'; cases ht')]
            exact (same_upd hp) _ _ ht'
          · refine ⟨p, n, t, List.mem_singleton.mp h, ?_⟩
            rw [upd_ne (fun z => by rw [z, k1] at hp; cases hp)]
            exact upd_same
        · obtain ⟨xs, e, k1, lx, hxs⟩ := p
          rw [List.length_map] at lx
          refine ⟨D1, xs, rfl, .inl (.inl k1), hxs, fun ys p perm hp => ?_⟩
          have e2 := e.trans (same_upd (o := .lst ys) hp)
          refine ⟨p, rfl, ⟨_, .inl (.inl upd_same)⟩, fun D2 hD2 => ?_⟩
          have hys : ∀ y ∈ ys, ∃ (t : Addr) (i j : Int), y = .ref t ∧ (upd H2 p (.lst ys)) t = some (.tup [.int i, .int j]) := fun y hy => by
            obtain ⟨t, i, j, e1, e2⟩ := hxs y (perm.mem_iff.mp hy)
            exact ⟨t, i, j, e1, (same_upd hp) _ _ e2⟩
          have lys := perm.length_eq
          have kp : (upd H2 p (.lst ys)) p = some (.lst ys) := upd_same
          generalize upd H2 p (.lst ys) = H3 at *
          refine lc_list (xs := ys) (fun i H4 => ∃ zs : List Int, Same H3 H4 ∧ H4 D2 = some (.lst (zs.map V.int)) ∧ zs.length ≤ i) ⟨[], same_upd hD2, upd_same, Nat.le_refl _⟩ (fun i H4 hi z => ?_) (fun i xv H4 hi z => ?_) (fun H4 z => ?_)
          · obtain ⟨_, e, _⟩ := z
            exact .inl (.inl (e _ _ kp))
          · obtain ⟨zs, e4, k4, l4⟩ := z
            have hil := get_lt hi
            obtain ⟨t, i', j', rfl, ht⟩ := hys xv (List.mem_of_getElem? hi)
            refine ⟨_, _, rfl, .inl (.inl (e4 _ _ ht)), rfl, _, _, rfl, _, _, rfl, rfl, rfl, ?_⟩
            refine ⟨_, rfl, _, k4, sz' (by rw [List.length_map]; omega), zs ++ [j'], same_mut e4 hD2, ?_, by rw [List.length_append, List.length_singleton]; omega⟩
            rw [upd_same, List.map_append]
            rfl
          · obtain ⟨zs, e4, k4, l4⟩ := z
            have e5 := e2.trans e4
            rw [List.length_map] at s1
            exact q H4 D2 zs (b1.trans (But.of e5)) (s1.fresh b1 (none_back e2 hD2)) k4 ((s1.same e5).mono (by omega)) trivial
end
end K20
/-! K20S: _law_sort. -/
namespace K20
open PySem PySem.Spec PyProof.Rows L2
theorem str_ne {a b : Str} (h : decide (a = b) = false) : a ≠ b := of_decide_eq_false h
theorem SimpleAt.head {H : Hp} {q : Addr} (h : SimpleAt H q) : ∃ k xs, H q = some (.tup (.str k :: xs)) ∧ k ≠ "sparing" := by
  cases h with
  | gaps g h hg => exact ⟨_, _, h, str_ne (by decide +kernel)⟩
  | part w s h hw hs => exact ⟨_, _, h, str_ne (by decide +kernel)⟩
  | one k h hk => exact ⟨_, _, h, by rcases hk with rfl | rfl | rfl <;> exact str_ne (by decide +kernel)⟩
  | two k w h hk => exact ⟨_, _, h, by rcases hk with rfl | rfl | rfl | rfl | ⟨rfl, _⟩ <;> exact str_ne (by decide +kernel)⟩
theorem WayAt.head {H : Hp} {w : Addr} (h : WayAt H w) : ∃ k xs, H w = some (.tup (.str k :: xs)) ∧ ((k = "sparing" ∧ ∃ q, xs = [.ref q] ∧ SimpleAt H q) ∨ (k ≠ "sparing" ∧ SimpleAt H w)) := by
  rcases h with h | ⟨q, h1, h2⟩
  · obtain ⟨k, xs, h1, h2⟩ := h.head
    exact ⟨k, xs, h1, .inr ⟨h2, h⟩⟩
  · exact ⟨_, _, h1, .inl ⟨rfl, q, rfl, h2⟩⟩
theorem rgV_nat (n : Nat) : rgV 0 (n : Nat) = ((List.range n).map fun i : Nat => (i : Int)).map V.int := by
  rw [rgV_ints]
  have e : (((n : Nat) : Int) - 0).toNat = n := by omega
  rw [e]
  congr 1
  apply List.map_congr_left
  intro i _
  exact Int.zero_add _
theorem th_range (row : List Int) : Th row ((List.range row.length).map fun i : Nat => (i : Int)) := by
  refine ⟨nodup_map (fun x y e => by omega) List.nodup_range, fun t ht => ?_⟩
  obtain ⟨i, hi, rfl⟩ := List.mem_map.mp ht
  have := List.mem_range.mp hi
  omega
section
variable {P : Program} {w : World} {K : PySem.W.Frag} {mg : Str → Option Value} {base : Heap} {CS CE CT : Addr}
def spSort : Sp := fun vs H Q _ => ∃ (w0 r : Addr) (row : List Int), vs = [.ref w0, .ref r] ∧ WayAt H w0 ∧ H r = some (.lst (row.map V.int)) ∧ row.length ≤ 12 ∧
  ∀ H' p l o log, Same H H' → H l = none → H' p = some (.tup [.ref l, .ref o]) → LogAt H' l log → (∀ q ∈ log, Good row q) → log.length ≤ 10000 → Q (.ref p) H'
theorem ok_w_sort (T : Txt K mg CS CE CT) : Ok P w K mg base CX0 20 "_law_sort" P_w_sort spSort := by
  refine T.d_w_sort.ok0 sc_w_sort (fun _ _ _ _ _ _ us hl => match us, hl with | [_, _], _ => rfl) (fun vs H Q E h => ?_) (fun f cdv A outer s H vs Q E hr h => ?_)
  · obtain ⟨_, _, _, rfl, _⟩ := h
    rfl
  · obtain ⟨w0, r, row, rfl, hway, hrr, hr12, q⟩ := h
    obtain ⟨k0, xs0, hw0, hcase⟩ := hway.head
    refine ⟨_, (pss_cons (ps_par (i := 2) (j := 3) (by rfl) sc_w_sort.nd rfl rfl (by decide) rfl rfl (pa_cons (pe_lst (pa_cons (pv 1) (pa_cons (pe_lst pa_nil) (pa_cons (pe_cmpR op_eq (pe_ix ix_tup (pv 0) pe_int (fun _ _ => rfl)) pe_str (nomark _)) pa_nil)))) (pa_cons (pe_listRg rfl (by rfl) T.f_list (prg_1 (by rfl) T.f_range (pe_callB call_len (by rfl) T.f_len (by decide +kernel) (pa_cons (pv 1) pa_nil)))) pa_nil)) (by rfl))
  (pss_cons (ps_set (i := 4) sc_w_sort.nd rfl (Or.inl rfl) (pe_ifExp (pt_val (pe_ix ix_list (pv 2) pe_int (fun _ _ => rfl))) (pe_ix ix_tup (pv 0) pe_int (fun _ _ => rfl)) (pv 0)))
  (Evl.pss_cut (ps_if (pt_cmpR op_eq (pe_ix ix_tup (pv 4) pe_int (fun _ _ => rfl)) pe_str (nomark _)) (pss_one (ps_set (i := 5) sc_w_sort.nd rfl (Or.inl rfl) (pe_callO (ok_w_inserted T) (hr.mono (by decide)) pass0 (pa_cons (pv 2) (pa_cons (pv 3) (pa_cons (pe_ix ix_tup (pv 4) pe_int (fun _ _ => rfl)) pa_nil)))))) (pss_one (ps_if (pt_cmpR op_eq (pe_ix ix_tup (pv 4) pe_int (fun _ _ => rfl)) pe_str (nomark _)) (pss_one (ps_set (i := 5) sc_w_sort.nd rfl (Or.inl rfl) (pe_callO (ok_w_select T) (hr.mono (by decide)) pass0 (pa_cons (pv 2) (pa_cons (pv 3) (pa_cons (pe_ix ix_tup (pv 4) pe_int (fun _ _ => rfl)) pa_nil)))))) (pss_one (ps_if (pt_cmpR op_eq (pe_ix ix_tup (pv 4) pe_int (fun _ _ => rfl)) pe_str (nomark _)) (pss_one (ps_set (i := 5) sc_w_sort.nd rfl (Or.inl rfl) (pe_callO (ok_w_bubble T) (hr.mono (by decide)) pass0 (pa_cons (pv 2) (pa_cons (pv 3) (pa_cons (pe_ix ix_tup (pv 4) pe_int (fun _ _ => rfl)) pa_nil)))))) (pss_one (ps_if (pt_cmpR op_eq (pe_ix ix_tup (pv 4) pe_int (fun _ _ => rfl)) pe_str (nomark _)) (pss_one (ps_set (i := 5) sc_w_sort.nd rfl (Or.inl rfl) (pe_callO (ok_w_gapped T) (hr.mono (by decide)) pass0 (pa_cons (pv 2) (pa_cons (pv 3) (pa_cons (pe_ix ix_tup (pv 4) pe_int (fun _ _ => rfl)) pa_nil)))))) (pss_one (ps_if (pt_cmpR op_eq (pe_ix ix_tup (pv 4) pe_int (fun _ _ => rfl)) pe_str (nomark _)) (pss_one (ps_set (i := 5) sc_w_sort.nd rfl (Or.inl rfl) (pe_callO (ok_w_merge T 14) (hr.mono (by decide)) pass0 (pa_cons (pv 2) (pa_cons (pv 3) (pa_cons (pe_ix ix_tup (pv 4) pe_int (fun _ _ => rfl)) pa_nil)))))) (pss_one (ps_if (pt_cmpR op_eq (pe_ix ix_tup (pv 4) pe_int (fun _ _ => rfl)) pe_str (nomark _)) (pss_one (ps_set (i := 5) sc_w_sort.nd rfl (Or.inl rfl) (pe_callO (ok_w_part T 14) (hr.mono (by decide)) pass0 (pa_cons (pv 2) (pa_cons (pv 3) (pa_cons (pe_ix ix_tup (pv 4) pe_int (fun _ _ => rfl)) (pa_cons (pe_ix ix_tup (pv 4) pe_int (fun _ _ => rfl)) pa_nil))))))) (pss_one (ps_if (pt_cmpR op_eq (pe_ix ix_tup (pv 4) pe_int (fun _ _ => rfl)) pe_str (nomark _)) (pss_one (ps_set (i := 5) sc_w_sort.nd rfl (Or.inl rfl) (pe_callO (ok_w_swapped T 14) (hr.mono (by decide)) pass0 (pa_cons (pv 2) (pa_cons (pv 3) (pa_cons (pe_ix ix_tup (pv 4) pe_int (fun _ _ => rfl)) pa_nil)))))) (pss_one (ps_if (pt_cmpR op_eq (pe_ix ix_tup (pv 4) pe_int (fun _ _ => rfl)) pe_str (nomark _)) (pss_one (ps_set (i := 5) sc_w_sort.nd rfl (Or.inl rfl) (pe_callO (ok_w_heap T) (hr.mono (by decide)) pass0 (pa_cons (pv 2) (pa_cons (pv 3) pa_nil))))) (pss_one (ps_set (i := 5) sc_w_sort.nd rfl (Or.inl rfl) (pe_ifExp (pt_cmpR op_eq (pe_ix ix_tup (pv 4) pe_int (fun _ _ => rfl)) pe_str (nomark _)) (pe_callO (ok_w_tree T) (hr.mono (by decide)) pass0 (pa_cons (pv 2) (pa_cons (pv 3) pa_nil))) (pe_callO (ok_w_ranks T) (hr.mono (by decide)) pass0 (pa_cons (pv 2) (pa_cons (pv 3) pa_nil)))))))))))))))))))))
  (pss_one (ps_ret (pe_tup (pa_cons (pe_ix ix_list (pv 2) pe_int (fun _ _ => rfl)) (pa_cons (pv 5) pa_nil)))))))), ?_⟩
    refine ⟨_, rfl, sz (show 0 ≤ 16777216 by decide), fun g hg => ⟨_, rfl, w0, _, 0, .str k0, rfl, rfl, .inl (.inl ((same_upd hg) _ _ hw0)), atI_int (by decide) rfl, rfl, sz (show 3 ≤ 16777216 by decide), fun st hst => ?_⟩⟩
    have e1 := (same_upd (o := .lst []) hg).trans (same_upd (o := .lst [.ref r, .ref g, .bl (decide (V.str k0 = V.str "sparing"))]) hst)
    refine ⟨_, rfl, _, _, rfl, .inl ⟨_, .inl (.inl (e1 _ _ hrr)), rfl⟩, _, rfl, RgOk.of_le (by omega) (by rw [List.length_map]; omega) (by omega) (by omega), fun L hL => ⟨_, _, rfl, ?_⟩⟩
    rw [List.length_map, rgV_nat]
    have hth := th_range row
    have hlen : ((List.range row.length).map fun i : Nat => (i : Int)).length ≤ 12 := by
      rw [List.length_map, List.length_range]
      exact hr12
    have e2 := e1.trans (same_upd (o := .lst (((List.range row.length).map fun i : Nat => (i : Int)).map V.int)) hL)
    have kg : (upd (upd (upd H g (.lst [])) st (.lst [.ref r, .ref g, .bl (decide (V.str k0 = V.str "sparing"))])) L (.lst (((List.range row.length).map fun i : Nat => (i : Int)).map V.int))) g = some (.lst []) := (same_upd hL) _ _ ((same_upd hst) _ _ upd_same)
    have kst : (upd (upd (upd H g (.lst [])) st (.lst [.ref r, .ref g, .bl (decide (V.str k0 = V.str "sparing"))])) L (.lst (((List.range row.length).map fun i : Nat => (i : Int)).map V.int))) st = some (.lst [.ref r, .ref g, .bl (decide (V.str k0 = V.str "sparing"))]) := (same_upd hL) _ _ upd_same
    have kL : (upd (upd (upd H g (.lst [])) st (.lst [.ref r, .ref g, .bl (decide (V.str k0 = V.str "sparing"))])) L (.lst (((List.range row.length).map fun i : Nat => (i : Int)).map V.int))) L = some (.lst (((List.range row.length).map fun i : Nat => (i : Int)).map V.int)) := upd_same
    have nst : st ≠ g := fun z => by
      rw [z, upd_same] at hst
      cases hst
    have nL : L ≠ g := fun z => by
      rw [z, (same_upd hst) _ _ upd_same] at hL
      cases hL
    have nr : r ≠ g := ne_of_none hrr hg
    generalize upd (upd (upd H g (.lst [])) st (.lst [.ref r, .ref g, .bl (decide (V.str k0 = V.str "sparing"))])) L (.lst (((List.range row.length).map fun i : Nat => (i : Int)).map V.int)) = H1 at *
    have s1 : SAt H1 st r g row 0 := ⟨hr12, ⟨_, kst⟩, e2 _ _ hrr, ⟨[], ⟨[], kg, rfl, fun i t q a => (nomatch a)⟩, fun q hq => (nomatch hq), Nat.le_refl _⟩, nst, nr⟩
    generalize (List.range row.length).map (fun i : Nat => (i : Int)) = ts at *
    dsimp only [tSeq, tAsg]
    refine tIf_any (decide (k0 = "sparing")) (fun v H' => H' = H1 ∧ ∃ q0, v = .ref q0 ∧ SimpleAt H1 q0) (fun Qt qt => ?_) (fun c Q' q' => ?_) (fun c Q' q' => ?_) (fun v H' z => ?_)
    · refine ⟨_, rfl, st, _, 2, _, rfl, rfl, .inl (.inl kst), rfl, _, rfl, ?_⟩
      rw [deq_str]
      exact qt
    · rcases hcase with ⟨_, qa, rfl, hs⟩ | ⟨hk, _⟩
      · exact ⟨_, rfl, w0, _, 1, .ref qa, rfl, rfl, .inl (.inl (e2 _ _ hw0)), rfl, q' _ _ ⟨rfl, qa, rfl, hs.same e2⟩⟩
      · exact absurd (of_decide_eq_true c) hk
    · rcases hcase with ⟨hk, _⟩ | ⟨_, hs⟩
      · exact absurd hk (of_decide_eq_false c)
      · exact ⟨_, rfl, q' _ _ ⟨rfl, w0, rfl, hs.same e2⟩⟩
    obtain ⟨rfl, q0, rfl, hsim⟩ := z
    clear hcase
    refine ⟨fun σ' H2 => ∃ (own : Option V) (o : Addr), σ' = [some (.ref w0), some (.ref r), some (.ref st), some (.ref L), own, some (.ref o)] ∧ But [g] H' H2 ∧ SAt H2 st r g row 9000, ?_, fun σ' H2 p => ?_⟩
    · rcases hsim with ⟨gg, hq, hg⟩ | ⟨wd, sm, hq, hw, hsm⟩ | ⟨k, hq, hk⟩ | ⟨k, wd, hq, hk⟩
      · -- gaps
        refine ⟨_, rfl, q0, _, 0, _, rfl, rfl, .inl (.inl hq), rfl, rfl, _, rfl, iteF' (by decide +kernel) ?_⟩
        refine ⟨_, rfl, q0, _, 0, _, rfl, rfl, .inl (.inl hq), rfl, rfl, _, rfl, iteF' (by decide +kernel) ?_⟩
        refine ⟨_, rfl, q0, _, 0, _, rfl, rfl, .inl (.inl hq), rfl, rfl, _, rfl, iteF' (by decide +kernel) ?_⟩
        refine ⟨_, rfl, q0, _, 0, _, rfl, rfl, .inl (.inl hq), rfl, rfl, _, rfl, iteT' (by decide +kernel) ?_⟩
        exact ⟨_, rfl, _, rfl, _, rfl, q0, _, 1, _, rfl, rfl, .inl (.inl hq), rfl, st, r, g, L, gg, row, _, 0, rfl, s1, by decide, nL, kL, hth, hg, fun H2 p us b hp kp s2 _ => ⟨_, p, rfl, b, s2.mono (by omega)⟩⟩
      · -- part
        refine ⟨_, rfl, q0, _, 0, _, rfl, rfl, .inl (.inl hq), rfl, rfl, _, rfl, iteF' (by decide +kernel) ?_⟩
        refine ⟨_, rfl, q0, _, 0, _, rfl, rfl, .inl (.inl hq), rfl, rfl, _, rfl, iteF' (by decide +kernel) ?_⟩
        refine ⟨_, rfl, q0, _, 0, _, rfl, rfl, .inl (.inl hq), rfl, rfl, _, rfl, iteF' (by decide +kernel) ?_⟩
        refine ⟨_, rfl, q0, _, 0, _, rfl, rfl, .inl (.inl hq), rfl, rfl, _, rfl, iteF' (by decide +kernel) ?_⟩
        refine ⟨_, rfl, q0, _, 0, _, rfl, rfl, .inl (.inl hq), rfl, rfl, _, rfl, iteF' (by decide +kernel) ?_⟩
        refine ⟨_, rfl, q0, _, 0, _, rfl, rfl, .inl (.inl hq), rfl, rfl, _, rfl, iteT' (by decide +kernel) ?_⟩
        exact ⟨_, rfl, _, rfl, _, rfl, q0, _, 1, _, rfl, rfl, .inl (.inl hq), rfl, _, rfl, q0, _, 2, _, rfl, rfl, .inl (.inl hq), rfl, st, r, g, L, row, _, 0, wd, sm, rfl, by omega, hsm, hw, s1, by omega, nL, kL, hth, fun H2 p us b hp kp s2 _ => ⟨_, p, rfl, b, s2.mono (by omega)⟩⟩
      · -- heap, tree, ranks
        rcases hk with rfl | rfl | rfl
        · refine ⟨_, rfl, q0, _, 0, _, rfl, rfl, .inl (.inl hq), rfl, rfl, _, rfl, iteF' (by decide +kernel) ?_⟩
          refine ⟨_, rfl, q0, _, 0, _, rfl, rfl, .inl (.inl hq), rfl, rfl, _, rfl, iteF' (by decide +kernel) ?_⟩
          refine ⟨_, rfl, q0, _, 0, _, rfl, rfl, .inl (.inl hq), rfl, rfl, _, rfl, iteF' (by decide +kernel) ?_⟩
          refine ⟨_, rfl, q0, _, 0, _, rfl, rfl, .inl (.inl hq), rfl, rfl, _, rfl, iteF' (by decide +kernel) ?_⟩
          refine ⟨_, rfl, q0, _, 0, _, rfl, rfl, .inl (.inl hq), rfl, rfl, _, rfl, iteF' (by decide +kernel) ?_⟩
          refine ⟨_, rfl, q0, _, 0, _, rfl, rfl, .inl (.inl hq), rfl, rfl, _, rfl, iteF' (by decide +kernel) ?_⟩
          refine ⟨_, rfl, q0, _, 0, _, rfl, rfl, .inl (.inl hq), rfl, rfl, _, rfl, iteF' (by decide +kernel) ?_⟩
          refine ⟨_, rfl, q0, _, 0, _, rfl, rfl, .inl (.inl hq), rfl, rfl, _, rfl, iteT' (by decide +kernel) ?_⟩
          exact ⟨_, rfl, _, rfl, st, r, g, L, row, _, 0, rfl, s1, by decide, nL, kL, hth, fun H2 p us b hp kp s2 _ => ⟨_, p, rfl, b, s2.mono (by omega)⟩⟩
        · refine ⟨_, rfl, q0, _, 0, _, rfl, rfl, .inl (.inl hq), rfl, rfl, _, rfl, iteF' (by decide +kernel) ?_⟩
          refine ⟨_, rfl, q0, _, 0, _, rfl, rfl, .inl (.inl hq), rfl, rfl, _, rfl, iteF' (by decide +kernel) ?_⟩
          refine ⟨_, rfl, q0, _, 0, _, rfl, rfl, .inl (.inl hq), rfl, rfl, _, rfl, iteF' (by decide +kernel) ?_⟩
          refine ⟨_, rfl, q0, _, 0, _, rfl, rfl, .inl (.inl hq), rfl, rfl, _, rfl, iteF' (by decide +kernel) ?_⟩
          refine ⟨_, rfl, q0, _, 0, _, rfl, rfl, .inl (.inl hq), rfl, rfl, _, rfl, iteF' (by decide +kernel) ?_⟩
          refine ⟨_, rfl, q0, _, 0, _, rfl, rfl, .inl (.inl hq), rfl, rfl, _, rfl, iteF' (by decide +kernel) ?_⟩
          refine ⟨_, rfl, q0, _, 0, _, rfl, rfl, .inl (.inl hq), rfl, rfl, _, rfl, iteF' (by decide +kernel) ?_⟩
          refine ⟨_, rfl, q0, _, 0, _, rfl, rfl, .inl (.inl hq), rfl, rfl, _, rfl, iteF' (by decide +kernel) ?_⟩
          refine ⟨_, rfl, q0, _, 0, _, rfl, rfl, .inl (.inl hq), rfl, rfl, _, rfl, iteT' (by decide +kernel) ?_⟩
          exact ⟨_, rfl, _, rfl, st, r, g, L, row, _, 0, rfl, s1, by decide, nL, kL, hth, fun H2 p us b hp kp s2 _ => ⟨_, p, rfl, b, s2.mono (by omega)⟩⟩
        · refine ⟨_, rfl, q0, _, 0, _, rfl, rfl, .inl (.inl hq), rfl, rfl, _, rfl, iteF' (by decide +kernel) ?_⟩
          refine ⟨_, rfl, q0, _, 0, _, rfl, rfl, .inl (.inl hq), rfl, rfl, _, rfl, iteF' (by decide +kernel) ?_⟩
          refine ⟨_, rfl, q0, _, 0, _, rfl, rfl, .inl (.inl hq), rfl, rfl, _, rfl, iteF' (by decide +kernel) ?_⟩
          refine ⟨_, rfl, q0, _, 0, _, rfl, rfl, .inl (.inl hq), rfl, rfl, _, rfl, iteF' (by decide +kernel) ?_⟩
          refine ⟨_, rfl, q0, _, 0, _, rfl, rfl, .inl (.inl hq), rfl, rfl, _, rfl, iteF' (by decide +kernel) ?_⟩
          refine ⟨_, rfl, q0, _, 0, _, rfl, rfl, .inl (.inl hq), rfl, rfl, _, rfl, iteF' (by decide +kernel) ?_⟩
          refine ⟨_, rfl, q0, _, 0, _, rfl, rfl, .inl (.inl hq), rfl, rfl, _, rfl, iteF' (by decide +kernel) ?_⟩
          refine ⟨_, rfl, q0, _, 0, _, rfl, rfl, .inl (.inl hq), rfl, rfl, _, rfl, iteF' (by decide +kernel) ?_⟩
          refine ⟨_, rfl, q0, _, 0, _, rfl, rfl, .inl (.inl hq), rfl, rfl, _, rfl, iteF' (by decide +kernel) ?_⟩
          exact ⟨_, rfl, _, rfl, st, r, g, L, row, _, 0, rfl, s1, by decide, nL, kL, hth, fun H2 p us b hp kp s2 _ => ⟨_, p, rfl, b, s2.mono (by omega)⟩⟩
      · -- a kind and a word
        rcases hk with rfl | rfl | rfl | rfl | ⟨rfl, hw⟩
        · refine ⟨_, rfl, q0, _, 0, _, rfl, rfl, .inl (.inl hq), rfl, rfl, _, rfl, iteT' (by decide +kernel) ?_⟩
          exact ⟨_, rfl, _, rfl, _, rfl, q0, _, 1, _, rfl, rfl, .inl (.inl hq), rfl, st, r, g, L, row, _, 0, wd, rfl, s1, by decide, nL, kL, hth, fun H2 p us b hp kp s2 _ => ⟨_, p, rfl, b, s2.mono (by omega)⟩⟩
        · refine ⟨_, rfl, q0, _, 0, _, rfl, rfl, .inl (.inl hq), rfl, rfl, _, rfl, iteF' (by decide +kernel) ?_⟩
          refine ⟨_, rfl, q0, _, 0, _, rfl, rfl, .inl (.inl hq), rfl, rfl, _, rfl, iteT' (by decide +kernel) ?_⟩
          exact ⟨_, rfl, _, rfl, _, rfl, q0, _, 1, _, rfl, rfl, .inl (.inl hq), rfl, st, r, g, L, row, _, 0, wd, rfl, s1, by decide, nL, kL, hth, fun H2 p us b hp kp s2 _ => ⟨_, p, rfl, b, s2.mono (by omega)⟩⟩
        · refine ⟨_, rfl, q0, _, 0, _, rfl, rfl, .inl (.inl hq), rfl, rfl, _, rfl, iteF' (by decide +kernel) ?_⟩
          refine ⟨_, rfl, q0, _, 0, _, rfl, rfl, .inl (.inl hq), rfl, rfl, _, rfl, iteF' (by decide +kernel) ?_⟩
          refine ⟨_, rfl, q0, _, 0, _, rfl, rfl, .inl (.inl hq), rfl, rfl, _, rfl, iteT' (by decide +kernel) ?_⟩
          exact ⟨_, rfl, _, rfl, _, rfl, q0, _, 1, _, rfl, rfl, .inl (.inl hq), rfl, st, r, g, L, row, _, 0, wd, rfl, s1, by decide, nL, kL, hth, fun H2 p us b hp kp s2 _ => ⟨_, p, rfl, b, s2.mono (by omega)⟩⟩
        · refine ⟨_, rfl, q0, _, 0, _, rfl, rfl, .inl (.inl hq), rfl, rfl, _, rfl, iteF' (by decide +kernel) ?_⟩
          refine ⟨_, rfl, q0, _, 0, _, rfl, rfl, .inl (.inl hq), rfl, rfl, _, rfl, iteF' (by decide +kernel) ?_⟩
          refine ⟨_, rfl, q0, _, 0, _, rfl, rfl, .inl (.inl hq), rfl, rfl, _, rfl, iteF' (by decide +kernel) ?_⟩
          refine ⟨_, rfl, q0, _, 0, _, rfl, rfl, .inl (.inl hq), rfl, rfl, _, rfl, iteF' (by decide +kernel) ?_⟩
          refine ⟨_, rfl, q0, _, 0, _, rfl, rfl, .inl (.inl hq), rfl, rfl, _, rfl, iteT' (by decide +kernel) ?_⟩
          exact ⟨_, rfl, _, rfl, _, rfl, q0, _, 1, _, rfl, rfl, .inl (.inl hq), rfl, st, r, g, L, row, _, 0, wd, rfl, by omega, s1, by unfold mcost; split <;> omega, nL, kL, hth, fun H2 p us b hp kp s2 _ => ⟨_, p, rfl, b, s2.mono (by unfold mcost; split <;> omega)⟩⟩
        · refine ⟨_, rfl, q0, _, 0, _, rfl, rfl, .inl (.inl hq), rfl, rfl, _, rfl, iteF' (by decide +kernel) ?_⟩
          refine ⟨_, rfl, q0, _, 0, _, rfl, rfl, .inl (.inl hq), rfl, rfl, _, rfl, iteF' (by decide +kernel) ?_⟩
          refine ⟨_, rfl, q0, _, 0, _, rfl, rfl, .inl (.inl hq), rfl, rfl, _, rfl, iteF' (by decide +kernel) ?_⟩
          refine ⟨_, rfl, q0, _, 0, _, rfl, rfl, .inl (.inl hq), rfl, rfl, _, rfl, iteF' (by decide +kernel) ?_⟩
          refine ⟨_, rfl, q0, _, 0, _, rfl, rfl, .inl (.inl hq), rfl, rfl, _, rfl, iteF' (by decide +kernel) ?_⟩
          refine ⟨_, rfl, q0, _, 0, _, rfl, rfl, .inl (.inl hq), rfl, rfl, _, rfl, iteF' (by decide +kernel) ?_⟩
          refine ⟨_, rfl, q0, _, 0, _, rfl, rfl, .inl (.inl hq), rfl, rfl, _, rfl, iteT' (by decide +kernel) ?_⟩
          exact ⟨_, rfl, _, rfl, _, rfl, q0, _, 1, _, rfl, rfl, .inl (.inl hq), rfl, st, r, g, L, row, _, 0, wd, rfl, by omega, hw, s1, by omega, nL, kL, hth, fun H2 p us b hp kp s2 _ => ⟨_, p, rfl, b, s2.mono (by omega)⟩⟩
    · obtain ⟨own, o, rfl, b2, s2⟩ := p
      obtain ⟨log, hlog, hgood, hll⟩ := s2.gg
      have kst2 := b2.get kst nst
      refine ⟨_, rfl, st, _, 1, .ref g, rfl, rfl, .inl (.inl kst2), rfl, _, rfl, sz (show 2 ≤ 16777216 by decide), fun p hp => ?_⟩
      have e3 : Same H H2 := fun b o e => b2 _ _ (e2 _ _ e) (fun z => ne_of_none e hg (List.mem_singleton.mp z))
      exact q _ p g o log (e3.trans (same_upd hp)) hg upd_same (hlog.same (same_upd hp)) hgood (by omega)
end
end K20
/-! K20T: _law_start, _law_signs, _law_words, _law_error, _law_parsed. -/
namespace K20
open PySem PySem.Spec PyProof.Rows L2
section
variable {P : Program} {w : World} {K : PySem.W.Frag} {mg : Str → Option Value} {base : Heap} {CS CE CT : Addr}
/-! ### _law_signs -/
theorem ok_w_signs (T : Txt K mg CS CE CT) : Ok P w K mg base CX0 1 "_law_signs" P_w_signs spFormatRow := by
  refine T.d_w_signs.ok0 sc_w_signs (fun _ _ _ _ _ _ us hl => match us, hl with | [_], _ => rfl) (fun vs H Q E h => ?_) (fun f cdv A outer s H vs Q E hr h => ?_)
  · obtain ⟨_, _, rfl, _⟩ := h
    rfl
  · obtain ⟨a, ns, rfl, ha, hok, q⟩ := h
    obtain ⟨h1, h2⟩ := rowOk_all hok
    refine ⟨_, (pss_one (ps_ret (pe_join pe_str (pe_lc (own := [("_law_one", 1)]) rfl sc_w_signs.nd (pi_list (pv 0)) (blkOk_by (N := N_w_signs) (sc := defScope s_w_signs) (by decide +kernel)) (fun _ _ _ _ _ => (pg_name (i := 1) sc_w_signs.nd rfl (Or.inl rfl))) (fun _ _ _ _ _ => pts_nil) (fun _ _ _ _ _ => (pe_callTy call_str_int (by rfl) T.f_str (by decide +kernel) (pa_cons (pv 1) pa_nil))))))), ?_⟩
    refine ⟨⟨_, rfl⟩, _, rfl, a, rfl, ⟨_, .inl (.inl ha)⟩, fun D hD => ?_⟩
    refine lc_mapL (((ns.map showI).map mkS).map V.str) (by simp) (by rw [List.length_map]; omega) hD (.inl (.inl ha)) (fun i x y H2 hi hy e' Qe qe => ?_) (fun H2 e' hd => ?_)
    · obtain ⟨n, hn, rfl⟩ := map_get hi
      obtain ⟨z, hz, rfl⟩ := map_get hy
      obtain ⟨u, hu, rfl⟩ := map_get hz
      obtain ⟨n', hn', rfl⟩ := map_get hu
      rw [hn] at hn'
      cases hn'
      have hm := h2 n (List.mem_of_getElem? hn)
      refine ⟨rfl, _, rfl, n, rfl, log_small (by omega), ?_⟩
      rw [← mk_int] at qe
      exact qe H2 (Same.refl _)
    · refine ⟨_, D, (ns.map showI).map mkS, rfl, rfl, .inl (.inl (.inl hd)), row_size hok _ (by decide), ?_⟩
      rw [join_mk (S := [32]) rfl]
      exact q H2 e'
/-! ### _law_words -/
theorem ok_w_words (T : Txt K mg CS CE CT) : Ok P w K mg base CX0 1 "_law_words" P_w_words spRecordText := by
  refine T.d_w_words.ok0 sc_w_words (fun _ _ _ _ _ _ us hl => match us, hl with | [_], _ => rfl) (fun vs H Q E h => ?_) (fun f cdv A outer s H vs Q E hr h => ?_)
  · obtain ⟨_, _, rfl, _⟩ := h
    rfl
  · obtain ⟨p, ⟨n, log, b⟩, rfl, ⟨l, hp, hl⟩, hok, q⟩ := h
    have hl : LogAt H l log := hl
    have hp : H p = some (.tup [.int n, .ref l, .bl b]) := hp
    obtain ⟨ts, h1, h2, h3⟩ := id hl
    obtain ⟨g1, g2, g3, _⟩ := recOk_parts hok
    have g1 : 1 ≤ n ∧ n ≤ 30 := g1
    have g2 : log.length ≤ 900 := g2
    have g3 : ∀ q ∈ log, (0 ≤ q.1 ∧ q.1 ≤ n - 1) ∧ (0 ≤ q.2.1 ∧ q.2.1 ≤ n - 1) ∧ q.1 ≠ q.2.1 := g3
    refine ⟨_, (pss_cons (ps_asg (pv 0) (pg_tup rfl (pgs_cons (pg_name (i := 1) sc_w_words.nd rfl (Or.inl rfl)) (pgs_cons (pg_name (i := 2) sc_w_words.nd rfl (Or.inl rfl)) (pgs_cons (pg_name (i := 3) sc_w_words.nd rfl (Or.inl rfl)) pgs_nil)))))
  (pss_cons (ps_setLc (i := 4) (own := [("_law_x", 5), ("_law_y", 6), ("_law_answer", 7)]) rfl sc_w_words.nd rfl rfl (sw_true rfl rfl rfl (by decide +kernel)) (pi_list (pv 2)) (blkOk_by (N := N_w_words) (sc := defScope s_w_words) (by decide +kernel)) (fun _ _ _ _ _ => (pg_tupK (n := 3) K rfl rfl (pgs_cons (pg_name (i := 5) sc_w_words.nd rfl (Or.inl rfl)) (pgs_cons (pg_name (i := 6) sc_w_words.nd rfl (Or.inl rfl)) (pgs_cons (pg_name (i := 7) sc_w_words.nd rfl (Or.inl rfl)) pgs_nil))))) (fun _ _ _ _ _ => pts_nil) (fun _ _ _ _ _ => (pe_op op_add_str (pe_op op_add_str (pe_op op_add_str (pe_callTy call_str_int (by rfl) T.f_str (by decide +kernel) (pa_cons (pv 5) pa_nil)) pe_str) (pe_callTy call_str_int (by rfl) T.f_str (by decide +kernel) (pa_cons (pv 6) pa_nil))) (pe_ix ix_str pe_str (pe_ifExp (pt_val (pv 7)) pe_int pe_int) (fun _ _ => rfl)))))
  (pss_one (ps_ret (pe_join pe_str (pe_op op_cat (pe_op op_cat (pe_lst (pa_cons (pe_op op_add_str (pe_callTy call_str_int (by rfl) T.f_str (by decide +kernel) (pa_cons (pv 1) pa_nil)) pe_str) pa_nil)) (pv 4)) (pe_op op_rep (pe_lst (pa_cons pe_str pa_nil)) (pe_ifExp (pt_val (pv 3)) pe_int pe_int)))))))), ?_⟩
    refine ⟨_, rfl, _, _, rfl, .inl (.inl hp), rfl, _, _, rfl, _, _, rfl, _, _, rfl, rfl, ?_⟩
    refine ⟨_, rfl, l, rfl, ⟨_, .inl (.inl h1)⟩, fun D hD => ?_⟩
    refine lc_mapL ((log.map quL).map fun w => V.str (mkS w)) (by simp [h2]) (by rw [List.length_map]; omega) hD (.inl (.inl h1)) (fun i x y H2 hi hy e' Qe qe => ?_) (fun H2 e' hd => ?_)
    · obtain ⟨t, ht, rfl⟩ := map_get hi
      obtain ⟨u, hu, rfl⟩ := map_get hy
      obtain ⟨q0, hq0, rfl⟩ := map_get hu
      obtain ⟨k1, k2, _⟩ := g3 q0 (List.mem_of_getElem? hq0)
      have htq := e' _ _ (h3 i t q0 ht hq0)
      obtain ⟨x1, y1, b1⟩ := q0
      have k1 : 0 ≤ x1 ∧ x1 ≤ n - 1 := k1
      have k2 : 0 ≤ y1 ∧ y1 ≤ n - 1 := k2
      have l1 := showI_len (n := x1) (by omega) (by omega)
      have l2 := showI_len (n := y1) (by omega) (by omega)
      refine ⟨_, _, rfl, .inl (.inl htq), rfl, _, _, rfl, _, _, rfl, _, _, rfl, rfl, rfl, ?_⟩
      have key : Qe (.str (mkS (showI x1 ++ [60] ++ showI y1) ++ mkS [if b1 then 43 else 45])) H2 := by
        rw [mk_ap]
        exact qe H2 (Same.refl _)
      refine ⟨_, rfl, x1, rfl, log_small (by omega), ?_⟩
      show ∃ i j : Str, V.str (Str.ofString (toString x1)) = .str i ∧ V.str "<" = .str j ∧ i.length + j.length ≤ sizeLine ∧ _
      rw [mk_int]
      have lz : ∀ {k : Nat}, k ≤ 1000 → k ≤ sizeLine := fun h => sz (by omega)
      have c1 : ("<" : Str).length = 1 := rfl
      refine ⟨_, _, rfl, rfl, lz (by rw [mk_len, c1]; omega), ?_⟩
      refine ⟨_, rfl, y1, rfl, log_small (by omega), ?_⟩
      show ∃ i j : Str, V.str (mkS (showI x1) ++ "<") = .str i ∧ V.str (Str.ofString (toString y1)) = .str j ∧ i.length + j.length ≤ sizeLine ∧ _
      rw [mk_int, show ("<" : Str) = mkS [60] from rfl, mk_ap]
      refine ⟨_, _, rfl, rfl, lz (by rw [mk_len, mk_len, List.length_append, List.length_singleton]; omega), ?_⟩
      rw [mk_ap]
      have l3 : ∀ k : Nat, (mkS (showI x1 ++ [60] ++ showI y1)).length + (mkS [k]).length ≤ sizeLine := fun k => lz (by rw [mk_len, mk_len, List.length_append, List.length_append, List.length_singleton, List.length_singleton]; omega)
      refine ⟨_, rfl, _, rfl, ?_⟩
      cases b1 with
      | true => exact iteT ⟨_, 1, 43, rfl, rfl, lz (by decide), rfl, _, _, rfl, rfl, l3 43, key⟩
      | false => exact iteF ⟨_, 0, 45, rfl, rfl, lz (by decide), rfl, _, _, rfl, rfl, l3 45, key⟩
    · have lz : ∀ {k : Nat}, k ≤ 10000 → k ≤ sizeLine := fun h => sz (by omega)
      have l1 := showI_len (n := n) (by omega) (by omega)
      refine ⟨⟨_, rfl⟩, _, rfl, n, rfl, log_small (by omega), ?_⟩
      show ∃ i j : Str, V.str (Str.ofString (toString n)) = .str i ∧ V.str ":" = .str j ∧ i.length + j.length ≤ sizeLine ∧ _
      rw [mk_int, show (":" : Str) = mkS [58] from rfl]
      refine ⟨_, _, rfl, rfl, lz (by rw [mk_len, mk_len, List.length_singleton]; omega), lz (show 1 ≤ 10000 by decide), fun A hA => ?_⟩
      rw [mk_ap]
      refine ⟨_, rfl, A, D, _, _, rfl, rfl, upd_same, (same_upd hA) _ _ hd, lz (by simp; omega), fun B hB => ?_⟩
      have e2 := (e'.trans (same_upd hA)).trans (same_upd (o := .lst ([V.str (mkS (showI n ++ [58]))] ++ (log.map quL).map fun w => V.str (mkS w))) hB)
      have hB2 : (upd (upd H2 A (.lst [V.str (mkS (showI n ++ [58]))])) B (.lst ([V.str (mkS (showI n ++ [58]))] ++ (log.map quL).map fun w => V.str (mkS w)))) B = some (.lst ([V.str (mkS (showI n ++ [58]))] ++ (log.map quL).map fun w => V.str (mkS w))) := upd_same
      generalize upd (upd H2 A (.lst [V.str (mkS (showI n ++ [58]))])) B (.lst ([V.str (mkS (showI n ++ [58]))] ++ (log.map quL).map fun w => V.str (mkS w))) = H3 at *
      have hw : ([V.str (mkS (showI n ++ [58]))] ++ (log.map quL).map (fun w => V.str (mkS w)) ++ (if b then [V.str "end"] else [])) = ((recWords (n, log, b)).map mkS).map V.str := by
        unfold recWords
        cases b <;> simp <;> rfl
      have fin : ∀ (F : Addr) (H4 : Hp), Same H H4 → H4 F = some (.lst ([V.str (mkS (showI n ++ [58]))] ++ (log.map quL).map (fun w => V.str (mkS w)) ++ (if b then [V.str "end"] else []))) →
          ∃ a p, ∃ ys : List Str, V.str " " = .str a ∧ [V.ref F] = [.ref p] ∧ (SqL K H4 p (ys.map V.str) ∨ SqT K H4 p (ys.map V.str)) ∧ (ys.map (·.length)).sum + ys.length * a.length ≤ 16777216 ∧ Q (.str (Txt.join a ys)) H4 := fun F H4 e4 h4 => by
        rw [hw] at h4
        refine ⟨_, F, (recWords (n, log, b)).map mkS, rfl, rfl, .inl (.inl (.inl h4)), rec_size hok _ (by decide), ?_⟩
        rw [join_mk (S := [32]) rfl]
        exact q H4 e4
      refine ⟨lz (show 1 ≤ 10000 by decide), fun C hC => ?_⟩
      refine ⟨_, rfl, _, rfl, ?_⟩
      cases b with
      | true =>
        refine iteT ⟨C, 1, [.str "end"], rfl, rfl, upd_same, by decide, by decide, lz (by decide), fun C2 hC2 => ?_⟩
        refine ⟨B, C2, _, _, rfl, rfl, (same_upd hC2) _ _ ((same_upd hC) _ _ hB2), upd_same, lz (by simp; omega), fun F hF => ?_⟩
        exact fin F _ (((e2.trans (same_upd hC)).trans (same_upd hC2)).trans (same_upd hF)) upd_same
      | false =>
        refine iteF ⟨C, 0, [.str "end"], rfl, rfl, upd_same, by decide, by decide, lz (by decide), fun C2 hC2 => ?_⟩
        refine ⟨B, C2, _, _, rfl, rfl, (same_upd hC2) _ _ ((same_upd hC) _ _ hB2), upd_same, lz (by simp; omega), fun F hF => ?_⟩
        exact fin F _ (((e2.trans (same_upd hC)).trans (same_upd hC2)).trans (same_upd hF)) upd_same
/-! ### _law_error -/
def spError (CT : Addr) : Sp := fun vs H Q _ => ∃ a, vs = [.ref a] ∧ H a = some (ExK (.ref CT) none a) ∧ ∀ H', Same H H' → Q (.str "text") H'
theorem ok_w_error (T : Txt K mg CS CE CT) : Ok P w K mg base CX0 1 "_law_error" P_w_error (spError CT) := by
  refine T.d_w_error.ok0 sc_w_error (fun _ _ _ _ _ _ us hl => match us, hl with | [_], _ => rfl) (fun vs H Q E h => ?_) (fun f cdv A outer s H vs Q E hr h => ?_)
  · obtain ⟨_, rfl, _⟩ := h
    rfl
  · obtain ⟨a, rfl, ha, q⟩ := h
    obtain ⟨c_BadWay, g_BadWay, k1⟩ := T.k_BadWay
    obtain ⟨c_BadRow, g_BadRow, k2⟩ := T.k_BadRow
    obtain ⟨c_BadRecord, g_BadRecord, k3⟩ := T.k_BadRecord
    obtain ⟨c_BadAnswer, g_BadAnswer, k4⟩ := T.k_BadAnswer
    obtain ⟨c_BadNumber, g_BadNumber, k5⟩ := T.k_BadNumber
    obtain ⟨c_NotFound, g_NotFound, k7⟩ := T.k_NotFound
    obtain ⟨c_BadText, hcT⟩ : ∃ c, c = CT := ⟨_, rfl⟩
    obtain ⟨c_SortError, hcE⟩ : ∃ c, c = CE := ⟨_, rfl⟩
    have g_BadText : mg "BadText" = some (.ref c_BadText) := by rw [hcT]; exact T.e_text.g
    have g_SortError : mg "SortError" = some (.ref c_SortError) := by rw [hcE]; exact T.e_sort
    refine ⟨_, (pss_cons (ps_set (i := 1) sc_w_error.nd rfl (Or.inl rfl) (pe_lst (pa_cons (pe_callB call_isK (by rfl) T.f_isinstance (by decide +kernel) (pa_cons (pv 0) (pa_cons (pe_glob (v := .ref c_BadWay) (by rfl) g_BadWay rfl) pa_nil))) (pa_cons (pe_callB call_isK (by rfl) T.f_isinstance (by decide +kernel) (pa_cons (pv 0) (pa_cons (pe_glob (v := .ref c_BadRow) (by rfl) g_BadRow rfl) pa_nil))) (pa_cons (pe_callB call_isK (by rfl) T.f_isinstance (by decide +kernel) (pa_cons (pv 0) (pa_cons (pe_glob (v := .ref c_BadRecord) (by rfl) g_BadRecord rfl) pa_nil))) pa_nil)))))
  (pss_cons (ps_set (i := 1) sc_w_error.nd rfl (Or.inl rfl) (pe_op op_cat (pv 1) (pe_lst (pa_cons (pe_callB call_isK (by rfl) T.f_isinstance (by decide +kernel) (pa_cons (pv 0) (pa_cons (pe_glob (v := .ref c_BadAnswer) (by rfl) g_BadAnswer rfl) pa_nil))) (pa_cons (pe_callB call_isK (by rfl) T.f_isinstance (by decide +kernel) (pa_cons (pv 0) (pa_cons (pe_glob (v := .ref c_BadNumber) (by rfl) g_BadNumber rfl) pa_nil))) (pa_cons (pe_callB call_isK (by rfl) T.f_isinstance (by decide +kernel) (pa_cons (pv 0) (pa_cons (pe_glob (v := .ref c_BadText) (by rfl) g_BadText rfl) pa_nil))) pa_nil))))))
  (pss_cons (ps_expr (pe_bm PySem.F.plainAttrs_list PySem.F.slot_list_append PySem.F.type_list_append mt_append (pv 1) (pa_cons (pe_callB call_isK (by rfl) T.f_isinstance (by decide +kernel) (pa_cons (pv 0) (pa_cons (pe_glob (v := .ref c_NotFound) (by rfl) g_NotFound rfl) pa_nil))) pa_nil)))
  (pss_cons (ps_if (PW.pt (pw_or (pt_cmpR op_ne (pe_bm PySem.F.plainAttrs_list PySem.F.slot_list_count PySem.F.type_list_count mt_countB (pv 1) (pa_cons pe_bl pa_nil)) pe_int (nomark _)) (pw_or (pt_not (pt_val (pe_callB call_isK (by rfl) T.f_isinstance (by decide +kernel) (pa_cons (pv 0) (pa_cons (pe_glob (v := .ref c_SortError) (by rfl) g_SortError rfl) pa_nil))))) (pw_or1 (pt_not (pt_val (pe_callB call_isK (by rfl) T.f_isinstance (by decide +kernel) (pa_cons (pv 0) (pa_cons (pe_bltn (v := .ty "ValueError") (by rfl) T.f_ValueError (by decide +kernel) rfl) pa_nil))))))))) (pss_one (ps_ret pe_str)) pss_nil)
  (pss_one (ps_ret (pe_ix ix_list (pe_lst (pa_cons pe_str (pa_cons pe_str (pa_cons pe_str (pa_cons pe_str (pa_cons pe_str (pa_cons pe_str (pa_cons pe_str pa_nil)))))))) (pe_bm PySem.F.plainAttrs_list PySem.F.slot_list_index PySem.F.type_list_index mt_index (pv 1) (pa_cons pe_bl pa_nil)) (fun _ _ => rfl)))))))), ?_⟩
    subst hcT hcE
    have rr : ∀ {C : Addr} (u : Value), RelV (.ref C) u → u = .ref C := fun u h => h
    refine ⟨_, rfl, a, _, _, _, false, rfl, ha, T.exc, rr, k1, _, rfl, a, _, _, _, false, rfl, ha, T.exc, rr, k2, _, rfl, a, _, _, _, false, rfl, ha, T.exc, rr, k3, sz (show 3 ≤ 16777216 by decide), fun p1 h1 => ?_⟩
    have ha1 := (same_upd (o := .lst [.bl false, .bl false, .bl false]) h1) _ _ ha
    refine ⟨_, rfl, _, rfl, a, _, _, _, false, rfl, ha1, T.exc, rr, k4, _, rfl, a, _, _, _, false, rfl, ha1, T.exc, rr, k5, _, rfl, a, _, _, _, true, rfl, ha1, T.exc, rr, T.k_text, sz (show 3 ≤ 16777216 by decide), fun p2 h2 => ?_⟩
    refine ⟨p1, p2, _, _, rfl, rfl, (same_upd h2) _ _ upd_same, upd_same, sz (show 6 ≤ 16777216 by decide), fun p3 h3 => ?_⟩
    have e3 : Same H (upd (upd (upd H p1 (.lst [.bl false, .bl false, .bl false])) p2 (.lst [.bl false, .bl false, .bl true])) p3 (.lst [.bl false, .bl false, .bl false, .bl false, .bl false, .bl true])) := ((same_upd h1).trans (same_upd h2)).trans (same_upd h3)
    have k33 : (upd (upd (upd H p1 (.lst [.bl false, .bl false, .bl false])) p2 (.lst [.bl false, .bl false, .bl true])) p3 (.lst [.bl false, .bl false, .bl false, .bl false, .bl false, .bl true])) p3 = some (.lst [.bl false, .bl false, .bl false, .bl false, .bl false, .bl true]) := upd_same
    have hp3 := none_back ((same_upd h1).trans (same_upd h2)) h3
    show tSeq _ _ _ _ (upd (upd (upd H p1 (.lst [.bl false, .bl false, .bl false])) p2 (.lst [.bl false, .bl false, .bl true])) p3 (.lst [.bl false, .bl false, .bl false, .bl false, .bl false, .bl true]))
    generalize upd (upd (upd H p1 (.lst [.bl false, .bl false, .bl false])) p2 (.lst [.bl false, .bl false, .bl true])) p3 (.lst [.bl false, .bl false, .bl false, .bl false, .bl false, .bl true]) = H3 at *
    refine ⟨_, rfl, .inl ⟨rfl, _, .inl (.inl k33)⟩, _, rfl, a, _, _, _, false, rfl, e3 _ _ ha, T.exc, rr, k7, p3, _, _, rfl, rfl, k33, sz' (show 6 < 16777216 by decide), ?_⟩
    have e4 : Same H (upd H3 p3 (.lst ([.bl false, .bl false, .bl false, .bl false, .bl false, .bl true] ++ [.bl false]))) := same_mut e3 hp3
    have k4' : (upd H3 p3 (.lst ([.bl false, .bl false, .bl false, .bl false, .bl false, .bl true] ++ [.bl false]))) p3 = some (.lst [.bl false, .bl false, .bl false, .bl false, .bl false, .bl true, .bl false]) := upd_same
    refine ⟨_, rfl, .inl ⟨rfl, _, .inl (.inl k4')⟩, p3, _, _, rfl, rfl, .inl (.inl k4'), rfl, rfl, rfl, _, rfl, iteF' (by decide +kernel) ?_⟩
    refine ⟨_, rfl, a, _, _, _, true, rfl, e4 _ _ ha, T.exc, rr, T.k_sort, _, rfl, iteF' (by rfl) ?_⟩
    refine ⟨_, rfl, a, _, _, _, true, rfl, e4 _ _ ha, T.exc, fun u h => h, T.k_ve, _, rfl, iteF' (by rfl) ?_⟩
    refine ⟨sz (show 7 ≤ 16777216 by decide), fun p4 h4 => ?_⟩
    refine ⟨_, rfl, .inl ⟨rfl, _, .inl (.inl ((same_upd h4) _ _ k4'))⟩, p3, _, .bl true, 5, .bl true, rfl, rfl, .inl (.inl ((same_upd h4) _ _ k4')), rfl, rfl, rfl, rfl, fun m' z' hm' hz' => ?_, ?_⟩
    · rcases m' with _ | _ | _ | _ | _ | m'
      · cases hz'
        rfl
      · cases hz'
        rfl
      · cases hz'
        rfl
      · cases hz'
        rfl
      · cases hz'
        rfl
      · omega
    · exact ⟨p4, _, 5, _, rfl, rfl, .inl (.inl upd_same), rfl, q _ (e4.trans (same_upd h4))⟩
/-! ### _law_parsed -/
def Out0 (H : Hp) (Q : VK) (x : V) : Prop := (NonText H x ∧ ∀ H', Same H H' → Q (.str "text") H') ∨ ∃ t : List Nat, x = .str (mkS t) ∧ t.length ≤ 900000 ∧
  (∀ ns, parseRowL t = some ns → ∀ H' a, Same H H' → H a = none → H' a = some (.lst (ns.map V.int)) → Q (.ref a) H') ∧ (parseRowL t = none → ∀ H', Same H H' → Q (.str "text") H')
def Out1 (H : Hp) (Q : VK) (x : V) : Prop := (NonText H x ∧ ∀ H', Same H H' → Q (.str "text") H') ∨ ∃ t : List Nat, x = .str (mkS t) ∧ t.length ≤ 900000 ∧
  (∀ r, parseRecL t = some r → ∀ H' a, Same H H' → H a = none → RecAt H' a r → Q (.ref a) H') ∧ (parseRecL t = none → ∀ H', Same H H' → Q (.str "text") H')
def spParsed : Sp := fun vs H Q _ => ∃ (k : Int) (x : V), vs = [.int k, x] ∧ ((k = 0 ∧ Out0 H Q x) ∨ (k = 1 ∧ Out1 H Q x))
theorem ok_w_parsed (T : Txt K mg CS CE CT) : Ok P w K mg base CX0 6 "_law_parsed" P_w_parsed spParsed := by
  refine T.d_w_parsed.ok0 sc_w_parsed (fun _ _ _ _ _ _ us hl => match us, hl with | [_, _], _ => rfl) (fun vs H Q E h => ?_) (fun f cdv A outer s H vs Q E hr h => ?_)
  · obtain ⟨_, _, rfl, _⟩ := h
    rfl
  · obtain ⟨k, x, rfl, h⟩ := h
    refine ⟨_, (pss_cons (ps_set (i := 2) sc_w_parsed.nd rfl (Or.inl rfl) pe_non)
      (pss_cons (ps_set (i := 3) sc_w_parsed.nd rfl (Or.inl rfl) pe_non)
      (pss_cons (ps_try_keep (i := 4) rfl rfl rfl sc_w_parsed.nd rfl rfl ⟨rfl, by decide, .inl T.e_sort⟩ takes0 (fun W pn xe tk _ => (pss_one (ps_set (i := 2) sc_w_parsed.nd rfl (Or.inl rfl) (pe_ifExp (pt_cmpR op_eq (pv 0) pe_int (nomark _)) (pe_callSO (ok_parse_row T) (hr.mono (by decide)) (fun σ => passAt tk σ) (pa_cons (pv 1) pa_nil)) (pe_callSO (ok_parse_record T) (hr.mono (by decide)) (fun σ => passAt tk σ) (pa_cons (pv 1) pa_nil)))))) (fun a oe cls d pn hz hf => (pss_one (ps_set (i := 3) sc_w_parsed.nd rfl (Or.inl rfl) (pv 4)))))
      (pss_one (ps_ret (pe_ifExp (pt_cmpR op_isN (pv 3) pe_non (nomark _)) (pv 2) (pe_callO (ok_w_error T) (hr.mono (by decide)) pass0 (pa_cons (pv 3) pa_nil)))))))), ?_⟩
    have err : ∀ {H1 : Hp} {a : Addr}, Same H H1 → H1 a = none → (∀ H', Same H H' → Q (.str "text") H') → ∃ z, ∃ k : Bool, z = V.bl k ∧ True := fun _ _ _ => ⟨_, true, rfl, trivial⟩
    refine ⟨_, rfl, rfl, _, rfl, ?_⟩
    rcases h with ⟨rfl, h⟩ | ⟨rfl, h⟩
    · refine iteT' (by decide +kernel) ?_
      rcases h with ⟨hn, q⟩ | ⟨t, rfl, hz, q1, q2⟩
      · refine ⟨_, rfl, x, rfl, .inl ⟨hn, ?_⟩⟩
        refine ⟨true, T.exm, fun _ a ha => ⟨_, rfl, fun hn2 => ?_⟩, fun q => Bool.noConfusion q⟩
        refine ⟨_, rfl, rfl, _, rfl, iteF' (by rfl) ⟨_, rfl, a, rfl, upd_same, fun H' e => q H' ((same_upd ha).trans e)⟩⟩
      · refine ⟨_, rfl, _, rfl, .inr ⟨t, rfl, hz, fun ns hns H' a e ha0 ha => ?_, fun hno H' e => ?_⟩⟩
        · exact ⟨_, rfl, rfl, _, rfl, iteT' (by rfl) ⟨_, rfl, q1 ns hns H' a e ha0 ha⟩⟩
        · refine ⟨true, T.exm, fun _ a ha => ⟨_, rfl, fun hn2 => ?_⟩, fun q => Bool.noConfusion q⟩
          refine ⟨_, rfl, rfl, _, rfl, iteF' (by rfl) ⟨_, rfl, a, rfl, upd_same, fun H2 e2 => q2 hno H2 ((e.trans (same_upd ha)).trans e2)⟩⟩
    · refine iteF' (by decide +kernel) ?_
      rcases h with ⟨hn, q⟩ | ⟨t, rfl, hz, q1, q2⟩
      · refine ⟨_, rfl, x, rfl, .inl ⟨hn, ?_⟩⟩
        refine ⟨true, T.exm, fun _ a ha => ⟨_, rfl, fun hn2 => ?_⟩, fun q => Bool.noConfusion q⟩
        refine ⟨_, rfl, rfl, _, rfl, iteF' (by rfl) ⟨_, rfl, a, rfl, upd_same, fun H' e => q H' ((same_upd ha).trans e)⟩⟩
      · refine ⟨_, rfl, _, rfl, .inr ⟨t, rfl, hz, fun r hr' H' a e ha0 ha => ?_, fun hno H' e => ?_⟩⟩
        · exact ⟨_, rfl, rfl, _, rfl, iteT' (by rfl) ⟨_, rfl, q1 r hr' H' a e ha0 ha⟩⟩
        · refine ⟨true, T.exm, fun _ a ha => ⟨_, rfl, fun hn2 => ?_⟩, fun q => Bool.noConfusion q⟩
          refine ⟨_, rfl, rfl, _, rfl, iteF' (by rfl) ⟨_, rfl, a, rfl, upd_same, fun H2 e2 => q2 hno H2 ((e.trans (same_upd ha)).trans e2)⟩⟩
end
end K20
/-! K20U: _law_start, _law_rejected. -/
namespace K20
open PySem PySem.Spec PyProof.Rows L2
/-- the heap behind a new thing, named by what comes next -/
theorem same_k {H : Hp} {p q : Addr} {o : HO} (h : H p = none) (_ : (upd H p o) q = none) : Same H (upd H p o) := same_upd h
theorem upd_at {H : Hp} {p q : Addr} {o : HO} (_ : H p = none) (_ : (upd H p o) q = none) : (upd H p o) p = some o := upd_same
def Bad0 (H : Hp) (x : V) : Prop := NonText H x ∨ ∃ t : List Nat, x = .str (mkS t) ∧ t.length ≤ 900000 ∧ parseRowL t = none
def Bad1 (H : Hp) (x : V) : Prop := NonText H x ∨ ∃ t : List Nat, x = .str (mkS t) ∧ t.length ≤ 900000 ∧ parseRecL t = none
theorem Bad0.same {H H' : Hp} {x : V} (h : Bad0 H x) (e : Same H H') : Bad0 H' x := h.imp (fun h => h.same e) id
theorem Bad1.same {H H' : Hp} {x : V} (h : Bad1 H x) (e : Same H H') : Bad1 H' x := h.imp (fun h => h.same e) id
theorem Bad0.out {H : Hp} {x : V} {Q : VK} (h : Bad0 H x) (q : ∀ H', Same H H' → Q (.str "text") H') : Out0 H Q x := by
  rcases h with h | ⟨t, h1, h2, h3⟩
  · exact .inl ⟨h, q⟩
  · exact .inr ⟨t, h1, h2, (fun ns e => by rw [h3] at e; cases e), fun _ => q⟩
theorem Bad1.out {H : Hp} {x : V} {Q : VK} (h : Bad1 H x) (q : ∀ H', Same H H' → Q (.str "text") H') : Out1 H Q x := by
  rcases h with h | ⟨t, h1, h2, h3⟩
  · exact .inl ⟨h, q⟩
  · exact .inr ⟨t, h1, h2, (fun ns e => by rw [h3] at e; cases e), fun _ => q⟩
theorem bad0_strs {H : Hp} {ss : List Str} (h : ss.all (fun s => decide (parseRowL (tl s) = none) && decide ((tl s).length ≤ 900000)) = true) : ∀ x ∈ ss.map V.str, Bad0 H x := fun x hx => by
  obtain ⟨s, hs, rfl⟩ := List.mem_map.mp hx
  have z := List.all_eq_true.mp h s hs
  rw [Bool.and_eq_true] at z
  exact .inr ⟨tl s, rfl, of_decide_eq_true z.2, of_decide_eq_true z.1⟩
theorem bad1_strs {H : Hp} {ss : List Str} (h : ss.all (fun s => decide (parseRecL (tl s) = none) && decide ((tl s).length ≤ 900000)) = true) : ∀ x ∈ ss.map V.str, Bad1 H x := fun x hx => by
  obtain ⟨s, hs, rfl⟩ := List.mem_map.mp hx
  have z := List.all_eq_true.mp h s hs
  rw [Bool.and_eq_true] at z
  exact .inr ⟨tl s, rfl, of_decide_eq_true z.2, of_decide_eq_true z.1⟩
theorem all_app {α : Type} {p : α → Prop} {a b : List α} (h1 : ∀ x ∈ a, p x) (h2 : ∀ x ∈ b, p x) : ∀ x ∈ a ++ b, p x := fun x hx => (List.mem_append.mp hx).elim (h1 x) (h2 x)
theorem all_one {α : Type} {p : α → Prop} {a : α} (h : p a) : ∀ x ∈ [a], p x := fun x hx => by
  rw [List.mem_singleton.mp hx]
  exact h
def odd1 : List Str := [" ", "1 ", " 1", "1  2", "01", "-0", "100", "-100", "+1", "1,2", "x", "1.0"]
def odd2 : List Str := ["1\n", "- 1", "--1"]
theorem odd1_bad : odd1.all (fun s => decide (parseRowL (tl s) = none) && decide ((tl s).length ≤ 900000)) = true := by decide +kernel
theorem odd2_bad : odd2.all (fun s => decide (parseRowL (tl s) = none) && decide ((tl s).length ≤ 900000)) = true := by decide +kernel
def ones31 : List Nat := TL.joinL [32] (List.replicate 31 [49])
theorem ones31_bad : parseRowL ones31 = none ∧ ones31.length ≤ 900000 := by decide +kernel
def lone1 : List Str := ["", ":", "3", "0:", "31:", "03:", "3 :", "3: ", " 3:", "3:  end", "3: End", "3: end end", "3: 0<1", "3: 0<1+ ", "3: 0<3+"]
def lone2 : List Str := ["3: 0<0+", "3: 0>1+", "3: 00<1+", "3: 0<1+ 1<0+", "3: 0<1+ 1<2- 2<0+ x", "3: 0<1+ 1<2+ 2<0+", "3: 0<1+ 1<2+ 0<2-"]
def lone3 : List Str := ["3:0<1+", "3: 0<1+,1<2+", "3: -1<0+", "3: 0<1++", "3: <1+"]
def lone4 : List Str := ["3: 0<1*"]
def lone5 : List Str := ["3:\n"]
theorem lone1_bad : lone1.all (fun s => decide (parseRecL (tl s) = none) && decide ((tl s).length ≤ 900000)) = true := by decide +kernel
theorem lone2_bad : lone2.all (fun s => decide (parseRecL (tl s) = none) && decide ((tl s).length ≤ 900000)) = true := by decide +kernel
theorem lone3_bad : lone3.all (fun s => decide (parseRecL (tl s) = none) && decide ((tl s).length ≤ 900000)) = true := by decide +kernel
theorem lone4_bad : lone4.all (fun s => decide (parseRecL (tl s) = none) && decide ((tl s).length ≤ 900000)) = true := by decide +kernel
theorem lone5_bad : lone5.all (fun s => decide (parseRecL (tl s) = none) && decide ((tl s).length ≤ 900000)) = true := by decide +kernel
theorem numW_long {l : List Nat} (h : 4 ≤ l.length) : numW l = none := by
  cases hh : numW l with
  | none => rfl
  | some n =>
    have := (numW_show hh).2.2
    omega
theorem nines_bad : parseRowL (List.replicate 4000 57) = none := by
  have e : splitL 32 (List.replicate 4000 57) = [List.replicate 4000 57] := by
    have z := split_join (s := 32) (ps := [List.replicate 4000 57]) (by simp) (fun p hp hm => by
      rw [List.mem_singleton.mp hp] at hm
      have := List.eq_of_mem_replicate hm
      omega)
    exact z
  unfold parseRowL
  rw [if_neg (by intro z; have := congrArg List.length z; rw [List.length_replicate] at this; cases this), e, mapM_none List.mem_cons_self (numW_long (by rw [List.length_replicate]; omega))]
theorem long_bad : parseRecL ([51, 58, 32] ++ List.replicate 4000 49 ++ [60, 48, 43]) = none := by
  have e : splitL 32 ([51, 58, 32] ++ List.replicate 4000 49 ++ [60, 48, 43]) = [[51, 58], List.replicate 4000 49 ++ [60, 48, 43]] := by
    have z := split_join (s := 32) (ps := [[51, 58], List.replicate 4000 49 ++ [60, 48, 43]]) (by simp) (fun p hp hm => by
      rcases List.mem_cons.mp hp with e | hp
      · rw [e] at hm
        simp at hm
      · rw [List.mem_singleton.mp hp] at hm
        rcases List.mem_append.mp hm with hm | hm
        · have := List.eq_of_mem_replicate hm
          omega
        · simp at hm)
    have e2 : TL.joinL [32] [[51, 58], List.replicate 4000 49 ++ [60, 48, 43]] = [51, 58, 32] ++ List.replicate 4000 49 ++ [60, 48, 43] := by
      show [51, 58] ++ ([32] ++ (List.replicate 4000 49 ++ [60, 48, 43])) = _
      rw [List.append_assoc]
      rfl
    rw [e2] at z
    exact z
  have eq : quW (List.replicate 4000 49 ++ [60, 48, 43]) = none := by
    have e1 : (List.replicate 4000 49 ++ [60, 48, 43]).dropLast = List.replicate 4000 49 ++ [60, 48] := by
      have : (List.replicate 4000 49 ++ [60, 48, 43] : List Nat) = (List.replicate 4000 49 ++ [60, 48]) ++ [43] := by simp
      rw [this, List.dropLast_concat]
    have e2 : splitL 60 (List.replicate 4000 49 ++ [60, 48]) = [List.replicate 4000 49, [48]] := by
      have z := split_join (s := 60) (ps := [List.replicate 4000 49, [48]]) (by simp) (fun p hp hm => by
        rcases List.mem_cons.mp hp with e | hp
        · rw [e] at hm
          have := List.eq_of_mem_replicate hm
          omega
        · rw [List.mem_singleton.mp hp] at hm
          simp at hm)
      have e3 : TL.joinL [60] [List.replicate 4000 49, [48]] = List.replicate 4000 49 ++ [60, 48] := rfl
      rw [e3] at z
      exact z
    unfold quW
    rw [e1, e2]
    dsimp only
    rw [numW_long (by rw [List.length_replicate]; omega)]
    split <;> rfl
  have em : midW [[51, 58], List.replicate 4000 49 ++ [60, 48, 43]] = [List.replicate 4000 49 ++ [60, 48, 43]] := by
    unfold midW endedW
    have h1 : ¬ (List.replicate 4000 49 ++ [60, 48, 43] : List Nat) = endW := fun z => by
      have := congrArg List.length z
      rw [List.length_append, List.length_replicate] at this
      cases this
    rw [if_neg]
    · rfl
    · intro z
      rw [Bool.and_eq_true] at z
      have z2 := of_decide_eq_true z.2
      exact h1 (Option.some.inj z2)
  unfold parseRecL
  rw [e, em, mapM_none List.mem_cons_self eq]
theorem dp_strs {K : PySem.W.Frag} {H : Hp} (z : Str) : ∀ n, DpAll K H (List.replicate n (.str z)) (List.replicate n (.str z))
  | 0 => .nil
  | n + 1 => .cons (.str z) (dp_strs z n)
section
variable {P : Program} {w : World} {K : PySem.W.Frag} {mg : Str → Option Value} {base : Heap} {CS CE CT : Addr}
/-! ### _law_start -/
def spStartK (K : PySem.W.Frag) : Sp := fun vs H Q _ => ∃ (a : Addr) (ns : List Int), vs = [.ref a] ∧ SqL K H a (ns.map V.int) ∧ ∀ H' d n, Same H H' → DrawsAt H' d n → Q (.ref d) H'
theorem ok_w_start (T : Txt K mg CS CE CT) : Ok P w K mg base CX0 1 "_law_start" P_w_start (spStartK K) := by
  refine T.d_w_start.ok0 sc_w_start (fun _ _ _ _ _ _ us hl => match us, hl with | [_], _ => rfl) (fun vs H Q E h => ?_) (fun f cdv A outer s H vs Q E hr h => ?_)
  · obtain ⟨_, _, rfl, _⟩ := h
    rfl
  · obtain ⟨a, ns, rfl, ha, q⟩ := h
    refine ⟨_, (pss_one (ps_ret (pe_lst (pa_cons (pe_ifExp (pt_cmpR (op_neD hr.units) (pv 0) (pe_lst pa_nil) (nomark _)) (pe_callTy call_list_of (by rfl) T.f_list (by decide +kernel) (pa_cons (pv 0) pa_nil)) (pe_lst (pa_cons pe_int pa_nil))) (pa_cons pe_int pa_nil))))), ?_⟩
    refine ⟨_, rfl, sz (show 0 ≤ 16777216 by decide), fun p hp => ?_⟩
    have e1 := same_upd (o := .lst []) hp
    refine ⟨.list (ns.map PyData.int), .list [], .lst (e1.seq ha) (dp_ints _), .lst (.inl (.inl upd_same)) .nil, ints_shaped _, rfl, _, rfl, ?_⟩
    rw [eqv_nil]
    have fin : ∀ (n : Addr) (ms : List Int) (H1 : Hp), Same H H1 → H1 n = some (.lst (ms.map V.int)) → ms ≠ [] → 2 ≤ sizeLine ∧ ∀ d, H1 d = none → Q (.ref d) (upd H1 d (.lst [.ref n, .int 0])) := fun n ms H1 e h hne => by
      refine ⟨sz (show 2 ≤ 16777216 by decide), fun d hd => q _ d n (e.trans (same_upd hd)) ⟨ms, 0, upd_same, (same_upd hd) _ _ h, hne, (ne_of_none h hd).symm⟩⟩
    by_cases c : ns = []
    · refine iteF' (by rw [decide_eq_true c]; rfl) ?_
      exact ⟨sz (show 1 ≤ 16777216 by decide), fun n hn => fin n [0] _ (e1.trans (same_upd hn)) upd_same (by simp)⟩
    · refine iteT' (by rw [decide_eq_false c]; rfl) ?_
      exact ⟨_, rfl, a, _, rfl, .inl (e1.seq ha), fun n hn => fin n ns _ (e1.trans (same_upd hn)) upd_same c⟩
/-! ### _law_rejected -/
def spRejected : Sp := fun vs H Q _ => vs = [] ∧ ∀ H', Same H H' → Q (.bl true) H'
theorem ok_w_rejected (T : Txt K mg CS CE CT) : Ok P w K mg base CX0 7 "_law_rejected" P_w_rejected spRejected := by
  refine T.d_w_rejected.ok0 sc_w_rejected (fun _ _ _ _ _ _ us hl => match us, hl with | [], _ => rfl) (fun vs H Q E h => ?_) (fun f cdv A outer s H vs Q E hr h => ?_)
  · obtain ⟨rfl, _⟩ := h
    rfl
  · obtain ⟨rfl, q⟩ := h
    refine ⟨_, (pss_cons (ps_set (i := 0) sc_w_rejected.nd rfl (Or.inl rfl) (pe_lst (pa_cons pe_non (pa_cons pe_int (pa_cons pe_str (pa_cons pe_str (pa_cons pe_str (pa_cons pe_str (pa_cons pe_str (pa_cons pe_str (pa_cons pe_str (pa_cons pe_str (pa_cons pe_str (pa_cons pe_str (pa_cons pe_str (pa_cons pe_str (pa_cons (pe_lst (pa_cons pe_str pa_nil)) (pa_cons pe_str (pa_cons pe_str (pa_cons pe_str (pa_cons (pe_op op_rep_str pe_str pe_int) pa_nil)))))))))))))))))))))
  (pss_cons (ps_set (i := 0) sc_w_rejected.nd rfl (Or.inl rfl) (pe_op op_cat (pv 0) (pe_lst (pa_cons (pe_join pe_str (pe_op op_rep (pe_lst (pa_cons pe_str pa_nil)) pe_int)) pa_nil))))
  (pss_cons (ps_if (PW.pt (pw_or (pt_cmpR (op_neD hr.units) (pe_lc (own := [("_law_bad", 1)]) rfl sc_w_rejected.nd (pi_list (pv 0)) (blkOk_by (N := N_w_rejected) (sc := defScope s_w_rejected) (by decide +kernel)) (fun _ _ _ _ _ => (pg_name (i := 1) sc_w_rejected.nd rfl (Or.inl rfl))) (fun _ _ _ _ _ => pts_nil) (fun _ _ _ _ _ => (pe_callO (ok_w_parsed T) (hr.mono (by decide)) pass0 (pa_cons pe_int (pa_cons (pv 1) pa_nil))))) (pe_op op_rep (pe_lst (pa_cons pe_str pa_nil)) pe_int) (nomark _)) (pw_or (pt_cmpR (op_neD hr.units) (pe_callO (ok_w_parsed T) (hr.mono (by decide)) pass0 (pa_cons pe_int (pa_cons pe_str pa_nil))) (pe_lst pa_nil) (nomark _)) (pw_or1 (pt_cmpR (op_neD hr.units) (pe_callO (ok_w_parsed T) (hr.mono (by decide)) pass0 (pa_cons pe_int (pa_cons pe_str pa_nil))) (pe_lst (pa_cons (pe_un un_neg pe_int) (pa_cons pe_int (pa_cons pe_int pa_nil)))) (nomark _)))))) (pss_one (ps_ret pe_bl)) pss_nil)
  (pss_cons (ps_set (i := 2) sc_w_rejected.nd rfl (Or.inl rfl) (pe_lst (pa_cons pe_non (pa_cons pe_int (pa_cons pe_str (pa_cons pe_str (pa_cons pe_str (pa_cons pe_str (pa_cons pe_str (pa_cons pe_str (pa_cons pe_str (pa_cons pe_str (pa_cons pe_str (pa_cons pe_str (pa_cons pe_str (pa_cons pe_str (pa_cons pe_str (pa_cons pe_str (pa_cons pe_str pa_nil)))))))))))))))))))
  (pss_cons (ps_set (i := 2) sc_w_rejected.nd rfl (Or.inl rfl) (pe_op op_cat (pv 2) (pe_lst (pa_cons pe_str (pa_cons pe_str (pa_cons pe_str (pa_cons pe_str (pa_cons pe_str (pa_cons pe_str (pa_cons pe_str pa_nil))))))))))
  (pss_cons (ps_set (i := 2) sc_w_rejected.nd rfl (Or.inl rfl) (pe_op op_cat (pv 2) (pe_lst (pa_cons pe_str (pa_cons pe_str (pa_cons pe_str (pa_cons pe_str (pa_cons pe_str (pa_cons (pe_lst (pa_cons pe_str pa_nil)) (pa_cons pe_str (pa_cons (pe_op op_add_str (pe_op op_add_str pe_str (pe_op op_rep_str pe_str pe_int)) pe_str) (pa_cons pe_str pa_nil))))))))))))
  (pss_cons (ps_if (pt_cmpR (op_neD hr.units) (pe_lc (own := [("_law_bad", 1)]) rfl sc_w_rejected.nd (pi_list (pv 2)) (blkOk_by (N := N_w_rejected) (sc := defScope s_w_rejected) (by decide +kernel)) (fun _ _ _ _ _ => (pg_name (i := 1) sc_w_rejected.nd rfl (Or.inl rfl))) (fun _ _ _ _ _ => pts_nil) (fun _ _ _ _ _ => (pe_callO (ok_w_parsed T) (hr.mono (by decide)) pass0 (pa_cons pe_int (pa_cons (pv 1) pa_nil))))) (pe_op op_rep (pe_lst (pa_cons pe_str pa_nil)) pe_int) (nomark _)) (pss_one (ps_ret pe_bl)) pss_nil)
  (pss_one (ps_ret (pe_and (pe_cmpR (op_eqD hr.units) (pe_callO (ok_w_parsed T) (hr.mono (by decide)) pass0 (pa_cons pe_int (pa_cons pe_str pa_nil))) (pe_tup (pa_cons pe_int (pa_cons (pe_lst pa_nil) (pa_cons pe_bl pa_nil)))) (nomark _)) (pe_one (pe_cmpR (op_eqD hr.units) (pe_callO (ok_w_parsed T) (hr.mono (by decide)) pass0 (pa_cons pe_int (pa_cons pe_str pa_nil))) (pe_tup (pa_cons pe_int (pa_cons (pe_lst pa_nil) (pa_cons pe_bl pa_nil)))) (nomark _))))))))))))), ?_⟩
    have big : ∀ {k : Nat}, k ≤ 20000 → k ≤ sizeLine := fun h => sz (by omega)
    refine ⟨big (show 1 ≤ 20000 by decide), fun l1 hl1 => ⟨_, 4000, rfl, rfl, by decide, by decide, by decide, big (show 19 ≤ 20000 by decide), fun L1 hL1 => ?_⟩⟩
    refine ⟨_, rfl, ⟨_, rfl⟩, big (show 1 ≤ 20000 by decide), fun a1 ha1 => ⟨a1, 31, _, rfl, rfl, upd_same, by decide, by decide, big (by decide), fun b1 hb1 => ⟨_, b1, (List.replicate 31 [49]).map mkS, rfl, rfl, .inl (.inl (.inl upd_same)), by decide +kernel, big (show 1 ≤ 20000 by decide), fun c1 hc1 => ?_⟩⟩⟩
    refine ⟨L1, c1, _, _, rfl, rfl, (same_upd hc1) _ _ ((same_upd hb1) _ _ ((same_upd ha1) _ _ upd_same)), upd_same, big (show 20 ≤ 20000 by decide), fun L2 hL2 => ?_⟩
    refine ⟨_, rfl, L2, rfl, ⟨_, .inl (.inl upd_same)⟩, fun D hD => ?_⟩
    have eA := ((((((same_k hl1 hL1).trans (same_k hL1 ha1)).trans (same_k ha1 hb1)).trans (same_k hb1 hc1)).trans (same_k hc1 hL2)).trans (same_k hL2 hD))
    have kl1 := (same_k hL2 hD) _ _ ((same_k hc1 hL2) _ _ ((same_k hb1 hc1) _ _ ((same_k ha1 hb1) _ _ ((same_k hL1 ha1) _ _ (upd_at hl1 hL1)))))
    have k2 := upd_at hL2 hD
    have hbad0 : ∀ {H' : Hp}, H' l1 = some (.lst [.str "1"]) → ∀ x ∈ ([.non, .int 5] ++ odd1.map V.str ++ [.ref l1] ++ odd2.map V.str ++ [.str (Txt.mul "9" 4000)] ++ [.str (Txt.join " " ((List.replicate 31 [49]).map mkS))] : List V), Bad0 H' x := fun {H'} h => by
      refine all_app (all_app (all_app (all_app (all_app ?_ (bad0_strs odd1_bad)) (all_one (.inl (.inr (.inr ⟨l1, _, rfl, h⟩))))) (bad0_strs odd2_bad)) (all_one ?_)) (all_one ?_)
      · intro x hx
        rcases List.mem_cons.mp hx with e | hx
        · exact .inl (.inl e)
        · exact .inl (.inr (.inl ⟨5, List.mem_singleton.mp hx⟩))
      · refine .inr ⟨List.replicate 4000 57, ?_, by rw [List.length_replicate]; decide, nines_bad⟩
        rw [eq_mk (z := Txt.mul "9" 4000) (mul_one_list 57 4000)]
        rfl
      · refine .inr ⟨ones31, ?_, ones31_bad.2, ones31_bad.1⟩
        rw [join_mk (S := [32]) rfl]
        rfl
    refine lc_mapL (List.replicate 20 (.str "text")) (by rw [List.length_replicate]; rfl) ?_ hD (.inl (.inl k2)) (fun i x y H' hi hy e' Qe qe => ?_) (fun H2 e2 hd2 => ?_)
    · show 20 ≤ 1000000
      decide
    · have ey := List.eq_of_mem_replicate (List.mem_of_getElem? hy)
      subst ey
      exact ⟨rfl, _, rfl, 0, x, rfl, .inl ⟨rfl, (hbad0 (e' _ _ kl1) x (List.mem_of_getElem? hi)).out qe⟩⟩
    have eB := eA.trans e2
    refine ⟨big (show 1 ≤ 20000 by decide), fun a2 ha2 => ⟨a2, 20, _, rfl, rfl, upd_same, by decide, by decide, big (by decide), fun b2 hb2 => ?_⟩⟩
    refine ⟨.list (List.replicate 20 (.str "text")), .list (List.replicate 20 (.str "text")), .lst (.inl (.inl ((same_upd hb2) _ _ ((same_upd ha2) _ _ hd2)))) (dp_strs _ 20), .lst (.inl (.inl upd_same)) (dp_strs "text" 20), by decide +kernel, by decide +kernel, _, rfl, iteF' (by decide +kernel) ?_⟩
    have p0 : parseRowL [] = some [] := rfl
    refine ⟨0, .str "", rfl, .inl ⟨rfl, .inr ⟨[], rfl, by decide, fun ns hns H3 a3 e3 ha3 k3 => ?_, fun hno => by rw [p0] at hno; cases hno⟩⟩⟩
    rw [p0] at hns
    cases hns
    have eC := ((eB.trans (same_k ha2 hb2)).trans (same_k hb2 ha3)).trans e3
    refine ⟨big (show 0 ≤ 20000 by decide), fun p hp => ⟨.list [], .list [], .lst (.inl (.inl ((same_upd hp) _ _ k3))) .nil, .lst (.inl (.inl upd_same)) .nil, rfl, rfl, _, rfl, iteF' (by rfl) ?_⟩⟩
    have p1 : parseRowL (tl "-99 0 99") = some [-99, 0, 99] := by decide +kernel
    refine ⟨0, .str "-99 0 99", rfl, .inl ⟨rfl, .inr ⟨tl "-99 0 99", rfl, by decide +kernel, fun ns hns H4 a4 e4 ha4 k4 => ?_, fun hno => by rw [p1] at hno; cases hno⟩⟩⟩
    rw [p1] at hns
    cases hns
    have eD := (eC.trans (same_k hp ha4)).trans e4
    refine ⟨99, rfl, big (show 3 ≤ 20000 by decide), fun p' hp' => ⟨.list ([-99, 0, 99].map PyData.int), .list ([-99, 0, 99].map PyData.int), .lst (.inl (.inl ((same_upd hp') _ _ k4))) (dp_ints _), .lst (.inl (.inl upd_same)) (dp_ints [-99, 0, 99]), by decide +kernel, by decide +kernel, _, rfl, iteF' (by decide +kernel) ?_⟩⟩
    refine ⟨big (show 17 ≤ 20000 by decide), fun L3 hL3 => ?_⟩
    refine ⟨_, rfl, big (show 7 ≤ 20000 by decide), fun a5 ha5 => ⟨L3, a5, _, _, rfl, rfl, (same_upd ha5) _ _ upd_same, upd_same, big (show 24 ≤ 20000 by decide), fun L4 hL4 => ?_⟩⟩
    refine ⟨_, rfl, big (show 1 ≤ 20000 by decide), fun l2 hl2 => ⟨_, 4000, rfl, rfl, by decide, by decide, by decide, _, _, rfl, rfl, ?_, _, _, rfl, rfl, ?_, big (show 9 ≤ 20000 by decide), fun a6 ha6 => ⟨L4, a6, _, _, rfl, rfl, (same_upd ha6) _ _ ((same_upd hl2) _ _ upd_same), upd_same, big (show 33 ≤ 20000 by decide), fun L5 hL5 => ?_⟩⟩⟩
    · have h1 : ("3: " : Str).length = 3 := rfl
      have h2 : (Txt.mul "1" 4000).length = 4000 := by
        rw [eq_mk (z := Txt.mul "1" 4000) (mul_one_list 49 4000), mk_len, List.length_replicate]
        rfl
      rw [h1, h2]
      exact big (by decide)
    · have e : ("3: " : Str) ++ Txt.mul "1" 4000 = mkS ([51, 58, 32] ++ List.replicate 4000 49) := by
        rw [eq_mk (z := Txt.mul "1" 4000) (mul_one_list 49 4000)]
        exact mk_ap [51, 58, 32] _
      have h2 : ("3: " ++ Txt.mul "1" 4000 : Str).length = 4003 := by
        rw [e, mk_len, List.length_append, List.length_replicate]
        rfl
      have h1 : ("<0+" : Str).length = 3 := rfl
      rw [h1, h2]
      exact big (by decide)
    refine ⟨_, rfl, L5, rfl, ⟨_, .inl (.inl upd_same)⟩, fun D2 hD2 => ?_⟩
    have eE := ((((((eD.trans (same_k hp' hL3)).trans (same_k hL3 ha5)).trans (same_k ha5 hL4)).trans (same_k hL4 hl2)).trans (same_k hl2 ha6)).trans (same_k ha6 hL5)).trans (same_k hL5 hD2)
    have kl2 := (same_k hL5 hD2) _ _ ((same_k ha6 hL5) _ _ (upd_at hl2 ha6))
    have k5 := upd_at hL5 hD2
    have hbad1 : ∀ {H' : Hp}, H' l2 = some (.lst [.str "3:"]) → ∀ x ∈ ([.non, .int 7] ++ lone1.map V.str ++ lone2.map V.str ++ lone3.map V.str ++ [.ref l2] ++ lone4.map V.str ++ [.str ("3: " ++ Txt.mul "1" 4000 ++ "<0+")] ++ lone5.map V.str : List V), Bad1 H' x := fun {H'} h => by
      refine all_app (all_app (all_app (all_app (all_app (all_app (all_app ?_ (bad1_strs lone1_bad)) (bad1_strs lone2_bad)) (bad1_strs lone3_bad)) (all_one (.inl (.inr (.inr ⟨l2, _, rfl, h⟩))))) (bad1_strs lone4_bad)) (all_one ?_)) (bad1_strs lone5_bad)
      · intro x hx
        rcases List.mem_cons.mp hx with e | hx
        · exact .inl (.inl e)
        · exact .inl (.inr (.inl ⟨7, List.mem_singleton.mp hx⟩))
      · refine .inr ⟨[51, 58, 32] ++ List.replicate 4000 49 ++ [60, 48, 43], ?_, ?_, long_bad⟩
        · rw [eq_mk (z := Txt.mul "1" 4000) (mul_one_list 49 4000)]
          rw [show ("3: " : Str) = mkS [51, 58, 32] from rfl, show ("<0+" : Str) = mkS [60, 48, 43] from rfl, mk_ap, mk_ap]
          rfl
        · rw [List.length_append, List.length_append, List.length_replicate]
          decide
    refine lc_mapL (List.replicate 33 (.str "text")) (by rw [List.length_replicate]; rfl) ?_ hD2 (.inl (.inl k5)) (fun i x y H' hi hy e' Qe qe => ?_) (fun H6 e6 hd6 => ?_)
    · show 33 ≤ 1000000
      decide
    · have ey := List.eq_of_mem_replicate (List.mem_of_getElem? hy)
      subst ey
      exact ⟨rfl, _, rfl, 1, x, rfl, .inr ⟨rfl, (hbad1 (e' _ _ kl2) x (List.mem_of_getElem? hi)).out qe⟩⟩
    have eF := eE.trans e6
    refine ⟨big (show 1 ≤ 20000 by decide), fun a7 ha7 => ⟨a7, 33, _, rfl, rfl, upd_same, by decide, by decide, big (by decide), fun b7 hb7 => ?_⟩⟩
    refine ⟨.list (List.replicate 33 (.str "text")), .list (List.replicate 33 (.str "text")), .lst (.inl (.inl ((same_upd hb7) _ _ ((same_upd ha7) _ _ hd6)))) (dp_strs _ 33), .lst (.inl (.inl upd_same)) (dp_strs "text" 33), by decide +kernel, by decide +kernel, _, rfl, iteF' (by decide +kernel) ?_⟩
    have p2 : parseRecL (tl "3:") = some (3, [], false) := by decide +kernel
    have p3 : parseRecL (tl "1: end") = some (1, [], true) := by decide +kernel
    refine ⟨1, .str "3:", rfl, .inr ⟨rfl, .inr ⟨tl "3:", rfl, by decide +kernel, fun r hr' H7 a8 e7 ha8 k8 => ?_, fun hno => by rw [p2] at hno; cases hno⟩⟩⟩
    rw [p2] at hr'
    cases hr'
    have eG := ((eF.trans (same_k ha7 hb7)).trans (same_k hb7 ha8)).trans e7
    obtain ⟨l8, k8, ts8, k9, k10, _⟩ := k8
    have ets : ts8 = [] := List.length_eq_zero_iff.mp k10
    subst ets
    refine ⟨big (show 0 ≤ 20000 by decide), fun l9 hl9 => ⟨big (show 3 ≤ 20000 by decide), fun p9 hp9 => ?_⟩⟩
    refine ⟨.tuple [.int 3, .list [], .bool false], .tuple [.int 3, .list [], .bool false], .tup (.inl (.inl ((same_upd hp9) _ _ ((same_upd hl9) _ _ k8)))) (.cons (.int 3) (.cons (.lst (.inl (.inl ((same_upd hp9) _ _ ((same_upd hl9) _ _ k9)))) .nil) (.cons (.bl false) .nil))), .tup (.inl (.inl upd_same)) (.cons (.int 3) (.cons (.lst (.inl (.inl ((same_upd hp9) _ _ upd_same))) .nil) (.cons (.bl false) .nil))), by decide +kernel, by decide +kernel, _, rfl, iteT' (by decide +kernel) ?_⟩
    refine ⟨1, .str "1: end", rfl, .inr ⟨rfl, .inr ⟨tl "1: end", rfl, by decide +kernel, fun r hr' H8 a10 e8 ha10 k11 => ?_, fun hno => by rw [p3] at hno; cases hno⟩⟩⟩
    rw [p3] at hr'
    cases hr'
    have eH := ((eG.trans (same_k hl9 hp9)).trans (same_k hp9 ha10)).trans e8
    obtain ⟨l11, k12, ts11, k13, k14, _⟩ := k11
    have ets : ts11 = [] := List.length_eq_zero_iff.mp k14
    subst ets
    refine ⟨big (show 0 ≤ 20000 by decide), fun l12 hl12 => ⟨big (show 3 ≤ 20000 by decide), fun p12 hp12 => ?_⟩⟩
    refine ⟨.tuple [.int 1, .list [], .bool true], .tuple [.int 1, .list [], .bool true], .tup (.inl (.inl ((same_upd hp12) _ _ ((same_upd hl12) _ _ k12)))) (.cons (.int 1) (.cons (.lst (.inl (.inl ((same_upd hp12) _ _ ((same_upd hl12) _ _ k13)))) .nil) (.cons (.bl true) .nil))), .tup (.inl (.inl upd_same)) (.cons (.int 1) (.cons (.lst (.inl (.inl ((same_upd hp12) _ _ upd_same))) .nil) (.cons (.bl true) .nil))), by decide +kernel, by decide +kernel, ?_⟩
    exact q _ ((eH.trans (same_k hl12 hp12)).trans (same_upd hp12))
end
end K20
/-! K20V: law. -/
namespace K20
open PySem PySem.Spec PyProof.Rows L2
/-! ### records as data -/
def quD (q : Qu) : PyData := .tuple [.int q.1, .int q.2.1, .bool q.2.2]
def recD (r : Rec) : PyData := .tuple [.int r.1, .list (r.2.1.map quD), .bool r.2.2]
theorem dp_log {K : PySem.W.Frag} {H : Hp} : ∀ {ts : List Addr} {log : List Qu}, ts.length = log.length → (∀ (i : Nat) (t : Addr) (q : Qu), ts[i]? = some t → log[i]? = some q → H t = some (.tup [.int q.1, .int q.2.1, .bl q.2.2])) → DpAll K H (ts.map V.ref) (log.map quD)
  | [], [], _, _ => .nil
  | t :: ts, q :: log, hl, h => .cons (.tup (.inl (.inl (h 0 t q rfl rfl))) (.cons (.int _) (.cons (.int _) (.cons (.bl _) .nil)))) (dp_log (Nat.succ.inj hl) fun i b q x y => h (i + 1) b q x y)
theorem RecAt.dp {K : PySem.W.Frag} {H : Hp} {p : Addr} {r : Rec} (h : RecAt H p r) : Dp K H (.ref p) (recD r) := by
  obtain ⟨l, h1, ts, h2, h3, h4⟩ := h
  exact .tup (.inl (.inl h1)) (.cons (.int _) (.cons (.lst (.inl (.inl h2)) (dp_log h3 h4)) (.cons (.bl _) .nil)))
theorem log_lay : ∀ log : List Qu, PyData.canLayAll0 (log.map quD) = true
  | [] => rfl
  | q :: r => by
    rw [List.map_cons]
    show (PyData.canLay0 (quD q) && PyData.canLayAll0 (r.map quD)) = true
    rw [log_lay r]
    rfl
theorem log_depth : ∀ log : List Qu, PyData.depthAll (log.map quD) ≤ 1
  | [] => by
    show 0 ≤ 1
    omega
  | q :: r => by
    rw [List.map_cons]
    show max (PyData.depth (quD q)) (PyData.depthAll (r.map quD)) ≤ 1
    have h1 := log_depth r
    have h2 : PyData.depth (quD q) = 1 := rfl
    omega
theorem rec_lay (r : Rec) : PyData.canLay0 (recD r) = true := by
  show (true && (PyData.canLayAll0 (r.2.1.map quD) && (true && true))) = true
  rw [log_lay]
  rfl
theorem rec_depth (r : Rec) : PyData.depth (recD r) ≤ 3 := by
  show max 0 (max (PyData.depthAll (r.2.1.map quD) + 1) (max 0 0)) + 1 ≤ 3
  have := log_depth r.2.1
  omega
theorem rec_shaped (r : Rec) : SeqAt.shaped (recD r) = true := by
  show (PyData.canLay0 (recD r) && decide (PyData.depth (recD r) ≤ 64)) = true
  rw [rec_lay, decide_eq_true (by have := rec_depth r; omega)]
  rfl
theorem eqv_self {d : PyData} (h : SeqAt.shaped d = true) : PyData.eqv d d = true := SeqAt.eqv_refl d (SeqAt.canLay_of_shaped h)
def bothD (ns : List Int) (r : Rec) : PyData := .list [.list (ns.map PyData.int), recD r]
theorem both_shaped (ns : List Int) (r : Rec) : SeqAt.shaped (bothD ns r) = true := by
  have h1 : PyData.canLay0 (bothD ns r) = true := by
    show (PyData.canLayAll0 (ns.map PyData.int) && (PyData.canLay0 (recD r) && true)) = true
    rw [ints_lay, rec_lay]
    rfl
  have h2 : PyData.depth (bothD ns r) ≤ 5 := by
    show max (PyData.depthAll (ns.map PyData.int) + 1) (max (PyData.depth (recD r)) 0) + 1 ≤ 5
    have := rec_depth r
    have := ints_depth ns
    omega
  show (PyData.canLay0 (bothD ns r) && decide (PyData.depth (bothD ns r) ≤ 64)) = true
  rw [h1, decide_eq_true (by omega)]
  rfl
/-! ### signs of texts -/
theorem join_mem {S : List Nat} : ∀ {ws : List (List Nat)} {c : Nat}, c ∈ TL.joinL S ws → c ∈ S ∨ ∃ w ∈ ws, c ∈ w
  | [], c, h => by cases h
  | [w], c, h => .inr ⟨w, List.mem_cons_self, h⟩
  | w :: v :: r, c, h => by
    have h' : c ∈ w ++ (S ++ TL.joinL S (v :: r)) := h
    rcases List.mem_append.mp h' with h | h
    · exact .inr ⟨w, List.mem_cons_self, h⟩
    · rcases List.mem_append.mp h with h | h
      · exact .inl h
      · rcases join_mem h with h | ⟨u, hu, h⟩
        · exact .inl h
        · exact .inr ⟨u, List.mem_cons_of_mem _ hu, h⟩
theorem join_len {c : Nat} : ∀ {ws : List (List Nat)}, (∀ w ∈ ws, w.length ≤ c) → (TL.joinL [32] ws).length ≤ ws.length * (c + 1)
  | [], _ => Nat.zero_le _
  | [w], h => by
    have := h w List.mem_cons_self
    show w.length ≤ 1 * (c + 1)
    omega
  | w :: v :: r, h => by
    have h1 := h w List.mem_cons_self
    have h2 := join_len (ws := v :: r) fun u hu => h u (List.mem_cons_of_mem _ hu)
    show (w ++ ([32] ++ TL.joinL [32] (v :: r))).length ≤ (v :: r).length.succ * (c + 1)
    rw [List.length_append, List.length_append, List.length_singleton, Nat.succ_mul]
    omega
theorem showI_lt {i : Int} {c : Nat} (h : c ∈ showI i) : c < 256 := by
  rcases Nat.lt_or_ge c 256 with h1 | h1
  · exact h1
  · exact absurd h (showI_free (by omega))
theorem rowL_lt {ns : List Int} {c : Nat} (h : c ∈ rowL ns) : c < 256 := by
  rcases join_mem h with h | ⟨w, hw, h⟩
  · have := List.mem_singleton.mp h
    omega
  · obtain ⟨n, _, rfl⟩ := List.mem_map.mp hw
    exact showI_lt h
theorem recL_lt {r : Rec} {c : Nat} (h : c ∈ recL r) : c < 256 := by
  rcases join_mem h with h | ⟨w, hw, h⟩
  · have := List.mem_singleton.mp h
    omega
  · unfold recWords at hw
    rcases List.mem_append.mp hw with hw | hw
    · rcases List.mem_append.mp hw with hw | hw
      · rw [List.mem_singleton.mp hw] at h
        rcases List.mem_append.mp h with h | h
        · exact showI_lt h
        · have := List.mem_singleton.mp h
          omega
      · obtain ⟨q, _, rfl⟩ := List.mem_map.mp hw
        rcases Nat.lt_or_ge c 256 with h1 | h1
        · exact h1
        · exact absurd h (quL_free (by omega))
    · split at hw
      · rw [List.mem_singleton.mp hw] at h
        unfold endW at h
        simp at h
        omega
      · cases hw
theorem strOk_mk {l : List Nat} (h : ∀ c ∈ l, c < 256) : PyData.canLay0 (.str (mkS l)) = true := by
  show l.toArray.all (· < 0x110000) = true
  rw [List.all_toArray]
  exact List.all_eq_true.mpr fun c hc => decide_eq_true (by have := h c hc; omega)
theorem rowL_len {ns : List Int} (h : rowOkL ns = true) : (rowL ns).length ≤ 1000 := by
  obtain ⟨h1, h2⟩ := rowOk_all h
  have z := join_len (c := 3) (ws := ns.map showI) fun w hw => by
    obtain ⟨n, hn, rfl⟩ := List.mem_map.mp hw
    exact showI_len (h2 n hn).1 (h2 n hn).2
  rw [List.length_map] at z
  unfold rowL
  omega
theorem recL_len {r : Rec} (h : recOk r = true) : (recL r).length ≤ 10000 := by
  obtain ⟨h1, h2, h3, _⟩ := recOk_parts h
  have z := join_len (c := 8) (ws := recWords r) fun w hw => by
    unfold recWords at hw
    rcases List.mem_append.mp hw with hw | hw
    · rcases List.mem_append.mp hw with hw | hw
      · rw [List.mem_singleton.mp hw, List.length_append, List.length_singleton]
        have := showI_len (n := r.1) (by omega) (by omega)
        omega
      · obtain ⟨q, hq, rfl⟩ := List.mem_map.mp hw
        obtain ⟨a, b, _⟩ := h3 q hq
        exact quL_len h1.2 a b
    · split at hw
      · rw [List.mem_singleton.mp hw]
        decide
      · cases hw
  have hl : (recWords r).length ≤ 902 := by
    unfold recWords
    rw [List.length_append, List.length_append, List.length_singleton, List.length_map]
    split
    · rw [List.length_singleton]
      omega
    · rw [List.length_nil]
      omega
  unfold recL
  omega
theorem LogAt.cut {H : Hp} {L : Addr} {ts : List Addr} {log : List Qu} (k : Nat) (h1 : H L = some (.lst ((ts.map V.ref).take k))) (h2 : ts.length = log.length) (h3 : ∀ (i : Nat) (t : Addr) (q : Qu), ts[i]? = some t → log[i]? = some q → H t = some (.tup [.int q.1, .int q.2.1, .bl q.2.2])) : LogAt H L (log.take k) := by
  refine ⟨ts.take k, by rw [h1, List.map_take], by rw [List.length_take, List.length_take, h2], fun i t q a b => ?_⟩
  rw [List.getElem?_take] at a b
  split at a
  · rename_i c
    rw [if_pos c] at b
    exact h3 i t q a b
  · cases a
theorem LogAt.butD {H H' : Hp} {L d n : Addr} {log : List Qu} (h : LogAt H L log) (D : DrawsAt H d n) (b : But [d, n] H H') (hL : L ∉ [d, n]) : LogAt H' L log := by
  obtain ⟨ts, h1, h2, h3⟩ := h
  exact ⟨ts, b _ _ h1 hL, h2, fun i t q x y => b _ _ (h3 i t q x y) (D.offT (h3 i t q x y))⟩
theorem WayAt.same {H H' : Hp} {p : Addr} (h : WayAt H p) (e : Same H H') : WayAt H' p := by
  rcases h with h | ⟨q, h1, h2⟩
  · exact .inl (h.same e)
  · exact .inr ⟨q, e _ _ h1, h2.same e⟩
theorem cutS_le (z : Str) (lo hi : Option Int) : (cutS z lo hi).length ≤ z.length := by
  show (((z.cps.toList.drop (HT.sIx z.length 0 lo)).take (HT.sIx z.length z.length hi - HT.sIx z.length 0 lo)).toArray).size ≤ z.cps.size
  rw [List.size_toArray, List.length_take, List.length_drop, Array.length_toList]
  omega
theorem str_app_len (a b : Str) : (a ++ b).length = a.length + b.length := by
  have h : tl (a ++ b) = tl a ++ tl b := tl_ap a b
  have e : ∀ z : Str, z.length = (tl z).length := fun z => by
    show z.cps.size = z.cps.toList.length
    rw [Array.length_toList]
  rw [e, e, e, h, List.length_append]
section
variable {P : Program} {w : World} {K : PySem.W.Frag} {mg : Str → Option Value} {base : Heap} {CS CE CT : Addr}
def spLaw (K : PySem.W.Frag) : Sp := fun vs H Q _ => ∃ (a : Addr) (ns : List Int), vs = [.ref a] ∧ SqL K H a (ns.map V.int) ∧ ∀ H', Q (.bl true) H'
theorem fn_law (T : Txt K mg CS CE CT) {f : Addr} {fd : FuncData} (F : FunD K "law" "law" (defArgs s_law) (defBody s_law) (defScope s_law) [] [] f fd) : FnOk P w K mg base CX0 21 f fd P_law (spLaw K) := by
  refine F.ok sc_law (fun vs H Q E h => ?_) (fun cdv A outer s H vs Q E hr h => ?_)
  · obtain ⟨_, _, rfl, _⟩ := h
    rfl
  · obtain ⟨a, ns, rfl, ha, q⟩ := h
    refine ⟨_, PSs.nox ((pss_cons (ps_set (i := 1) sc_law.nd rfl (Or.inl rfl) (pe_callO (ok_w_start T) (hr.mono (by decide)) pass0 (pa_cons (pv 0) pa_nil)))
  (pss_cons (ps_set (i := 2) sc_law.nd rfl (Or.inl rfl) (pe_callO (ok_w_row T) (hr.mono (by decide)) pass0 (pa_cons (pv 1) (pa_cons pe_int pa_nil))))
  (pss_cons (ps_set (i := 3) sc_law.nd rfl (Or.inl rfl) (pe_slice sl_list (pe_ix ix_tup (pe_callO (ok_w_sort T) (hr.mono (by decide)) pass0 (pa_cons (pe_callO (ok_w_way T) (hr.mono (by decide)) pass0 (pa_cons (pv 1) pa_nil)) (pa_cons (pv 2) pa_nil))) pe_int (fun _ _ => rfl)) po_none (po_some pe_int)))
  (pss_cons (ps_set (i := 4) sc_law.nd rfl (Or.inl rfl) (pe_tup (pa_cons (pe_callB (call_max2 rfl) (by rfl) T.f_max (by decide +kernel) (pa_cons pe_int (pa_cons (pe_callB call_len (by rfl) T.f_len (by decide +kernel) (pa_cons (pv 2) pa_nil)) pa_nil))) (pa_cons (pe_slice sl_list (pv 3) po_none (po_some (pe_callO (ok_w_draw T) (hr.mono (by decide)) pass0 (pa_cons (pv 1) (pa_cons (pe_op op_add (pe_callB call_len (by rfl) T.f_len (by decide +kernel) (pa_cons (pv 3) pa_nil)) pe_int) pa_nil))))) (pa_cons (pe_cmpR op_eq (pe_callO (ok_w_draw T) (hr.mono (by decide)) pass0 (pa_cons (pv 1) (pa_cons pe_int pa_nil))) pe_int (nomark _)) pa_nil)))))
  (pss_cons (ps_set (i := 5) sc_law.nd rfl (Or.inr rfl) (pe_lst (pa_cons (pe_callO (ok_format_row T) (hr.mono (by decide)) pass0 (pa_cons (pv 2) pa_nil)) (pa_cons (pe_callO (ok_format_record T) (hr.mono (by decide)) pass0 (pa_cons (pv 4) pa_nil)) pa_nil))))
  (pss_cons (ps_if (PW.pt (pw_or (pt_cmpR (op_neD hr.units) (pv 5) (pe_lst (pa_cons (pe_callO (ok_w_signs T) (hr.mono (by decide)) pass0 (pa_cons (pv 2) pa_nil)) (pa_cons (pe_callO (ok_w_words T) (hr.mono (by decide)) pass0 (pa_cons (pv 4) pa_nil)) pa_nil))) (nomark _)) (pw_or1 (pt_cmpR (op_neD hr.units) (pe_lc (own := [("_law_k", 6)]) rfl sc_law.nd (pi_range1 (by rfl) T.f_range (pa_cons pe_int pa_nil)) (blkOk_by (N := N_law) (sc := defScope s_law) (by decide +kernel)) (fun _ _ _ _ _ => (pg_name (i := 6) sc_law.nd rfl (Or.inl rfl))) (fun _ _ _ _ _ => pts_nil) (fun _ _ _ _ _ => (pe_callO (ok_w_parsed T) (hr.mono (by decide)) pass0 (pa_cons (pv 6) (pa_cons (pe_ix (ix_listK K rfl) (pv 5) (pv 6) (fun _ _ => rfl)) pa_nil))))) (pe_lst (pa_cons (pv 2) (pa_cons (pv 4) pa_nil))) (nomark _))))) (pss_one (ps_ret pe_bl)) pss_nil)
  (pss_cons (ps_for PassesOwn.never rfl (pi_range1 (by rfl) T.f_range (pa_cons pe_int pa_nil)) (pg_name (i := 7) sc_law.nd rfl (Or.inl rfl)) (pss_cons (ps_set (i := 8) sc_law.nd rfl (Or.inl rfl) (pe_callO (ok_w_draw T) (hr.mono (by decide)) pass0 (pa_cons (pv 1) (pa_cons pe_int pa_nil))))
  (pss_cons (ps_set (i := 9) sc_law.nd rfl (Or.inl rfl) (pe_ix ix_list (pv 5) (pv 8) (fun _ _ => rfl)))
  (pss_cons (ps_set (i := 10) sc_law.nd rfl (Or.inl rfl) (pe_callO (ok_w_draw T) (hr.mono (by decide)) pass0 (pa_cons (pv 1) (pa_cons (pe_op op_add (pe_callB call_len_str (by rfl) T.f_len (by decide +kernel) (pa_cons (pv 9) pa_nil)) pe_int) pa_nil))))
  (pss_cons (ps_set (i := 11) sc_law.nd rfl (Or.inl rfl) (pe_callO (ok_w_pick T) (hr.mono (by decide)) pass0 (pa_cons (pv 1) (pa_cons (pe_lst (pa_cons pe_str (pa_cons pe_str (pa_cons pe_str (pa_cons pe_str (pa_cons pe_str (pa_cons pe_str (pa_cons pe_str (pa_cons pe_str (pa_cons pe_str (pa_cons pe_str (pa_cons pe_str (pa_cons pe_str pa_nil))))))))))))) pa_nil))))
  (pss_cons (ps_set (i := 12) sc_law.nd rfl (Or.inl rfl) (pe_callO (ok_w_pick T) (hr.mono (by decide)) pass0 (pa_cons (pv 1) (pa_cons (pe_lst (pa_cons (pe_op op_add_str (pe_op op_add_str (pe_slice sl_str (pv 9) po_none (po_some (pv 10))) (pv 11)) (pe_slice sl_str (pv 9) (po_some (pe_op op_add (pv 10) pe_int)) po_none)) (pa_cons (pe_op op_add_str (pe_op op_add_str (pe_slice sl_str (pv 9) po_none (po_some (pv 10))) (pv 11)) (pe_slice sl_str (pv 9) (po_some (pv 10)) po_none)) pa_nil))) pa_nil))))
  (pss_cons (ps_set (i := 13) sc_law.nd rfl (Or.inl rfl) (pe_callO (ok_w_parsed T) (hr.mono (by decide)) pass0 (pa_cons (pv 8) (pa_cons (pv 12) pa_nil))))
  (pss_cons (ps_if (PW.pt (pw_and (pt_cmpR (op_neD hr.units) (pv 13) pe_str (nomark _)) (pw_and1 (pt_cmpR op_ne (pe_ifExp (pt_cmpR op_eq (pv 8) pe_int (nomark _)) (pe_callO (ok_w_signs T) (hr.mono (by decide)) pass0 (pa_cons (pv 13) pa_nil)) (pe_callO (ok_w_words T) (hr.mono (by decide)) pass0 (pa_cons (pv 13) pa_nil))) (pv 12) (nomark _))))) (pss_one (ps_ret pe_bl)) pss_nil)
  (pss_one (ps_if (PW.pt (pw_and (pt_cmpR (op_neD hr.units) (pv 13) pe_str (nomark _)) (pw_and (pt_cmpR op_eq (pv 8) pe_int (nomark _)) (pw_and1 (pt_cmpR op_notBl (pe_callO (ok_is_record T) (hr.mono (by decide)) pass0 (pa_cons (pv 13) pa_nil)) pe_bl (nomark _)))))) (pss_one (ps_ret pe_bl)) pss_nil))))))))))
  (pss_one (ps_ret (pe_callO0 (ok_w_rejected T) (hr.mono (by decide)) pass0))))))))))), ?_⟩
    have big : ∀ {k : Nat}, k ≤ 100000 → k ≤ sizeLine := fun h => sz (by omega)
    refine ⟨_, rfl, a, ns, rfl, ha, fun H1 d n e1 d1 => ?_⟩
    refine ⟨_, rfl, d, n, rfl, d1, fun H2 r row b2 d2 hr0 hro hr2 hl hv => ?_⟩
    have hrow : rowOkL row = true := by
      unfold rowOkL
      rw [decide_eq_true (show row.length ≤ 30 by omega), Bool.true_and]
      exact List.all_eq_true.mpr fun x hx => decide_eq_true (hv x hx)
    refine ⟨_, rfl, d, n, rfl, d2, fun H3 w0 b3 d3 hw => ⟨_, rfl, w0, r, row, rfl, hw, b3 _ _ hr2 hro, hl, fun H4 p l o lg e4 hl0 hp hlog hgood hlen => ?_⟩⟩
    obtain ⟨ts, t1, t2, t3⟩ := id hlog
    refine ⟨p, _, 0, .ref l, rfl, rfl, .inl (.inl hp), rfl, 30, rfl, l, _, rfl, .inl (.inl t1), fun L hL => ?_⟩
    have ecut : cutV (ts.map V.ref) none (some 30) = (ts.map V.ref).take 30 := cutV_hd _ 30
    rw [ecut]
    have d4 := d3.same e4
    have hLo := d4.off hL
    have s5 := same_upd (o := .lst ((ts.map V.ref).take 30)) hL
    have logL : LogAt (upd H4 L (.lst ((ts.map V.ref).take 30))) L (lg.take 30) := LogAt.cut 30 upd_same t2 fun i t q a b => s5 _ _ (t3 i t q a b)
    have d5 := d4.same s5
    have hr5 := s5 _ _ (e4 _ _ (b3 _ _ hr2 hro))
    have hgood5 : ∀ q ∈ lg.take 30, Good row q := fun q hq => hgood q (List.mem_of_mem_take hq)
    have len5 : (lg.take 30).length ≤ 30 := by
      rw [List.length_take]
      omega
    show tSeq _ _ _ _ (upd H4 L (.lst ((ts.map V.ref).take 30)))
    generalize upd H4 L (.lst ((ts.map V.ref).take 30)) = H5 at *
    generalize lg.take 30 = log5 at *
    obtain ⟨ts5, t51, t52, t53⟩ := id logL
    refine ⟨_, rfl, _, _, rfl, .inl ⟨_, .inl (.inl hr5), rfl⟩, 1, _, rfl, _, rfl, _, rfl, _, rfl, _, _, rfl, .inl ⟨_, .inl (.inl t51), rfl⟩, _, 1, rfl, rfl, d, n, _, rfl, ⟨by omega, by rw [List.length_map, t52]; omega⟩, d5, fun H6 j b6 d6 j1 j2 => ?_⟩
    have t61 := b6 _ _ t51 hLo
    refine ⟨j, rfl, L, _, rfl, .inl (.inl t61), fun L2 hL2 => ?_⟩
    obtain ⟨jn, rfl⟩ : ∃ jn : Nat, j = (jn : Int) := ⟨j.toNat, by omega⟩
    rw [cutV_hd]
    have s7 := same_upd (o := .lst ((ts5.map V.ref).take jn)) hL2
    have logL2 : LogAt (upd H6 L2 (.lst ((ts5.map V.ref).take jn))) L2 (log5.take jn) := LogAt.cut jn upd_same t52 fun i t q a b => s7 _ _ (b6 _ _ (t53 i t q a b) (d5.offT (t53 i t q a b)))
    have d7 := d6.same s7
    have hL2o := d6.off hL2
    have hr7 := s7 _ _ (b6 _ _ hr5 hro)
    have hgood7 : ∀ q ∈ log5.take jn, Good row q := fun q hq => hgood5 q (List.mem_of_mem_take hq)
    have len7 : (log5.take jn).length ≤ 30 := by
      rw [List.length_take]
      omega
    generalize upd H6 L2 (.lst ((ts5.map V.ref).take jn)) = H7 at *
    generalize log5.take jn = log7 at *
    refine ⟨_, rfl, d, n, 2, rfl, ⟨by decide, by decide⟩, d7, fun H8 j8 b8 d8 _ _ => ⟨rfl, big (show 3 ≤ 100000 by decide), fun R hR => ?_⟩⟩
    have hr8 := b8 _ _ hr7 hro
    have logL8 := logL2.butD d7 b8 hL2o
    have hRo := d8.off hR
    generalize (decide (V.int j8 = V.int 1)) = eb at *
    obtain ⟨m, hm1, hm2⟩ : ∃ m : Int, m = (if ((((row.map V.int).length : Nat)) : Int) > 1 then ((((row.map V.int).length : Nat)) : Int) else 1) ∧ m = max 1 (row.length : Int) := ⟨_, rfl, by rw [List.length_map]; split <;> omega⟩
    rw [← hm1]
    have s9 := same_upd (o := .tup [.int m, .ref L2, .bl eb]) hR
    have recR : RecAt (upd H8 R (.tup [.int m, .ref L2, .bl eb])) R (m, log7, eb) := ⟨L2, upd_same, logL8.same s9⟩
    have hok : recOk (m, log7, eb) = true := recOk_run (by omega) hm2 (by omega) hgood7
    have d9 := d8.same s9
    have hr9 := s9 _ _ hr8
    show tSeq _ _ _ _ (upd H8 R (.tup [.int m, .ref L2, .bl eb]))
    generalize upd H8 R (.tup [.int m, .ref L2, .bl eb]) = H9 at *
    refine ⟨_, rfl, r, row, rfl, hr9, hrow, fun H10 e10 => ⟨_, rfl, R, _, rfl, recR.same e10, hok, fun H11 e11 => ⟨big (show 2 ≤ 100000 by decide), fun Tx hTx => ?_⟩⟩⟩
    have e12 : Same H9 (upd H11 Tx (.lst [.str (mkS (rowL row)), .str (mkS (recL (m, log7, eb)))])) := (e10.trans e11).trans (same_upd hTx)
    have kTx : (upd H11 Tx (.lst [.str (mkS (rowL row)), .str (mkS (recL (m, log7, eb)))])) Tx = some (.lst [.str (mkS (rowL row)), .str (mkS (recL (m, log7, eb)))]) := upd_same
    have hTxo := d9.off (none_back (e10.trans e11) hTx)
    show tSeq _ _ _ _ (upd H11 Tx (.lst [.str (mkS (rowL row)), .str (mkS (recL (m, log7, eb)))]))
    generalize upd H11 Tx (.lst [.str (mkS (rowL row)), .str (mkS (recL (m, log7, eb)))]) = H12 at *
    have d12 := d9.same e12
    have hr12 := e12 _ _ hr9
    have recR12 := recR.same e12
    refine ⟨_, rfl, _, rfl, r, row, rfl, hr12, hrow, fun H13 e13 => ⟨_, rfl, R, _, rfl, recR12.same e13, hok, fun H14 e14 => ⟨big (show 2 ≤ 100000 by decide), fun q1 hq1 => ?_⟩⟩⟩
    have shT : SeqAt.shaped (.list [.str (mkS (rowL row)), .str (mkS (recL (m, log7, eb)))]) = true := by
      show ((PyData.canLay0 (.str (mkS (rowL row))) && (PyData.canLay0 (.str (mkS (recL (m, log7, eb)))) && true)) && decide (0 + 1 ≤ 64)) = true
      rw [strOk_mk (fun c hc => rowL_lt hc), strOk_mk (fun c hc => recL_lt hc)]
      rfl
    refine ⟨.list [.str (mkS (rowL row)), .str (mkS (recL (m, log7, eb)))], .list [.str (mkS (rowL row)), .str (mkS (recL (m, log7, eb)))], .lst (.inl (.inl ((same_upd hq1) _ _ (e14 _ _ (e13 _ _ kTx))))) (.cons (.str _) (.cons (.str _) .nil)), .lst (.inl (.inl upd_same)) (.cons (.str _) (.cons (.str _) .nil)), shT, shT, _, rfl, iteF' (by rw [eqv_self shT]; rfl) ?_⟩
    have e15 : Same H12 (upd H14 q1 (.lst [.str (mkS (rowL row)), .str (mkS (recL (m, log7, eb)))])) := (e13.trans e14).trans (same_upd hq1)
    generalize upd H14 q1 (.lst [.str (mkS (rowL row)), .str (mkS (recL (m, log7, eb)))]) = H15 at *
    refine ⟨2, rfl, by decide, by decide, fun D hD => ?_⟩
    refine lc_range (n := 2) (fun i H' => Same H15 H' ∧ (i = 0 → H' D = some (.lst [])) ∧ (i = 1 → ∃ a0, H' D = some (.lst [.ref a0]) ∧ H' a0 = some (.lst (row.map V.int)) ∧ a0 ≠ D) ∧ (i = 2 → ∃ a0 a1, H' D = some (.lst [.ref a0, .ref a1]) ∧ H' a0 = some (.lst (row.map V.int)) ∧ RecAt H' a1 (m, log7, eb)))
      ⟨same_upd hD, (fun _ => upd_same), (fun h => by cases h), (fun h => by cases h)⟩ (fun i H' hi p => ?_) (fun H' p => ?_)
    · obtain ⟨e16, p0, p1, p2⟩ := p
      have kTx' := e16 _ _ (e15 _ _ kTx)
      rcases i with _ | _ | i
      · have kD := p0 rfl
        refine ⟨rfl, _, rfl, _, rfl, _, rfl, Tx, _, 0, .str (mkS (rowL row)), rfl, rfl, .inl (.inl kTx'), rfl, 0, _, rfl, .inl ⟨rfl, .inr ⟨rowL row, rfl, by have := rowL_len hrow; omega, fun ns' hns H17 a0 e17 ha0 ka0 => ?_, fun hno => ?_⟩⟩⟩
        · rw [parseRow_of hrow] at hns
          cases hns
          have nD : a0 ≠ D := fun z => by
            rw [z, kD] at ha0
            cases ha0
          refine ⟨[], e17 _ _ kD, sz' (show 0 < 16777216 by decide), same_mut (e16.trans e17) hD, (fun h => by cases h), (fun _ => ⟨a0, upd_same, ?_, nD⟩), (fun h => by cases h)⟩
          rw [upd_ne nD]
          exact ka0
        · rw [parseRow_of hrow] at hno
          cases hno
      · obtain ⟨a0, kD, ka0, nD⟩ := p1 rfl
        refine ⟨rfl, _, rfl, _, rfl, _, rfl, Tx, _, 1, .str (mkS (recL (m, log7, eb))), rfl, rfl, .inl (.inl kTx'), rfl, 1, _, rfl, .inr ⟨rfl, .inr ⟨recL (m, log7, eb), rfl, by have := recL_len hok; omega, fun r' hr' H17 a1 e17 ha1 ka1 => ?_, fun hno => ?_⟩⟩⟩
        · rw [parseRec_of hok] at hr'
          cases hr'
          refine ⟨[.ref a0], e17 _ _ kD, sz' (show 1 < 16777216 by decide), same_mut (e16.trans e17) hD, (fun h => by cases h), (fun h => by cases h), fun _ => ⟨a0, a1, upd_same, ?_, ?_⟩⟩
          · rw [upd_ne nD]
            exact e17 _ _ ka0
          · obtain ⟨l', k1, ts', k2, k3, k4⟩ := ka1
            have kD17 := e17 _ _ kD
            have ka17 := e17 _ _ ka0
            have nl : l' ≠ D := fun z => by
              rw [z, kD17] at k2
              cases ts' with
              | nil => cases k2
              | cons t0 tr =>
                have e1 : t0 = a0 := by
                  have z2 : [V.ref a0] = V.ref t0 :: tr.map V.ref := by
                    injection k2 with z3
                    injection z3
                  injection z2 with z4
                  injection z4 with z5
                  exact z5.symm
                have k3' : (t0 :: tr).length = log7.length := k3
                obtain ⟨q0, hq0⟩ := get_at (l := log7) (i := 0) (by rw [← k3']; exact Nat.zero_lt_succ _)
                have z5 := k4 0 t0 q0 rfl hq0
                rw [e1, ka17] at z5
                cases z5
            have na : a1 ≠ D := fun z => by
              rw [z, kD17] at k1
              cases k1
            refine ⟨l', ?_, ts', ?_, k3, fun i t q0 x y => ?_⟩
            · rw [upd_ne na]
              exact k1
            · rw [upd_ne nl]
              exact k2
            · have z := k4 i t q0 x y
              rw [upd_ne (fun e => by rw [e, kD17] at z; cases z)]
              exact z
        · rw [parseRec_of hok] at hno
          cases hno
      · omega
    · obtain ⟨e16, _, _, p2⟩ := p
      obtain ⟨a0, a1, kD, ka0, ka1⟩ := p2 rfl
      have e17 : Same H12 H' := e15.trans e16
      refine ⟨_, rfl, _, rfl, big (show 2 ≤ 100000 by decide), fun q2 hq2 => ?_⟩
      have shB := both_shaped row (m, log7, eb)
      have sq := same_upd (o := .lst [.ref r, .ref R]) hq2
      refine ⟨bothD row (m, log7, eb), bothD row (m, log7, eb), .lst (.inl (.inl (sq _ _ kD))) (.cons (.lst (.inl (.inl (sq _ _ ka0))) (dp_ints _)) (.cons (ka1.same sq).dp .nil)), .lst (.inl (.inl upd_same)) (.cons (.lst (.inl (.inl (sq _ _ (e17 _ _ hr12)))) (dp_ints _)) (.cons ((recR12.same e17).same sq).dp .nil)), shB, shB, _, rfl, iteF' (by rw [eqv_self shB]; rfl) ?_⟩
      have e18 : Same H12 (upd H' q2 (.lst [.ref r, .ref R])) := e17.trans sq
      have dH := d12.same e18
      have kTH := e18 _ _ kTx
      generalize upd H' q2 (.lst [.ref r, .ref R]) = HL at *
      refine ⟨16, rfl, by decide, by decide, ?_⟩
      refine for_range (n := 16) (fun i σ' H' => ∃ u7 u8 u9 u10 u11 u12 u13, σ' = [some (.ref a), some (.ref d), some (.ref r), some (.ref L), some (.ref R), some (.ref Tx), none, u7, u8, u9, u10, u11, u12, u13] ∧ DrawsAt H' d n ∧ H' Tx = some (.lst [.str (mkS (rowL row)), .str (mkS (recL (m, log7, eb)))]))
        ⟨_, _, _, _, _, _, _, rfl, dH, kTH⟩ (fun i σ' H' hi p => ?_) (fun σ' H' p => ?_)
      · obtain ⟨u7, u8, u9, u10, u11, u12, u13, rfl, dd, kT⟩ := p
        refine ⟨_, rfl, d, n, 2, rfl, ⟨by decide, by decide⟩, dd, fun Ha k ba da k1 k2 => ?_⟩
        have kTa := ba _ _ kT hTxo
        have hk : k = 0 ∨ k = 1 := by omega
        obtain ⟨tt, htt, htl⟩ : ∃ tt : List Nat, atI [V.str (mkS (rowL row)), .str (mkS (recL (m, log7, eb)))] k = some (.str (mkS tt)) ∧ tt.length ≤ 10000 := by
          rcases hk with rfl | rfl
          · exact ⟨_, rfl, by have := rowL_len hrow; omega⟩
          · exact ⟨_, rfl, recL_len hok⟩
        have zl : (mkS tt).length ≤ 10000 := by rw [mk_len]; exact htl
        have zz : (mkS tt).length ≤ sizeLine := big (by omega)
        refine ⟨_, rfl, _, rfl, Tx, _, k, _, rfl, rfl, .inl (.inl kTa), htt, ?_⟩
        refine ⟨_, rfl, _, rfl, mkS tt, rfl, zz, _, 1, rfl, rfl, d, n, _, rfl, ⟨by omega, by omega⟩, da, fun Hb at_ bb db t1 t2 => ?_⟩
        have kTb := bb _ _ kTa hTxo
        refine ⟨_, rfl, big (show 12 ≤ 100000 by decide), fun m1 hm1' => ⟨d, n, m1, _, rfl, upd_same, List.cons_ne_nil _ _, by show 12 < 1000; decide, db.off hm1', db.same (same_upd hm1'), fun Hc x bc dc hx => ?_⟩⟩
        have kTc := bc _ _ ((same_upd hm1') _ _ kTb) hTxo
        obtain ⟨mk, rfl, hmk⟩ : ∃ mk : Str, x = .str mk ∧ mk.length ≤ 3 := by
          simp only [List.mem_cons, List.mem_nil_iff, or_false] at hx
          rcases hx with h | h | h | h | h | h | h | h | h | h | h | h <;> exact ⟨_, h, by decide +kernel⟩
        have l1 : ∀ lo hi, (cutS (mkS tt) lo hi).length ≤ 10000 := fun lo hi => Nat.le_trans (cutS_le _ _ _) zl
        have l2 : ∀ lo hi, (cutS (mkS tt) lo hi ++ mk).length ≤ 10003 := fun lo hi => by
          rw [str_app_len]
          have := l1 lo hi
          omega
        refine ⟨_, rfl, _, rfl, _, rfl, at_, rfl, mkS tt, rfl, zz, _, rfl, _, _, rfl, rfl, ?_, _, rfl, _, rfl, at_, 1, rfl, rfl, _, rfl, mkS tt, rfl, zz, _, _, rfl, rfl, ?_, ?_⟩
        · have := l1 none (some at_)
          exact big (by omega)
        · have := l1 (some (at_ + 1)) none
          have := l2 none (some at_)
          exact big (by omega)
        refine ⟨_, rfl, _, rfl, at_, rfl, mkS tt, rfl, zz, _, rfl, _, _, rfl, rfl, ?_, _, rfl, _, rfl, at_, rfl, mkS tt, rfl, zz, _, _, rfl, rfl, ?_, ?_⟩
        · have := l1 none (some at_)
          exact big (by omega)
        · have := l1 (some at_) none
          have := l2 none (some at_)
          exact big (by omega)
        refine ⟨big (show 2 ≤ 100000 by decide), fun m2 hm2' => ⟨d, n, m2, _, rfl, upd_same, List.cons_ne_nil _ _, by show 2 < 1000; decide, dc.off hm2', dc.same (same_upd hm2'), fun Hd x2 bd dd2 hx2 => ?_⟩⟩
        have kTd := bd _ _ ((same_upd hm2') _ _ kTc) hTxo
        obtain ⟨y, rfl, hyl⟩ : ∃ y : Str, x2 = .str y ∧ y.length ≤ 30000 := by
          simp only [List.mem_cons, List.mem_nil_iff, or_false] at hx2
          have h1 := l2 none (some at_)
          have h2 := l1 (some (at_ + 1)) none
          have h3 := l1 (some at_) none
          rcases hx2 with h | h
          · exact ⟨_, h, by rw [str_app_len]; omega⟩
          · exact ⟨_, h, by rw [str_app_len]; omega⟩
        have hyl2 : (tl y).length ≤ 900000 := by
          have e : y.length = (tl y).length := by
            show y.cps.size = y.cps.toList.length
            rw [Array.length_toList]
          omega
        have shS : SeqAt.shaped (.str "text") = true := by decide +kernel
        rcases hk with rfl | rfl
        · refine ⟨_, rfl, _, rfl, 0, .str y, rfl, .inl ⟨rfl, .inr ⟨tl y, rfl, hyl2, fun ns' hns He a2 ee ha2 ka2 => ?_, fun hno He ee => ?_⟩⟩⟩
          · obtain ⟨p1, p2⟩ := parseRow_show hns
            refine ⟨_, rfl, .list (ns'.map PyData.int), .str "text", .lst (.inl (.inl ka2)) (dp_ints _), .str _, ints_shaped _, shS, _, rfl, iteT' (by rfl) ?_⟩
            refine ⟨_, rfl, rfl, _, rfl, iteT' (by decide +kernel) ⟨_, rfl, a2, ns', rfl, ka2, p2, fun Hf ef => ⟨_, rfl, rfl, _, rfl, iteF' ?_ ?_⟩⟩⟩
            · show (!decide (V.str (mkS (rowL ns')) = V.str (mkS (tl y)))) = false
              rw [deq_mk, decide_eq_true p1]
              rfl
            · refine ⟨_, rfl, .list (ns'.map PyData.int), .str "text", .lst (.inl (.inl (ef _ _ ka2))) (dp_ints _), .str _, ints_shaped _, shS, _, rfl, iteT' (by rfl) ?_⟩
              refine ⟨_, rfl, rfl, _, rfl, iteF' (by decide +kernel) (iteF' (by rfl) ?_)⟩
              exact ⟨_, _, _, _, _, _, _, rfl, (dd2.same ee).same ef, ef _ _ (ee _ _ kTd)⟩
          · refine ⟨_, rfl, .str "text", .str "text", .str _, .str _, shS, shS, _, rfl, iteF' (by decide +kernel) (iteF' (by rfl) ?_)⟩
            refine ⟨_, rfl, .str "text", .str "text", .str _, .str _, shS, shS, _, rfl, iteF' (by decide +kernel) (iteF' (by rfl) ?_)⟩
            exact ⟨_, _, _, _, _, _, _, rfl, dd2.same ee, ee _ _ kTd⟩
        · refine ⟨_, rfl, _, rfl, 1, .str y, rfl, .inr ⟨rfl, .inr ⟨tl y, rfl, hyl2, fun r' hr' He a2 ee ha2 ka2 => ?_, fun hno He ee => ?_⟩⟩⟩
          · obtain ⟨p1, p2⟩ := parseRec_show hr'
            refine ⟨_, rfl, recD r', .str "text", ka2.dp, .str _, rec_shaped _, shS, _, rfl, iteT' (by rfl) ?_⟩
            refine ⟨_, rfl, rfl, _, rfl, iteF' (by decide +kernel) ⟨_, rfl, a2, r', rfl, ka2, p2, fun Hf ef => ⟨_, rfl, rfl, _, rfl, iteF' ?_ ?_⟩⟩⟩
            · show (!decide (V.str (mkS (recL r')) = V.str (mkS (tl y)))) = false
              rw [deq_mk, decide_eq_true p1]
              rfl
            · refine ⟨_, rfl, recD r', .str "text", (ka2.same ef).dp, .str _, rec_shaped _, shS, _, rfl, iteT' (by rfl) ?_⟩
              refine ⟨_, rfl, rfl, _, rfl, iteT' (by decide +kernel) ?_⟩
              refine ⟨_, rfl, a2, r', rfl, ka2.same ef, fun Hg eg => ⟨_, _, rfl, rfl, _, rfl, iteF' (by rw [p2]; rfl) ?_⟩⟩
              exact ⟨_, _, _, _, _, _, _, rfl, ((dd2.same ee).same ef).same eg, eg _ _ (ef _ _ (ee _ _ kTd))⟩
          · refine ⟨_, rfl, .str "text", .str "text", .str _, .str _, shS, shS, _, rfl, iteF' (by decide +kernel) (iteF' (by rfl) ?_)⟩
            refine ⟨_, rfl, .str "text", .str "text", .str _, .str _, shS, shS, _, rfl, iteF' (by decide +kernel) (iteF' (by rfl) ?_)⟩
            exact ⟨_, _, _, _, _, _, _, rfl, dd2.same ee, ee _ _ kTd⟩
      · exact ⟨rfl, fun H' e => q H'⟩
end
end K20
/-! K20Z: the head. -/
namespace K20
open PySem PySem.Spec PyProof.Rows L2
abbrev R : PySem.W.OpenRow := PySem.W.OpenLaw.row PySem.Challenge.rw_hiddensorters_k20_whole_record_texts
def looseA : List PySem.Str := ["SortError", "BadWay", "BadRow", "BadRecord", "BadAnswer", "BadNumber", "BadText", "NotFound", "is_int", "MOST_THINGS", "is_row", "check_row", "Steps", "steps_of", "is_answer", "is_record", "check_record", "DIGITS", "format_row", "record_text", "format_record", "check_text", "number_in", "parse_row", "answer_in", "parse_record", "_law_start", "_law_draw", "_law_pick", "_law_error"]
def looseB : List PySem.Str := ["_law_gaps", "_law_simple", "_law_way", "_law_row", "_law_tells", "_law_less", "_law_into", "_law_inserted", "_law_select", "_law_pass", "_law_bubble", "_law_gapped", "_law_merged", "_law_merge", "_law_pivot", "_law_part", "_law_swapped", "_law_sunk", "_law_heap", "_law_tree", "_law_ranks", "_law_sort", "_law_words", "_law_signs", "_law_parsed", "_law_rejected"]
abbrev loose : List PySem.Str := looseA ++ looseB
def dd_is_int : He.DefD := ⟨("is_int", none), "is_int", "is_int", defArgs s_is_int, defBody s_is_int, defScope s_is_int, [], []⟩
def dd_is_row : He.DefD := ⟨("is_row", none), "is_row", "is_row", defArgs s_is_row, defBody s_is_row, defScope s_is_row, [], []⟩
def dd_check_row : He.DefD := ⟨("check_row", none), "check_row", "check_row", defArgs s_check_row, defBody s_check_row, defScope s_check_row, [], []⟩
def dd_Steps_init : He.DefD := ⟨("Steps", some "__init__"), "__init__", "Steps.__init__", defArgs s_Steps_init, defBody s_Steps_init, defScope s_Steps_init, [], []⟩
def dd_Steps_tells : He.DefD := ⟨("Steps", some "tells"), "tells", "Steps.tells", defArgs s_Steps_tells, defBody s_Steps_tells, defScope s_Steps_tells, [], []⟩
def dd_Steps_add : He.DefD := ⟨("Steps", some "add"), "add", "Steps.add", defArgs s_Steps_add, defBody s_Steps_add, defScope s_Steps_add, [], []⟩
def dd_steps_of : He.DefD := ⟨("steps_of", none), "steps_of", "steps_of", defArgs s_steps_of, defBody s_steps_of, defScope s_steps_of, [], []⟩
def dd_is_answer : He.DefD := ⟨("is_answer", none), "is_answer", "is_answer", defArgs s_is_answer, defBody s_is_answer, defScope s_is_answer, [], []⟩
def dd_is_record : He.DefD := ⟨("is_record", none), "is_record", "is_record", defArgs s_is_record, defBody s_is_record, defScope s_is_record, [], []⟩
def dd_check_record : He.DefD := ⟨("check_record", none), "check_record", "check_record", defArgs s_check_record, defBody s_check_record, defScope s_check_record, [], []⟩
def dd_format_row : He.DefD := ⟨("format_row", none), "format_row", "format_row", defArgs s_format_row, defBody s_format_row, defScope s_format_row, [], []⟩
def dd_record_text : He.DefD := ⟨("record_text", none), "record_text", "record_text", defArgs s_record_text, defBody s_record_text, defScope s_record_text, [], []⟩
def dd_format_record : He.DefD := ⟨("format_record", none), "format_record", "format_record", defArgs s_format_record, defBody s_format_record, defScope s_format_record, [], []⟩
def dd_check_text : He.DefD := ⟨("check_text", none), "check_text", "check_text", defArgs s_check_text, defBody s_check_text, defScope s_check_text, [], []⟩
def dd_number_in : He.DefD := ⟨("number_in", none), "number_in", "number_in", defArgs s_number_in, defBody s_number_in, defScope s_number_in, [], []⟩
def dd_parse_row : He.DefD := ⟨("parse_row", none), "parse_row", "parse_row", defArgs s_parse_row, defBody s_parse_row, defScope s_parse_row, [], []⟩
def dd_answer_in : He.DefD := ⟨("answer_in", none), "answer_in", "answer_in", defArgs s_answer_in, defBody s_answer_in, defScope s_answer_in, [], []⟩
def dd_parse_record : He.DefD := ⟨("parse_record", none), "parse_record", "parse_record", defArgs s_parse_record, defBody s_parse_record, defScope s_parse_record, [], []⟩
def dd_w_start : He.DefD := ⟨("_law_start", none), "_law_start", "_law_start", defArgs s_w_start, defBody s_w_start, defScope s_w_start, [], []⟩
def dd_w_draw : He.DefD := ⟨("_law_draw", none), "_law_draw", "_law_draw", defArgs s_w_draw, defBody s_w_draw, defScope s_w_draw, [], []⟩
def dd_w_pick : He.DefD := ⟨("_law_pick", none), "_law_pick", "_law_pick", defArgs s_w_pick, defBody s_w_pick, defScope s_w_pick, [], []⟩
def dd_w_error : He.DefD := ⟨("_law_error", none), "_law_error", "_law_error", defArgs s_w_error, defBody s_w_error, defScope s_w_error, [], []⟩
def dd_w_gaps : He.DefD := ⟨("_law_gaps", none), "_law_gaps", "_law_gaps", defArgs s_w_gaps, defBody s_w_gaps, defScope s_w_gaps, [], []⟩
def dd_w_simple : He.DefD := ⟨("_law_simple", none), "_law_simple", "_law_simple", defArgs s_w_simple, defBody s_w_simple, defScope s_w_simple, [], []⟩
def dd_w_way : He.DefD := ⟨("_law_way", none), "_law_way", "_law_way", defArgs s_w_way, defBody s_w_way, defScope s_w_way, [], []⟩
def dd_w_row : He.DefD := ⟨("_law_row", none), "_law_row", "_law_row", defArgs s_w_row, defBody s_w_row, defScope s_w_row, [], []⟩
def dd_w_tells : He.DefD := ⟨("_law_tells", none), "_law_tells", "_law_tells", defArgs s_w_tells, defBody s_w_tells, defScope s_w_tells, [], []⟩
def dd_w_less : He.DefD := ⟨("_law_less", none), "_law_less", "_law_less", defArgs s_w_less, defBody s_w_less, defScope s_w_less, [], []⟩
def dd_w_into : He.DefD := ⟨("_law_into", none), "_law_into", "_law_into", defArgs s_w_into, defBody s_w_into, defScope s_w_into, [], []⟩
def dd_w_inserted : He.DefD := ⟨("_law_inserted", none), "_law_inserted", "_law_inserted", defArgs s_w_inserted, defBody s_w_inserted, defScope s_w_inserted, [], []⟩
def dd_w_select : He.DefD := ⟨("_law_select", none), "_law_select", "_law_select", defArgs s_w_select, defBody s_w_select, defScope s_w_select, [], []⟩
def dd_w_pass : He.DefD := ⟨("_law_pass", none), "_law_pass", "_law_pass", defArgs s_w_pass, defBody s_w_pass, defScope s_w_pass, [], []⟩
def dd_w_bubble : He.DefD := ⟨("_law_bubble", none), "_law_bubble", "_law_bubble", defArgs s_w_bubble, defBody s_w_bubble, defScope s_w_bubble, [], []⟩
def dd_w_gapped : He.DefD := ⟨("_law_gapped", none), "_law_gapped", "_law_gapped", defArgs s_w_gapped, defBody s_w_gapped, defScope s_w_gapped, [], []⟩
def dd_w_merged : He.DefD := ⟨("_law_merged", none), "_law_merged", "_law_merged", defArgs s_w_merged, defBody s_w_merged, defScope s_w_merged, [], []⟩
def dd_w_merge : He.DefD := ⟨("_law_merge", none), "_law_merge", "_law_merge", defArgs s_w_merge, defBody s_w_merge, defScope s_w_merge, [], []⟩
def dd_w_pivot : He.DefD := ⟨("_law_pivot", none), "_law_pivot", "_law_pivot", defArgs s_w_pivot, defBody s_w_pivot, defScope s_w_pivot, [], []⟩
def dd_w_part : He.DefD := ⟨("_law_part", none), "_law_part", "_law_part", defArgs s_w_part, defBody s_w_part, defScope s_w_part, [], []⟩
def dd_w_swapped : He.DefD := ⟨("_law_swapped", none), "_law_swapped", "_law_swapped", defArgs s_w_swapped, defBody s_w_swapped, defScope s_w_swapped, [], []⟩
def dd_w_sunk : He.DefD := ⟨("_law_sunk", none), "_law_sunk", "_law_sunk", defArgs s_w_sunk, defBody s_w_sunk, defScope s_w_sunk, [], []⟩
def dd_w_heap : He.DefD := ⟨("_law_heap", none), "_law_heap", "_law_heap", defArgs s_w_heap, defBody s_w_heap, defScope s_w_heap, [], []⟩
def dd_w_tree : He.DefD := ⟨("_law_tree", none), "_law_tree", "_law_tree", defArgs s_w_tree, defBody s_w_tree, defScope s_w_tree, [], []⟩
def dd_w_ranks : He.DefD := ⟨("_law_ranks", none), "_law_ranks", "_law_ranks", defArgs s_w_ranks, defBody s_w_ranks, defScope s_w_ranks, [], []⟩
def dd_w_sort : He.DefD := ⟨("_law_sort", none), "_law_sort", "_law_sort", defArgs s_w_sort, defBody s_w_sort, defScope s_w_sort, [], []⟩
def dd_w_words : He.DefD := ⟨("_law_words", none), "_law_words", "_law_words", defArgs s_w_words, defBody s_w_words, defScope s_w_words, [], []⟩
def dd_w_signs : He.DefD := ⟨("_law_signs", none), "_law_signs", "_law_signs", defArgs s_w_signs, defBody s_w_signs, defScope s_w_signs, [], []⟩
def dd_w_parsed : He.DefD := ⟨("_law_parsed", none), "_law_parsed", "_law_parsed", defArgs s_w_parsed, defBody s_w_parsed, defScope s_w_parsed, [], []⟩
def dd_w_rejected : He.DefD := ⟨("_law_rejected", none), "_law_rejected", "_law_rejected", defArgs s_w_rejected, defBody s_w_rejected, defScope s_w_rejected, [], []⟩
def dd_law : He.DefD := ⟨("law", none), "law", "law", defArgs s_law, defBody s_law, defScope s_law, [], []⟩
def fn0 : List He.DefD := [dd_is_int, dd_is_row, dd_check_row, dd_Steps_init, dd_Steps_tells, dd_Steps_add, dd_steps_of, dd_is_answer, dd_is_record, dd_check_record, dd_format_row, dd_record_text, dd_format_record, dd_check_text, dd_number_in, dd_parse_row, dd_answer_in, dd_parse_record, dd_w_start, dd_w_draw, dd_w_pick, dd_w_error, dd_w_gaps, dd_w_simple, dd_w_way, dd_w_row, dd_w_tells, dd_w_less, dd_w_into, dd_w_inserted]
def fn1 : List He.DefD := [dd_w_select, dd_w_pass, dd_w_bubble, dd_w_gapped, dd_w_merged, dd_w_merge, dd_w_pivot, dd_w_part, dd_w_swapped, dd_w_sunk, dd_w_heap, dd_w_tree, dd_w_ranks, dd_w_sort, dd_w_words, dd_w_signs, dd_w_parsed, dd_w_rejected, dd_law]
def fn : List He.DefD := fn0 ++ fn1
def fa0 : List He.Fa := [.glo "is_int", .glo "is_row", .glo "check_row", .glo "steps_of", .glo "is_answer", .glo "is_record", .glo "check_record", .glo "format_row", .glo "record_text", .glo "format_record", .glo "check_text", .glo "number_in", .glo "parse_row", .glo "answer_in", .glo "parse_record", .glo "_law_start", .glo "_law_draw", .glo "_law_pick", .glo "_law_error", .glo "_law_gaps", .glo "_law_simple", .glo "_law_way", .glo "_law_row", .glo "_law_tells", .glo "_law_less", .glo "_law_into", .glo "_law_inserted", .glo "_law_select", .glo "_law_pass", .glo "_law_bubble"]
def fa1 : List He.Fa := [.glo "_law_gapped", .glo "_law_merged", .glo "_law_merge", .glo "_law_pivot", .glo "_law_part", .glo "_law_swapped", .glo "_law_sunk", .glo "_law_heap", .glo "_law_tree", .glo "_law_ranks", .glo "_law_sort", .glo "_law_words", .glo "_law_signs", .glo "_law_parsed", .glo "_law_rejected", .glo "law", .free "isinstance", .free "len", .free "all", .free "str", .free "int", .free "bool", .free "list", .free "tuple", .free "max", .free "range", .free "sorted", .free "ValueError", .int "MOST_THINGS" 30, .str "DIGITS" "0123456789"]
def fa2 : List He.Fa := [.glo "Steps", .glo "SortError", .glo "BadText", .glo "BadWay", .glo "BadRow", .glo "BadRecord", .glo "BadAnswer", .glo "BadNumber", .glo "NotFound", .cls "Steps", .noat "Steps" "size", .noat "Steps" "rows", .meth "Steps" "tells", .meth "Steps" "add", .mkr "Steps", .exc "BadText", .exc "BadRow", .exc "BadRecord", .exm "BadText" "SortError" true]
def fa : List He.Fa := fa0 ++ fa1 ++ fa2
def kb (K : PySem.W.Frag) (c : Value) (b : Bool) : Bool := decide (PySem.W.kitOne K (.ref (He.ga K "BadText")) c = some b)
def exB (K : PySem.W.Frag) : Bool :=
  He.eqO (PySem.W.findIn K (.ref (He.ga K "BadText")) "__getattribute__") (some (some (.builtin "BaseException.__getattribute__"))) && (He.eqO (PySem.W.findIn K (.ref (He.ga K "BadText")) "__getattr__") (some none) &&
  (decide (PySem.W.subIn K (.ref (He.ga K "BadText")) (.type "BaseException") = some true) && (PySem.W.hasDictIn K (He.ga K "BadText") && (He.eqO (PySem.W.findIn K (.ref (He.ga K "BadText")) "__class__") (some (some (.builtin "object.__class__"))) &&
  (He.eqO (PySem.W.specialIn K (.builtin "object.__class__") "__get__") (some (some (.builtin "getset_descriptor.__get__"))) && (decide (PySem.W.takesIn K (.builtin "object.__class__") = some true) && (decide (PySem.W.mroIn K (He.ga K "BadText") (.type "object") = some true) &&
  (kb K (.ref (He.ga K "BadText")) true && (kb K (.ref (He.ga K "SortError")) true && (kb K (.type "ValueError") true && (kb K (.ref (He.ga K "BadWay")) false && (kb K (.ref (He.ga K "BadRow")) false && (kb K (.ref (He.ga K "BadRecord")) false &&
  (kb K (.ref (He.ga K "BadAnswer")) false && (kb K (.ref (He.ga K "BadNumber")) false && kb K (.ref (He.ga K "NotFound")) false)))))))))))))))
abbrev AlX : Type := He.AlD × Bool
def obsX (K : PySem.W.Frag) : AlX := (He.obsD fa fn K, exB K)
def obsXG (g : Addr → Option Obj) : AlX := obsX (He.frG g (He.asD g 5))
def SaysX (K : PySem.W.Frag) : Prop := He.SaysD fa fn K ∧ exB K = true
def hk : PySem.W.Hook where
  α := AlX
  obs := fun s => obsXG s.heap.get?
  val := fun _ => (He.valD fn, true)
  says := fun _ h => ∃ K : PySem.W.Frag, K.In h ∧ SaysX K
  of := fun _ _ e => ⟨_, He.frG_in, congrArg (fun z : AlX => z.1) e, congrArg (fun z : AlX => z.2) e⟩
  keeps := fun _ _ _ ⟨K, hK, c⟩ k => ⟨K, PySem.W.Frag.In.keeps hK k, c⟩
def ob (s : PySem.W.SharedT) : AlX := obsXG (HandSHeadRun.getT s)
theorem ob_eq (s : PySem.W.SharedT) : ob s = hk.obs s.abs := by
  have e : HandSHeadRun.getT s = s.abs.heap.get? := funext (HandSHeadRun.getT_eq s)
  unfold ob
  rw [e]
  rfl
theorem run (w : World) : HandSHeadRun.RunEq R (PySem.W.view R.prog [62]) hk ob 4000 loose w := by
  intro os
  kernel_rfl
theorem txt {K : PySem.W.Frag} {h : Heap} {mg : Str → Option Value} (X : K.In h) (G : h.Ns mainGlobals mg) (c : SaysX K) : Txt K mg (He.ga K "Steps") (He.ga K "SortError") (He.ga K "BadText") := by
  obtain ⟨c, cx⟩ := c
  obtain ⟨x1, cx⟩ := He.ba cx
  obtain ⟨x2, cx⟩ := He.ba cx
  obtain ⟨x3, cx⟩ := He.ba cx
  obtain ⟨x4, cx⟩ := He.ba cx
  obtain ⟨x5, cx⟩ := He.ba cx
  obtain ⟨x6, cx⟩ := He.ba cx
  obtain ⟨x7, cx⟩ := He.ba cx
  obtain ⟨x8, cx⟩ := He.ba cx
  obtain ⟨y1, cx⟩ := He.ba cx
  obtain ⟨y2, cx⟩ := He.ba cx
  obtain ⟨y3, cx⟩ := He.ba cx
  obtain ⟨y4, cx⟩ := He.ba cx
  obtain ⟨y5, cx⟩ := He.ba cx
  obtain ⟨y6, cx⟩ := He.ba cx
  obtain ⟨y7, cx⟩ := He.ba cx
  obtain ⟨y8, y9⟩ := He.ba cx
  obtain ⟨fd0, F0⟩ := c.def_ 0 (d := dd_is_int) rfl
  obtain ⟨fd1, F1⟩ := c.def_ 1 (d := dd_is_row) rfl
  obtain ⟨fd2, F2⟩ := c.def_ 2 (d := dd_check_row) rfl
  obtain ⟨fd3, F3⟩ := c.def_ 3 (d := dd_Steps_init) rfl
  obtain ⟨fd4, F4⟩ := c.def_ 4 (d := dd_Steps_tells) rfl
  obtain ⟨fd5, F5⟩ := c.def_ 5 (d := dd_Steps_add) rfl
  obtain ⟨fd6, F6⟩ := c.def_ 6 (d := dd_steps_of) rfl
  obtain ⟨fd7, F7⟩ := c.def_ 7 (d := dd_is_answer) rfl
  obtain ⟨fd8, F8⟩ := c.def_ 8 (d := dd_is_record) rfl
  obtain ⟨fd9, F9⟩ := c.def_ 9 (d := dd_check_record) rfl
  obtain ⟨fd10, F10⟩ := c.def_ 10 (d := dd_format_row) rfl
  obtain ⟨fd11, F11⟩ := c.def_ 11 (d := dd_record_text) rfl
  obtain ⟨fd12, F12⟩ := c.def_ 12 (d := dd_format_record) rfl
  obtain ⟨fd13, F13⟩ := c.def_ 13 (d := dd_check_text) rfl
  obtain ⟨fd14, F14⟩ := c.def_ 14 (d := dd_number_in) rfl
  obtain ⟨fd15, F15⟩ := c.def_ 15 (d := dd_parse_row) rfl
  obtain ⟨fd16, F16⟩ := c.def_ 16 (d := dd_answer_in) rfl
  obtain ⟨fd17, F17⟩ := c.def_ 17 (d := dd_parse_record) rfl
  obtain ⟨fd18, F18⟩ := c.def_ 18 (d := dd_w_start) rfl
  obtain ⟨fd19, F19⟩ := c.def_ 19 (d := dd_w_draw) rfl
  obtain ⟨fd20, F20⟩ := c.def_ 20 (d := dd_w_pick) rfl
  obtain ⟨fd21, F21⟩ := c.def_ 21 (d := dd_w_error) rfl
  obtain ⟨fd22, F22⟩ := c.def_ 22 (d := dd_w_gaps) rfl
  obtain ⟨fd23, F23⟩ := c.def_ 23 (d := dd_w_simple) rfl
  obtain ⟨fd24, F24⟩ := c.def_ 24 (d := dd_w_way) rfl
  obtain ⟨fd25, F25⟩ := c.def_ 25 (d := dd_w_row) rfl
  obtain ⟨fd26, F26⟩ := c.def_ 26 (d := dd_w_tells) rfl
  obtain ⟨fd27, F27⟩ := c.def_ 27 (d := dd_w_less) rfl
  obtain ⟨fd28, F28⟩ := c.def_ 28 (d := dd_w_into) rfl
  obtain ⟨fd29, F29⟩ := c.def_ 29 (d := dd_w_inserted) rfl
  obtain ⟨fd30, F30⟩ := c.def_ 30 (d := dd_w_select) rfl
  obtain ⟨fd31, F31⟩ := c.def_ 31 (d := dd_w_pass) rfl
  obtain ⟨fd32, F32⟩ := c.def_ 32 (d := dd_w_bubble) rfl
  obtain ⟨fd33, F33⟩ := c.def_ 33 (d := dd_w_gapped) rfl
  obtain ⟨fd34, F34⟩ := c.def_ 34 (d := dd_w_merged) rfl
  obtain ⟨fd35, F35⟩ := c.def_ 35 (d := dd_w_merge) rfl
  obtain ⟨fd36, F36⟩ := c.def_ 36 (d := dd_w_pivot) rfl
  obtain ⟨fd37, F37⟩ := c.def_ 37 (d := dd_w_part) rfl
  obtain ⟨fd38, F38⟩ := c.def_ 38 (d := dd_w_swapped) rfl
  obtain ⟨fd39, F39⟩ := c.def_ 39 (d := dd_w_sunk) rfl
  obtain ⟨fd40, F40⟩ := c.def_ 40 (d := dd_w_heap) rfl
  obtain ⟨fd41, F41⟩ := c.def_ 41 (d := dd_w_tree) rfl
  obtain ⟨fd42, F42⟩ := c.def_ 42 (d := dd_w_ranks) rfl
  obtain ⟨fd43, F43⟩ := c.def_ 43 (d := dd_w_sort) rfl
  obtain ⟨fd44, F44⟩ := c.def_ 44 (d := dd_w_words) rfl
  obtain ⟨fd45, F45⟩ := c.def_ 45 (d := dd_w_signs) rfl
  obtain ⟨fd46, F46⟩ := c.def_ 46 (d := dd_w_parsed) rfl
  obtain ⟨fd47, F47⟩ := c.def_ 47 (d := dd_w_rejected) rfl
  obtain ⟨fd48, F48⟩ := c.def_ 48 (d := dd_law) rfl
  obtain ⟨t1, t2, t3, t4⟩ := He.exc_ok (c.fact 75 (f := .exc "BadText") rfl)
  obtain ⟨r1, r2, r3, r4⟩ := He.exc_ok (c.fact 76 (f := .exc "BadRow") rfl)
  obtain ⟨s1, s2, s3, s4⟩ := He.exc_ok (c.fact 77 (f := .exc "BadRecord") rfl)
  exact {
    d_is_int := ⟨_, fd0, He.glo_ok X G (c.fact 0 (f := .glo "is_int") rfl), F0⟩
    d_is_row := ⟨_, fd1, He.glo_ok X G (c.fact 1 (f := .glo "is_row") rfl), F1⟩
    d_check_row := ⟨_, fd2, He.glo_ok X G (c.fact 2 (f := .glo "check_row") rfl), F2⟩
    d_Steps_init := ⟨_, fd3, He.mkr_ok (c.fact 74 (f := .mkr "Steps") rfl), F3⟩
    d_Steps_tells := ⟨_, fd4, He.meth_ok (c.fact 72 (f := .meth "Steps" "tells") rfl), F4⟩
    d_Steps_add := ⟨_, fd5, He.meth_ok (c.fact 73 (f := .meth "Steps" "add") rfl), F5⟩
    d_steps_of := ⟨_, fd6, He.glo_ok X G (c.fact 3 (f := .glo "steps_of") rfl), F6⟩
    d_is_answer := ⟨_, fd7, He.glo_ok X G (c.fact 4 (f := .glo "is_answer") rfl), F7⟩
    d_is_record := ⟨_, fd8, He.glo_ok X G (c.fact 5 (f := .glo "is_record") rfl), F8⟩
    d_check_record := ⟨_, fd9, He.glo_ok X G (c.fact 6 (f := .glo "check_record") rfl), F9⟩
    d_format_row := ⟨_, fd10, He.glo_ok X G (c.fact 7 (f := .glo "format_row") rfl), F10⟩
    d_record_text := ⟨_, fd11, He.glo_ok X G (c.fact 8 (f := .glo "record_text") rfl), F11⟩
    d_format_record := ⟨_, fd12, He.glo_ok X G (c.fact 9 (f := .glo "format_record") rfl), F12⟩
    d_check_text := ⟨_, fd13, He.glo_ok X G (c.fact 10 (f := .glo "check_text") rfl), F13⟩
    d_number_in := ⟨_, fd14, He.glo_ok X G (c.fact 11 (f := .glo "number_in") rfl), F14⟩
    d_parse_row := ⟨_, fd15, He.glo_ok X G (c.fact 12 (f := .glo "parse_row") rfl), F15⟩
    d_answer_in := ⟨_, fd16, He.glo_ok X G (c.fact 13 (f := .glo "answer_in") rfl), F16⟩
    d_parse_record := ⟨_, fd17, He.glo_ok X G (c.fact 14 (f := .glo "parse_record") rfl), F17⟩
    d_w_start := ⟨_, fd18, He.glo_ok X G (c.fact 15 (f := .glo "_law_start") rfl), F18⟩
    d_w_draw := ⟨_, fd19, He.glo_ok X G (c.fact 16 (f := .glo "_law_draw") rfl), F19⟩
    d_w_pick := ⟨_, fd20, He.glo_ok X G (c.fact 17 (f := .glo "_law_pick") rfl), F20⟩
    d_w_error := ⟨_, fd21, He.glo_ok X G (c.fact 18 (f := .glo "_law_error") rfl), F21⟩
    d_w_gaps := ⟨_, fd22, He.glo_ok X G (c.fact 19 (f := .glo "_law_gaps") rfl), F22⟩
    d_w_simple := ⟨_, fd23, He.glo_ok X G (c.fact 20 (f := .glo "_law_simple") rfl), F23⟩
    d_w_way := ⟨_, fd24, He.glo_ok X G (c.fact 21 (f := .glo "_law_way") rfl), F24⟩
    d_w_row := ⟨_, fd25, He.glo_ok X G (c.fact 22 (f := .glo "_law_row") rfl), F25⟩
    d_w_tells := ⟨_, fd26, He.glo_ok X G (c.fact 23 (f := .glo "_law_tells") rfl), F26⟩
    d_w_less := ⟨_, fd27, He.glo_ok X G (c.fact 24 (f := .glo "_law_less") rfl), F27⟩
    d_w_into := ⟨_, fd28, He.glo_ok X G (c.fact 25 (f := .glo "_law_into") rfl), F28⟩
    d_w_inserted := ⟨_, fd29, He.glo_ok X G (c.fact 26 (f := .glo "_law_inserted") rfl), F29⟩
    d_w_select := ⟨_, fd30, He.glo_ok X G (c.fact 27 (f := .glo "_law_select") rfl), F30⟩
    d_w_pass := ⟨_, fd31, He.glo_ok X G (c.fact 28 (f := .glo "_law_pass") rfl), F31⟩
    d_w_bubble := ⟨_, fd32, He.glo_ok X G (c.fact 29 (f := .glo "_law_bubble") rfl), F32⟩
    d_w_gapped := ⟨_, fd33, He.glo_ok X G (c.fact 30 (f := .glo "_law_gapped") rfl), F33⟩
    d_w_merged := ⟨_, fd34, He.glo_ok X G (c.fact 31 (f := .glo "_law_merged") rfl), F34⟩
    d_w_merge := ⟨_, fd35, He.glo_ok X G (c.fact 32 (f := .glo "_law_merge") rfl), F35⟩
    d_w_pivot := ⟨_, fd36, He.glo_ok X G (c.fact 33 (f := .glo "_law_pivot") rfl), F36⟩
    d_w_part := ⟨_, fd37, He.glo_ok X G (c.fact 34 (f := .glo "_law_part") rfl), F37⟩
    d_w_swapped := ⟨_, fd38, He.glo_ok X G (c.fact 35 (f := .glo "_law_swapped") rfl), F38⟩
    d_w_sunk := ⟨_, fd39, He.glo_ok X G (c.fact 36 (f := .glo "_law_sunk") rfl), F39⟩
    d_w_heap := ⟨_, fd40, He.glo_ok X G (c.fact 37 (f := .glo "_law_heap") rfl), F40⟩
    d_w_tree := ⟨_, fd41, He.glo_ok X G (c.fact 38 (f := .glo "_law_tree") rfl), F41⟩
    d_w_ranks := ⟨_, fd42, He.glo_ok X G (c.fact 39 (f := .glo "_law_ranks") rfl), F42⟩
    d_w_sort := ⟨_, fd43, He.glo_ok X G (c.fact 40 (f := .glo "_law_sort") rfl), F43⟩
    d_w_words := ⟨_, fd44, He.glo_ok X G (c.fact 41 (f := .glo "_law_words") rfl), F44⟩
    d_w_signs := ⟨_, fd45, He.glo_ok X G (c.fact 42 (f := .glo "_law_signs") rfl), F45⟩
    d_w_parsed := ⟨_, fd46, He.glo_ok X G (c.fact 43 (f := .glo "_law_parsed") rfl), F46⟩
    d_w_rejected := ⟨_, fd47, He.glo_ok X G (c.fact 44 (f := .glo "_law_rejected") rfl), F47⟩
    d_law := ⟨_, fd48, He.glo_ok X G (c.fact 45 (f := .glo "law") rfl), F48⟩
    f_isinstance := He.free_ok X G (c.fact 46 (f := .free "isinstance") rfl)
    f_len := He.free_ok X G (c.fact 47 (f := .free "len") rfl)
    f_all := He.free_ok X G (c.fact 48 (f := .free "all") rfl)
    f_str := He.free_ok X G (c.fact 49 (f := .free "str") rfl)
    f_int := He.free_ok X G (c.fact 50 (f := .free "int") rfl)
    f_bool := He.free_ok X G (c.fact 51 (f := .free "bool") rfl)
    f_list := He.free_ok X G (c.fact 52 (f := .free "list") rfl)
    f_tuple := He.free_ok X G (c.fact 53 (f := .free "tuple") rfl)
    f_max := He.free_ok X G (c.fact 54 (f := .free "max") rfl)
    f_range := He.free_ok X G (c.fact 55 (f := .free "range") rfl)
    f_sorted := He.free_ok X G (c.fact 56 (f := .free "sorted") rfl)
    f_ValueError := He.free_ok X G (c.fact 57 (f := .free "ValueError") rfl)
    g_MOST := He.int_ok X G (c.fact 58 (f := .int "MOST_THINGS" 30) rfl)
    g_DIGITS := He.str_ok X G (c.fact 59 (f := .str "DIGITS" "0123456789") rfl)
    c_Steps := He.glo_ok X G (c.fact 60 (f := .glo "Steps") rfl)
    cl := He.cls_ok (c.fact 69 (f := .cls "Steps") rfl)
    n_size := He.noat_ok (c.fact 70 (f := .noat "Steps" "size") rfl)
    n_rows := He.noat_ok (c.fact 71 (f := .noat "Steps" "rows") rfl)
    e_sort := He.glo_ok X G (c.fact 61 (f := .glo "SortError") rfl)
    e_text := ⟨He.glo_ok X G (c.fact 62 (f := .glo "BadText") rfl), t1, t2, t3, t4⟩
    e_row := ⟨_, He.glo_ok X G (c.fact 64 (f := .glo "BadRow") rfl), r1, r2, r3, r4⟩
    e_rec := ⟨_, He.glo_ok X G (c.fact 65 (f := .glo "BadRecord") rfl), s1, s2, s3, s4⟩
    exc := ⟨He.eqO_ok x1, He.eqO_ok x2, of_decide_eq_true x3, x4, He.eqO_ok x5, He.eqO_ok x6, of_decide_eq_true x7, of_decide_eq_true x8⟩
    exm := He.exm_ok (c.fact 78 (f := .exm "BadText" "SortError" true) rfl)
    k_text := of_decide_eq_true y1
    k_sort := of_decide_eq_true y2
    k_ve := of_decide_eq_true y3
    k_BadWay := ⟨_, He.glo_ok X G (c.fact 63 (f := .glo "BadWay") rfl), of_decide_eq_true y4⟩
    k_BadRow := ⟨_, He.glo_ok X G (c.fact 64 (f := .glo "BadRow") rfl), of_decide_eq_true y5⟩
    k_BadRecord := ⟨_, He.glo_ok X G (c.fact 65 (f := .glo "BadRecord") rfl), of_decide_eq_true y6⟩
    k_BadAnswer := ⟨_, He.glo_ok X G (c.fact 66 (f := .glo "BadAnswer") rfl), of_decide_eq_true y7⟩
    k_BadNumber := ⟨_, He.glo_ok X G (c.fact 67 (f := .glo "BadNumber") rfl), of_decide_eq_true y8⟩
    k_NotFound := ⟨_, He.glo_ok X G (c.fact 68 (f := .glo "NotFound") rfl), of_decide_eq_true y9⟩
  }
theorem law_def {K : PySem.W.Frag} (c : SaysX K) : ∃ fd, FunD K "law" "law" (defArgs s_law) (defBody s_law) (defScope s_law) [] [] (He.ga K "law") fd := c.1.def_ 48 (d := dd_law) rfl
theorem law_glo {K : PySem.W.Frag} {h : Heap} {mg : Str → Option Value} (X : K.In h) (G : h.Ns mainGlobals mg) (c : SaysX K) : mg "law" = some (.ref (He.ga K "law")) := by
  obtain ⟨c, _⟩ := c
  exact He.glo_ok X G (c.fact 45 (f := .glo "law") rfl)
end K20
open PySem PySem.W PySem.Calls PyProof.Rows
theorem PySem.Challenge.cw_hiddensorters_k20_whole_record_texts_holds : PySem.Challenge.rw_hiddensorters_k20_whole_record_texts.Holds := by
  w_on; o_law
  refine HandSHeadRun.head_any (r := OpenLaw.row PySem.Challenge.rw_hiddensorters_k20_whole_record_texts) (q := view (OpenLaw.row PySem.Challenge.rw_hiddensorters_k20_whole_record_texts).prog [62]) (H := K20.hk) (ob := K20.ob) (M := 4000) (loose := K20.loose) (d := HandSHeadRun.topDef (OpenLaw.row PySem.Challenge.rw_hiddensorters_k20_whole_record_texts).prog 62) (kwd := []) K20.ob_eq
    (by kernel_rfl) (fun s => by kernel_rfl) K20.run (by kernel_rfl) (by kernel_rfl) (by kernel_rfl) (by rfl) (by first | assumption | decide +kernel) (by decide +kernel) ⟨rfl, rfl, rfl, rfl, rfl, by decide +kernel⟩ ?hw ?hc
  case hw => w_witness2
  case hc =>
    refine L2.walk_ofE (l := PySem.Challenge.rw_hiddensorters_k20_whole_record_texts) (n := 63) (k := 21) (x := "_law_script") (CX := L2.CX0) rfl (by decide) (by kernel_rfl) ⟨rfl, by decide, by decide⟩ ?F (fun _ _ _ _ z => z)
    intro w mg fa h Y G hmg0
    obtain ⟨K, KX, c⟩ := Y
    have hmg : mg ("law" : PySem.Str) = some (.ref fa) := by
      have e : (HandSHeadRun.topDef (OpenLaw.row PySem.Challenge.rw_hiddensorters_k20_whole_record_texts).prog 62).name = ("law" : PySem.Str) := by kernel_rfl
      rw [← e]
      exact hmg0
    obtain ⟨fd, F⟩ := K20.law_def c
    have e := hmg.symm.trans (K20.law_glo KX G c)
    cases e
    have b := L2.FunD.bindsA (ps := ["_law_script"]) F fun _ _ _ _ _ _ us hl => match us, hl with | [_], _ => rfl
    exact ⟨K, fd, K20.spLaw K, KX, fun s v => b s [v] rfl, fun H a ns hl _ hS => ⟨a, ns, rfl, hS, fun _ => rfl⟩, fun base _ _ => K20.fn_law (K20.txt KX G c) F⟩
